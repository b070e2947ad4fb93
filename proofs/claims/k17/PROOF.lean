import PyProof.Rows.All
import Wide.All
import OpenK.AllK
import Wide.FinOn
import HandS.ForExc
import HandS.ForMost
import HandS.Wide
import HandS.IsInst
import HandS.Lambda
import HandS.EndTab
import KE.SortData
import KE.SortKeyHeap
import KE.DataEq
import HandS.TupAny
import HandS.TupLe
import HandS.Flow
import HandS.Zip
import HandS.Ends
import HandS.SortInts
import HandS.Strs
import HandS.TupSets
import HandS.HotCalls
import HandS.ExcIs
import HandS.Style
import PyProof.StrOps2
import HandS.Text
import HandS.Iter
import KE.IntTextLaws
import PySem.Challenge.RW_curvefracs_k17_texts
set_option Elab.async false
set_option maxRecDepth 100000
set_option linter.all false
set_option maxHeartbeats 4000000
set_option exponentiation.threshold 20000

namespace DL
open PySem L2

/-! ### data without a heap -/
inductive D where
  | non | bl (b : Bool) | int (i : Int) | str (s : Str) | tup (l : List D) | lst (l : List D) | dct (kvs : List (Int × Int)) | scr (ns : List Int) | exc (a : Addr)

def dctV (kvs : List (Int × Int)) : List (Key × V) := kvs.map fun p => (Sum.inl p.1, V.int p.2)
mutual
inductive At (K : PySem.W.Frag) (F : Hp) : V → D → Prop
  | non : At K F .non .non
  | bl (b : Bool) : At K F (.bl b) (.bl b)
  | int (i : Int) : At K F (.int i) (.int i)
  | str (x : Str) : At K F (.str x) (.str x)
  | lst {a : Addr} {xs : List V} {ds : List D} : F a = some (.lst xs) → AtAll K F xs ds → At K F (.ref a) (.lst ds)
  | tup {a : Addr} {xs : List V} {ds : List D} : SqT K F a xs → AtAll K F xs ds → At K F (.ref a) (.tup ds)
  | dct {a : Addr} {kvs : List (Int × Int)} : F a = some (.dK (dctV kvs)) → At K F (.ref a) (.dct kvs)
  | scr {a : Addr} {ns : List Int} : SqL K F a (ns.map V.int) → At K F (.ref a) (.scr ns)
  | exc (a : Addr) : At K F (.ref a) (.exc a)
inductive AtAll (K : PySem.W.Frag) (F : Hp) : List V → List D → Prop
  | nil : AtAll K F [] []
  | cons {v : V} {vs : List V} {d : D} {ds : List D} : At K F v d → AtAll K F vs ds → AtAll K F (v :: vs) (d :: ds)
end
theorem Same.sqT {K : PySem.W.Frag} {H H' : Hp} {a : Addr} {xs : List V} (e : Same H H') (h : SqT K H a xs) : SqT K H' a xs := by
  rcases h with (h | ⟨o, h⟩) | h
  · exact .inl (.inl (e _ _ h))
  · exact .inl (.inr ⟨o, e _ _ h⟩)
  · exact .inr h
section
variable {K : PySem.W.Frag} {F F' : Hp}
mutual
theorem At.mono (h : Same F F') : ∀ {v : V} {d : D}, At K F v d → At K F' v d
  | _, _, .non => .non
  | _, _, .bl b => .bl b
  | _, _, .int i => .int i
  | _, _, .str x => .str x
  | _, _, .lst q r => .lst (h _ _ q) (AtAll.mono h r)
  | _, _, .tup q r => .tup (Same.sqT h q) (AtAll.mono h r)
  | _, _, .dct q => .dct (h _ _ q)
  | _, _, .scr q => .scr (h.seq q)
  | _, _, .exc a => .exc a
theorem AtAll.mono (h : Same F F') : ∀ {vs : List V} {ds : List D}, AtAll K F vs ds → AtAll K F' vs ds
  | _, _, .nil => .nil
  | _, _, .cons q r => .cons (At.mono h q) (AtAll.mono h r)
end
theorem AtAll.length : ∀ {vs : List V} {ds : List D}, AtAll K F vs ds → vs.length = ds.length
  | _, _, .nil => rfl
  | _, _, .cons _ r => congrArg (· + 1) (AtAll.length r)
theorem AtAll.get : ∀ {vs : List V} {ds : List D} {i : Nat} {d : D}, AtAll K F vs ds → ds[i]? = some d → ∃ v, vs[i]? = some v ∧ At K F v d
  | _, _, _, _, .nil, e => by simp at e
  | _, _, 0, _, .cons q _, e => by simp at e; subst e; exact ⟨_, rfl, q⟩
  | _, _, i + 1, d, .cons _ r, e => by
    obtain ⟨v, h1, h2⟩ := AtAll.get (i := i) (d := d) r (by simpa using e)
    exact ⟨v, by simpa using h1, h2⟩
theorem AtAll.append : ∀ {vs ws : List V} {ds es : List D}, AtAll K F vs ds → AtAll K F ws es → AtAll K F (vs ++ ws) (ds ++ es)
  | _, _, _, _, .nil, s => s
  | _, _, _, _, .cons q r, s => .cons q (AtAll.append r s)
theorem AtAll.take : ∀ {vs : List V} {ds : List D} (n : Nat), AtAll K F vs ds → AtAll K F (vs.take n) (ds.take n)
  | _, _, 0, _ => .nil
  | _, _, _ + 1, .nil => .nil
  | _, _, n + 1, .cons q r => .cons q (AtAll.take n r)
theorem AtAll.drop : ∀ {vs : List V} {ds : List D} (n : Nat), AtAll K F vs ds → AtAll K F (vs.drop n) (ds.drop n)
  | _, _, 0, r => r
  | _, _, _ + 1, .nil => .nil
  | _, _, n + 1, .cons _ r => AtAll.drop n r
theorem AtAll.set {v : V} {d : D} (q : At K F v d) : ∀ {vs : List V} {ds : List D} (i : Nat), AtAll K F vs ds → AtAll K F (vs.set i v) (ds.set i d)
  | _, _, _, .nil => .nil
  | _, _, 0, .cons _ r => .cons q r
  | _, _, i + 1, .cons p r => .cons p (AtAll.set q i r)
theorem AtAll.ints : ∀ {vs : List V} {ns : List Int}, AtAll K F vs (ns.map D.int) → vs = ns.map V.int
  | _, [], h => by cases h; rfl
  | _, n :: ns, h => by
    cases h with
    | cons q r => cases q; rw [AtAll.ints r]; rfl
theorem AtAll.of_ints : ∀ (ns : List Int), AtAll K F (ns.map V.int) (ns.map D.int)
  | [] => .nil
  | _ :: ns => .cons (.int _) (AtAll.of_ints ns)
theorem AtAll.strs : ∀ {vs : List V} {ns : List Str}, AtAll K F vs (ns.map D.str) → vs = ns.map V.str
  | _, [], h => by cases h; rfl
  | _, n :: ns, h => by
    cases h with
    | cons q r => cases q; rw [AtAll.strs r]; rfl
theorem AtAll.of_strs : ∀ (ns : List Str), AtAll K F (ns.map V.str) (ns.map D.str)
  | [] => .nil
  | _ :: ns => .cons (.str _) (AtAll.of_strs ns)
theorem AtAll.bls : ∀ {vs : List V} {ns : List Bool}, AtAll K F vs (ns.map D.bl) → vs = ns.map V.bl
  | _, [], h => by cases h; rfl
  | _, n :: ns, h => by
    cases h with
    | cons q r => cases q; rw [AtAll.bls r]; rfl
end

/-! ### what python's == makes of it -/
mutual
def D.py : D → PyData
  | .non => .none | .bl b => .bool b | .int i => .int i | .str s => .str s
  | .tup l => .tuple (D.pys l) | .lst l => .list (D.pys l) | .dct _ => .dict [] | .scr _ => .dict [] | .exc _ => .dict []
def D.pys : List D → List PyData
  | [] => []
  | d :: ds => D.py d :: D.pys ds
end
section
variable {K : PySem.W.Frag} {F : Hp}
mutual
theorem At.dp : ∀ {v : V} {d : D}, At K F v d → d.py.plain = true → Dp K F v d.py
  | _, _, .non, _ => .non
  | _, _, .bl b, _ => .bl b
  | _, _, .int i, _ => .int i
  | _, _, .str x, _ => .str x
  | _, _, .lst q r, h => .lst (SqL.of q) (AtAll.dp r (by simpa [D.py, PyData.plain] using h))
  | _, _, .tup q r, h => .tup q (AtAll.dp r (by simpa [D.py, PyData.plain] using h))
  | _, _, .dct q, h => by simp [D.py, PyData.plain] at h
  | _, _, .scr q, h => by simp [D.py, PyData.plain] at h
  | _, _, .exc q, h => by simp [D.py, PyData.plain] at h
theorem AtAll.dp : ∀ {vs : List V} {ds : List D}, AtAll K F vs ds → PyData.plainAll (D.pys ds) = true → DpAll K F vs (D.pys ds)
  | _, _, .nil, _ => .nil
  | _, _, .cons q r, h => by
    simp [D.pys, PyData.plainAll] at h
    exact .cons (At.dp q h.1) (AtAll.dp r h.2)
end
mutual
theorem Dp.mono' {H H' : Hp} (h : Same H H') : ∀ {v : V} {d : PyData}, Dp K H v d → Dp K H' v d
  | _, _, .non => .non
  | _, _, .bl b => .bl b
  | _, _, .int i => .int i
  | _, _, .str x => .str x
  | _, _, .lst q r => .lst (h.seq q) (DpAll.mono' h r)
  | _, _, .tup q r => .tup (Same.sqT h q) (DpAll.mono' h r)
theorem DpAll.mono' {H H' : Hp} (h : Same H H') : ∀ {vs : List V} {ds : List PyData}, DpAll K H vs ds → DpAll K H' vs ds
  | _, _, .nil => .nil
  | _, _, .cons q r => .cons (Dp.mono' h q) (DpAll.mono' h r)
end
end

/-! ### the heap in two: F is what nobody changes any more -/
/-- the tables of code objects, each with the name that its code objects bear -/
class Tb where
  T : List (Addr × Str)
section
variable [Tb]
/-- all but those tables stays -/
structure Ex (H H' : Hp) : Prop where
  ob : LamX.ExtN H H'
  tb : LamX.Tabs Tb.T H → LamX.Tabs Tb.T H'
/-- free, or a table's -/
def NF (H : Hp) (p : Addr) : Prop := ∀ u, H p = some u → ∃ ps, u = .tbl ps
theorem Same.ex {H H' : Hp} (s : Same H H') : Ex H H' := ⟨LamX.ExtN.of s, fun t => t.ext s⟩
theorem Ex.refl (H : Hp) : Ex H H := ⟨LamX.ExtN.refl H, fun t => t⟩
theorem Ex.trans {H H1 H2 : Hp} (a : Ex H H1) (b : Ex H1 H2) : Ex H H2 := ⟨a.ob.trans b.ob, fun t => b.tb (a.tb t)⟩
theorem Ex.lst {H H' : Hp} (e : Ex H H') {p : Addr} {xs : List V} (h : H p = some (.lst xs)) : H' p = some (.lst xs) := e.ob _ _ h fun _ z => HO.noConfusion z
theorem Ex.nf {H H' : Hp} (e : Ex H H') {p : Addr} (h : NF H' p) : NF H p := fun u hu => Classical.byContradiction fun n => n (h u (e.ob _ _ hu fun ps z => n ⟨ps, z⟩))
theorem nf_none {H : Hp} {p : Addr} (h : H p = none) : NF H p := fun u z => by rw [h] at z; cases z
theorem Ex.nfree {H H' : Hp} (e : Ex H H') {p : Addr} (h : H' p = none) : NF H p := e.nf (nf_none h)
theorem NF.ne {H : Hp} {p b : Addr} {u : HO} (h : NF H p) (e : H b = some u) (n : ∀ ps, u ≠ .tbl ps) : b ≠ p := fun z => by
  subst z
  obtain ⟨ps, z⟩ := h u e
  exact n ps z
structure Stp (F H F' H' : Hp) : Prop where
  hh : Ex H H'
  ff : Same F F'
  fs : Same F' H'
  nw : ∀ b u, H b = some u → (∀ ps, u ≠ .tbl ps) → F b = none → F' b = none
  nt : ∀ b ps, F' b = some (.tbl ps) → F b = some (.tbl ps)
theorem Stp.refl {F H : Hp} (s : Same F H) : Stp F H F H := ⟨Ex.refl _, Same.refl _, s, fun _ _ _ _ h => h, fun _ _ h => h⟩
theorem Stp.trans {F H F1 H1 F2 H2 : Hp} (a : Stp F H F1 H1) (b : Stp F1 H1 F2 H2) : Stp F H F2 H2 :=
  ⟨a.hh.trans b.hh, a.ff.trans b.ff, b.fs, fun c u h n q => b.nw c u (a.hh.ob _ _ h n) n (a.nw c u h n q), fun c ps h => a.nt c ps (b.nt c ps h)⟩
theorem Stp.lnw {F H F' H' : Hp} (s : Stp F H F' H') {p : Addr} {xs : List V} (h : H p = some (.lst xs)) (n : F p = none) : F' p = none := s.nw p _ h (fun _ z => HO.noConfusion z) n
theorem same_upd {H : Hp} {p : Addr} (h : H p = none) (o : HO) : Same H (upd H p o) := fun b u q => by rw [upd_ne (ne_of_none q h)]; exact q
/-- a new object that nobody changes -/
theorem Stp.new {F H : Hp} (s : Same F H) {p : Addr} (hp : H p = none) (o : HO) (ho : ∀ ps, o ≠ .tbl ps := by intro _ z; cases z) : Stp F H (upd F p o) (upd H p o) where
  hh := Same.ex (same_upd hp o)
  ff := same_upd (s.free hp) o
  fs := fun b u q => by
    by_cases e : b = p
    · subst e; rw [upd_same] at q ⊢; exact q
    · rw [upd_ne e] at q ⊢; exact s b u q
  nw := fun b u hb _ hn => by
    have e : b ≠ p := fun e => by subst e; rw [hp] at hb; cases hb
    rw [upd_ne e]; exact hn
  nt := fun b ps q => by
    by_cases e : b = p
    · subst e; rw [upd_same] at q; cases q; exact absurd rfl (ho ps)
    · rw [upd_ne e] at q; exact q
/-- a new object that is kept apart -/
theorem Stp.own {F H : Hp} (s : Same F H) {p : Addr} (hp : H p = none) (o : HO) : Stp F H F (upd H p o) where
  hh := Same.ex (same_upd hp o)
  ff := Same.refl _
  fs := fun b u q => by
    have e : b ≠ p := fun e => by subst e; rw [s.free hp] at q; cases q
    rw [upd_ne e]; exact s b u q
  nw := fun _ _ _ _ h => h
  nt := fun _ _ h => h
/-- a list is written: the tables stay tables -/
theorem tabs_upd {H : Hp} {T : List (Addr × Str)} {p : Addr} {xs ys : List V} (t : LamX.Tabs T H) (hp : H p = some (.lst xs)) : LamX.Tabs T (upd H p (.lst ys)) := fun q hq => by
  obtain ⟨ps, h1, h2, h3⟩ := t q hq
  have n1 : q.1 ≠ p := fun e => by rw [e, hp] at h1; cases h1
  refine ⟨ps, by rw [upd_ne n1]; exact h1, h2, fun pos cv hc => ?_⟩
  obtain ⟨c, e1, e2⟩ := h3 pos cv hc
  have n2 : c ≠ p := fun e => by rw [e, hp] at e2; cases e2
  exact ⟨c, e1, by rw [upd_ne n2]; exact e2⟩

/-! ### the slots -/
inductive Sl where
  | d (d : D)
  | own (ds : List D)
abbrev Rho := List (Option Sl)

structure EnvAt (K : PySem.W.Frag) (F0 H0 F H : Hp) (σ : L2.St) (ρ : Rho) : Prop where
  fs : Same F H
  st : Stp F0 H0 F H
  dd : ∀ (i : Nat) (d : D), ρ[i]? = some (some (.d d)) → ∃ v, σ[i]? = some (some v) ∧ At K F v d
  ow : ∀ (i : Nat) (ds : List D), ρ[i]? = some (some (.own ds)) → ∃ p xs, σ[i]? = some (some (.ref p)) ∧ H p = some (.lst xs) ∧ F p = none ∧ NF H0 p ∧ AtAll K F xs ds
  sep : ∀ (i j : Nat) (ds es : List D) (p : Addr), ρ[i]? = some (some (.own ds)) → ρ[j]? = some (some (.own es)) → σ[i]? = some (some (.ref p)) → σ[j]? = some (some (.ref p)) → i = j
  len : σ.length = ρ.length
  nt : ∀ b ps, F b ≠ some (.tbl ps)
  tb : LamX.Tabs Tb.T H

theorem EnvAt.step {K : PySem.W.Frag} {F0 H0 F H F' H' : Hp} {σ : L2.St} {ρ : Rho} (E : EnvAt K F0 H0 F H σ ρ) (s : Stp F H F' H') : EnvAt K F0 H0 F' H' σ ρ where
  fs := s.fs
  st := E.st.trans s
  dd := fun i d e => by
    obtain ⟨v, h1, h2⟩ := E.dd i d e
    exact ⟨v, h1, h2.mono s.ff⟩
  ow := fun i ds e => by
    obtain ⟨p, xs, h1, h2, h3, h4, h5⟩ := E.ow i ds e
    exact ⟨p, xs, h1, s.hh.lst h2, s.lnw h2 h3, h4, h5.mono s.ff⟩
  sep := E.sep
  len := E.len
  nt := fun b ps z => E.nt b ps (s.nt b ps z)
  tb := s.hh.tb E.tb
theorem setget {α : Type} {l : List α} {i j : Nat} {a b : α} (h : (l.set i a)[j]? = some b) : (i = j ∧ i < l.length ∧ a = b) ∨ (i ≠ j ∧ l[j]? = some b) := by
  by_cases e : i = j
  · subst e
    by_cases hl : i < l.length
    · rw [List.getElem?_set_self hl] at h
      exact .inl ⟨rfl, hl, Option.some.inj h⟩
    · rw [List.getElem?_eq_none (by simp; omega)] at h
      cases h
  · rw [List.getElem?_set_ne e] at h
    exact .inr ⟨e, h⟩
/-- a slot takes data -/
theorem EnvAt.set {K : PySem.W.Frag} {F0 H0 F H : Hp} {σ : L2.St} {ρ : Rho} {i : Nat} {v : V} {d : D} (E : EnvAt K F0 H0 F H σ ρ) (a : At K F v d) : EnvAt K F0 H0 F H (σ.set i (some v)) (ρ.set i (some (.d d))) where
  fs := E.fs
  st := E.st
  dd := fun j e h => by
    rcases setget h with ⟨rfl, hl, z⟩ | ⟨hne, h⟩
    · cases z
      exact ⟨v, by rw [List.getElem?_set_self (by rw [E.len]; exact hl)], a⟩
    · obtain ⟨u, h1, h2⟩ := E.dd j e h
      exact ⟨u, by rw [List.getElem?_set_ne hne]; exact h1, h2⟩
  ow := fun j ds h => by
    rcases setget h with ⟨_, _, z⟩ | ⟨hne, h⟩
    · cases z
    · obtain ⟨p, xs, h1, h2⟩ := E.ow j ds h
      exact ⟨p, xs, by rw [List.getElem?_set_ne hne]; exact h1, h2⟩
  sep := fun j k ds es p h1 h2 h3 h4 => by
    rcases setget h1 with ⟨_, _, z⟩ | ⟨hne, h1⟩
    · cases z
    rcases setget h2 with ⟨_, _, z⟩ | ⟨hne2, h2⟩
    · cases z
    rw [List.getElem?_set_ne hne] at h3
    rw [List.getElem?_set_ne hne2] at h4
    exact E.sep j k ds es p h1 h2 h3 h4
  len := by rw [List.length_set, List.length_set, E.len]
  nt := E.nt
  tb := E.tb
/-- a slot takes a new list of its own -/
theorem EnvAt.setOwn {K : PySem.W.Frag} {F0 H0 F H : Hp} {σ : L2.St} {ρ : Rho} {i : Nat} {p : Addr} {xs : List V} {ds : List D} (E : EnvAt K F0 H0 F H σ ρ) (hp : H p = some (.lst xs)) (hf : F p = none) (h0 : NF H0 p) (a : AtAll K F xs ds)
    (new : ∀ (j : Nat) (es : List D), ρ[j]? = some (some (Sl.own es)) → σ[j]? ≠ some (some (V.ref p))) : EnvAt K F0 H0 F H (σ.set i (some (.ref p))) (ρ.set i (some (.own ds))) where
  fs := E.fs
  st := E.st
  dd := fun j e h => by
    rcases setget h with ⟨_, _, z⟩ | ⟨hne, h⟩
    · cases z
    · obtain ⟨u, h1, h2⟩ := E.dd j e h
      exact ⟨u, by rw [List.getElem?_set_ne hne]; exact h1, h2⟩
  ow := fun j es h => by
    rcases setget h with ⟨rfl, hl, z⟩ | ⟨hne, h⟩
    · cases z
      exact ⟨p, xs, by rw [List.getElem?_set_self (by rw [E.len]; exact hl)], hp, hf, h0, a⟩
    · obtain ⟨q, ys, h1, h2⟩ := E.ow j es h
      exact ⟨q, ys, by rw [List.getElem?_set_ne hne]; exact h1, h2⟩
  sep := fun j k es es' q h1 h2 h3 h4 => by
    rcases setget h1 with ⟨e1, l1, z1⟩ | ⟨n1, h1⟩
    · rcases setget h2 with ⟨e2, l2, z2⟩ | ⟨n2, h2⟩
      · omega
      · subst e1
        rw [List.getElem?_set_self (by rw [E.len]; exact l1)] at h3
        rw [List.getElem?_set_ne n2] at h4
        cases h3
        exact absurd h4 (new k es' h2)
    · rcases setget h2 with ⟨e2, l2, z2⟩ | ⟨n2, h2⟩
      · subst e2
        rw [List.getElem?_set_self (by rw [E.len]; exact l2)] at h4
        rw [List.getElem?_set_ne n1] at h3
        cases h4
        exact absurd h3 (new j es h1)
      · rw [List.getElem?_set_ne n1] at h3
        rw [List.getElem?_set_ne n2] at h4
        exact E.sep j k es es' q h1 h2 h3 h4
  len := by rw [List.length_set, List.length_set, E.len]
  nt := E.nt
  tb := E.tb
/-- a list of one's own changes -/
theorem EnvAt.chg {K : PySem.W.Frag} {F0 H0 F H : Hp} {σ : L2.St} {ρ : Rho} {i : Nat} {p : Addr} {ys : List V} {ds es : List D} (E : EnvAt K F0 H0 F H σ ρ) (hi : ρ[i]? = some (some (.own ds))) (hp : σ[i]? = some (some (.ref p))) (a : AtAll K F ys es) :
    EnvAt K F0 H0 F (upd H p (.lst ys)) σ (ρ.set i (some (.own es))) := by
  obtain ⟨p', xs, e1, e2, e3, e4, e5⟩ := E.ow i ds hi
  rw [hp] at e1
  cases e1
  have fs : Same F (upd H p (.lst ys)) := fun b u q => by
    have e : b ≠ p := fun e => by subst e; rw [e3] at q; cases q
    rw [upd_ne e]; exact E.fs b u q
  have hl : i < ρ.length := (List.getElem?_eq_some_iff.mp hi).1
  refine ⟨fs, ⟨⟨fun b u q n => ?_, fun _ => tabs_upd E.tb e2⟩, E.st.ff, fs, E.st.nw, E.st.nt⟩, fun j d h => ?_, fun j fs' h => ?_, fun j k a1 a2 q h1 h2 h3 h4 => ?_, by rw [List.length_set, E.len], E.nt, tabs_upd E.tb e2⟩
  · rw [upd_ne (e4.ne q n)]; exact E.st.hh.ob b u q n
  · rcases setget h with ⟨_, _, z⟩ | ⟨hne, h⟩
    · cases z
    · exact E.dd j d h
  · rcases setget h with ⟨rfl, _, z⟩ | ⟨hne, h⟩
    · cases z
      exact ⟨p, ys, hp, upd_same, e3, e4, a⟩
    · obtain ⟨q, zs, h1, h2, h3, h4, h5⟩ := E.ow j fs' h
      have e : q ≠ p := fun e => by subst e; exact hne (E.sep i j ds fs' q hi h hp h1)
      exact ⟨q, zs, h1, by rw [upd_ne e]; exact h2, h3, h4, h5⟩
  · have g1 : ∃ b1, ρ[j]? = some (some (.own b1)) := by
      rcases setget h1 with ⟨rfl, _, _⟩ | ⟨_, h1⟩
      · exact ⟨_, hi⟩
      · exact ⟨_, h1⟩
    have g2 : ∃ b1, ρ[k]? = some (some (.own b1)) := by
      rcases setget h2 with ⟨rfl, _, _⟩ | ⟨_, h2⟩
      · exact ⟨_, hi⟩
      · exact ⟨_, h2⟩
    obtain ⟨b1, g1⟩ := g1
    obtain ⟨b2, g2⟩ := g2
    exact E.sep j k b1 b2 q g1 g2 h3 h4
/-- .. and from now on it does not -/
theorem EnvAt.freeze {K : PySem.W.Frag} {F0 H0 F H : Hp} {σ : L2.St} {ρ : Rho} {i : Nat} {ds : List D} (E : EnvAt K F0 H0 F H σ ρ) (hi : ρ[i]? = some (some (.own ds))) : ∃ F', Same F F' ∧ EnvAt K F0 H0 F' H σ (ρ.set i (some (.d (.lst ds)))) := by
  obtain ⟨p, xs, e1, e2, e3, e4, e5⟩ := E.ow i ds hi
  have ff : Same F (upd F p (.lst xs)) := same_upd e3 _
  have fs : Same (upd F p (.lst xs)) H := fun b u q => by
    by_cases e : b = p
    · subst e; rw [upd_same] at q; cases q; exact e2
    · rw [upd_ne e] at q; exact E.fs b u q
  have hl : i < ρ.length := (List.getElem?_eq_some_iff.mp hi).1
  have nt : ∀ b ps, upd F p (.lst xs) b ≠ some (.tbl ps) := fun b ps z => by
    by_cases e : b = p
    · subst e; rw [upd_same] at z; cases z
    · rw [upd_ne e] at z; exact E.nt b ps z
  refine ⟨upd F p (.lst xs), ff, ⟨fs, ⟨E.st.hh, E.st.ff.trans ff, fs, fun b u h1 n h2 => ?_, fun b ps z => absurd z (nt b ps)⟩, fun j d h => ?_, fun j es h => ?_, fun j k a1 a2 q h1 h2 h3 h4 => ?_, by rw [List.length_set, E.len], nt, E.tb⟩⟩
  · rw [upd_ne (e4.ne h1 n)]; exact E.st.nw b u h1 n h2
  · rcases setget h with ⟨rfl, _, z⟩ | ⟨hne, h⟩
    · cases z
      exact ⟨_, e1, .lst upd_same (e5.mono ff)⟩
    · obtain ⟨u, h1, h2⟩ := E.dd j d h
      exact ⟨u, h1, h2.mono ff⟩
  · rcases setget h with ⟨_, _, z⟩ | ⟨hne, h⟩
    · cases z
    · obtain ⟨q, zs, h1, h2, h3, h4, h5⟩ := E.ow j es h
      have e : q ≠ p := fun e => by subst e; exact hne (E.sep i j ds es q hi h e1 h1)
      exact ⟨q, zs, h1, h2, by rw [upd_ne e]; exact h3, h4, h5.mono ff⟩
  · rcases setget h1 with ⟨_, _, z⟩ | ⟨_, h1⟩
    · cases z
    rcases setget h2 with ⟨_, _, z⟩ | ⟨_, h2⟩
    · cases z
    exact E.sep j k a1 a2 q h1 h2 h3 h4
end
end DL

namespace DL
open PySem L2
variable [Tb]

/-! ### judgements over data -/
abbrev RJ (α : Type) := Hp → Hp → V → α → Prop
/-- what an expression is worth: by the slots' data, without a heap -/
abbrev DJ (α : Type) := Rho → (α → Prop) → Prop
abbrev DE := DJ D
abbrev DT := DJ Bool
abbrev DA := DJ (List D)
structure DEnds where
  nx : Rho → Prop
  rt : D → Prop
  bk : Rho → Prop := fun _ => False
  ct : Rho → Prop := fun _ => False
abbrev DS := DEnds → Rho → Prop
abbrev RD (K : PySem.W.Frag) : RJ D := fun F _ v d => At K F v d
/-- a list that may be read: of one's own, frozen, or new -/
abbrev RL (K : PySem.W.Frag) : RJ (List D) := fun F H v ds => ∃ p xs, v = .ref p ∧ H p = some (.lst xs) ∧ AtAll K F xs ds
def Stable {α : Type} (R : RJ α) : Prop := ∀ (F H F' H' : Hp) (v : V) (a : α), Stp F H F' H' → R F H v a → R F' H' v a
theorem RD.stable {K : PySem.W.Frag} : Stable (RD K) := fun _ _ _ _ _ _ s h => At.mono s.ff h
theorem RL.stable {K : PySem.W.Frag} : Stable (RL K) := fun _ _ _ _ _ _ s ⟨p, xs, e, h, a⟩ => ⟨p, xs, e, s.hh.lst h, a.mono s.ff⟩

section
variable (K : PySem.W.Frag) (F0 H0 : Hp)
def lJ {α : Type} (R : RJ α) (t : DJ α) : TE := fun σ H Q => ∃ F ρ QQ, EnvAt K F0 H0 F H σ ρ ∧ t ρ QQ ∧ ∀ a v F' H', QQ a → Stp F H F' H' → R F' H' v a → Q v H'
def lN (t : DA) : TE := fun σ H Q => ∃ F ρ QQ, EnvAt K F0 H0 F H σ ρ ∧ t ρ QQ ∧ ∀ ds p xs F' H', QQ ds → Stp F H F' H' → NF H p → H' p = some (.lst xs) → F' p = none → AtAll K F' xs ds → Q (.ref p) H'
def lT (t : DT) : TT := fun σ H Q => ∃ F ρ QQ, EnvAt K F0 H0 F H σ ρ ∧ t ρ QQ ∧ ∀ b F' H', QQ b → Stp F H F' H' → Q b H'
def lA (t : DA) : TA := fun σ H Q => ∃ F ρ QQ, EnvAt K F0 H0 F H σ ρ ∧ t ρ QQ ∧ ∀ ds vs F' H', QQ ds → Stp F H F' H' → AtAll K F' vs ds → Q vs H'
structure Lnk (F : Hp) (E : Ends) (DD : DEnds) : Prop where
  nx : ∀ ρ σ F' H', DD.nx ρ → Same F F' → EnvAt K F0 H0 F' H' σ ρ → E.nx σ H'
  bk : ∀ ρ σ F' H', DD.bk ρ → Same F F' → EnvAt K F0 H0 F' H' σ ρ → E.bk σ H'
  ct : ∀ ρ σ F' H', DD.ct ρ → Same F F' → EnvAt K F0 H0 F' H' σ ρ → E.ct σ H'
  rt : ∀ d v F' H', DD.rt d → Same F F' → Stp F0 H0 F' H' → At K F' v d → E.rt v H'
def lS (t : DS) : TS := fun E σ H => ∃ F ρ DD, EnvAt K F0 H0 F H σ ρ ∧ t DD ρ ∧ Lnk K F0 H0 F E DD
end
theorem Lnk.mono {K : PySem.W.Frag} {F0 H0 F F1 : Hp} {E : Ends} {DD : DEnds} (l : Lnk K F0 H0 F E DD) (s : Same F F1) : Lnk K F0 H0 F1 E DD :=
  ⟨fun ρ σ F' H' a b c => l.nx ρ σ F' H' a (s.trans b) c, fun ρ σ F' H' a b c => l.bk ρ σ F' H' a (s.trans b) c, fun ρ σ F' H' a b c => l.ct ρ σ F' H' a (s.trans b) c, fun d v F' H' a b c e => l.rt d v F' H' a (s.trans b) c e⟩

structure PJ {α : Type} (X : Cx) (F0 H0 : Hp) (R : RJ α) (e : Expr) (t : DJ α) : Prop where
  pe : PE X e (lJ X.K F0 H0 R t)
structure PN (X : Cx) (F0 H0 : Hp) (e : Expr) (t : DA) : Prop where
  pe : PE X e (lN X.K F0 H0 t)
structure PTD (X : Cx) (F0 H0 : Hp) (e : Expr) (t : DT) : Prop where
  pt : PT X e (lT X.K F0 H0 t)
structure PWD (X : Cx) (F0 H0 : Hp) (e : Expr) (t : DT) : Prop where
  pw : PW X e (lT X.K F0 H0 t)
structure PAD (X : Cx) (F0 H0 : Hp) (es : List Expr) (t : DA) : Prop where
  pa : PA X es (lA X.K F0 H0 t)
structure PSD (X : Cx) (F0 H0 : Hp) (st : Stmt) (t : DS) : Prop where
  ps : PS X st (lS X.K F0 H0 t)
structure PSsD (X : Cx) (F0 H0 : Hp) (sts : List Stmt) (t : DS) : Prop where
  ps : PSs X sts (lS X.K F0 H0 t)
abbrev PD (X : Cx) (F0 H0 : Hp) (e : Expr) (t : DE) : Prop := PJ X F0 H0 (RD X.K) e t
abbrev PL (X : Cx) (F0 H0 : Hp) (e : Expr) (t : DA) : Prop := PJ X F0 H0 (RL X.K) e t

section
variable {X : Cx} {F0 H0 : Hp}
theorem pe_imp {e : Expr} {t t' : TE} (h : PE X e t) (w : ∀ σ H Q, t' σ H Q → t σ H Q) : PE X e t' := ⟨fun pins s σ H Q I q => h.run pins s σ H Q I (w σ H Q q)⟩
theorem pt_imp {e : Expr} {t t' : TT} (h : PT X e t) (w : ∀ σ H Q, t' σ H Q → t σ H Q) : PT X e t' := ⟨fun pins s σ H Q I q => h.run pins s σ H Q I (w σ H Q q)⟩
theorem pw_imp {e : Expr} {t t' : TT} (h : PW X e t) (w : ∀ σ H Q, t' σ H Q → t σ H Q) : PW X e t' := ⟨fun wh pins s σ H Q I q => h.run wh pins s σ H Q I (w σ H Q q)⟩
theorem pa_imp {e : List Expr} {t t' : TA} (h : PA X e t) (w : ∀ σ H Q, t' σ H Q → t σ H Q) : PA X e t' := ⟨fun pos pins s σ H Q I q => h.run pos pins s σ H Q I (w σ H Q q)⟩
theorem ps_imp {e : Stmt} {t t' : TS} (h : PS X e t) (w : ∀ D σ H, t' D σ H → t D σ H) : PS X e t' := ⟨fun pins s σ H D I q => h.run pins s σ H D I (w D σ H q)⟩
theorem pss_imp {e : List Stmt} {t t' : TS} (h : PSs X e t) (w : ∀ D σ H, t' D σ H → t D σ H) : PSs X e t' := ⟨fun pins s σ H D I q => h.run pins s σ H D I (w D σ H q)⟩

/-! ### names, constants -/
def dVar (i : Nat) : DE := fun ρ Q => ∃ d, ρ[i]? = some (some (.d d)) ∧ Q d
def dOwn (i : Nat) : DA := fun ρ Q => ∃ ds, ρ[i]? = some (some (.own ds)) ∧ Q ds
def dC (d : D) : DE := fun _ Q => Q d
theorem pd_pe {i : Nat} {e : Expr} (h : PE X e (tVar i)) : PD X F0 H0 e (dVar i) := by
  refine ⟨pe_imp h ?_⟩
  rintro σ H Q ⟨F, ρ, QQ, E, ⟨d, e1, q⟩, k⟩
  obtain ⟨v, h1, h2⟩ := E.dd i d e1
  exact ⟨v, h1, k d v F H q (Stp.refl E.fs) h2⟩
theorem pl_pe {i : Nat} {e : Expr} (h : PE X e (tVar i)) : PL X F0 H0 e (dOwn i) := by
  refine ⟨pe_imp h ?_⟩
  rintro σ H Q ⟨F, ρ, QQ, E, ⟨d, e1, q⟩, k⟩
  obtain ⟨p, xs, h1, h2, h3, h4, h5⟩ := E.ow i d e1
  exact ⟨.ref p, h1, k d _ F H q (Stp.refl E.fs) ⟨p, xs, rfl, h2, h5⟩⟩
theorem dv (i : Nat) {x : Str} {pos : Pos} (hN : X.N[i]? = some x := by rfl) (hv : Vis X.env.scope x := by first | exact Or.inl rfl | exact Or.inr (Or.inl rfl) | exact Or.inr (Or.inr rfl)) (hd : (x == ("__debug__" : Str)) = false := by decide)
    (hcd : (x == ("__classdict__" : Str)) = false := by decide) : PD X F0 H0 (.Name x pos) (dVar i) := pd_pe (pe_var hN hv hd hcd)
theorem ov (i : Nat) {x : Str} {pos : Pos} (hN : X.N[i]? = some x := by rfl) (hv : Vis X.env.scope x := by first | exact Or.inl rfl | exact Or.inr (Or.inl rfl) | exact Or.inr (Or.inr rfl)) (hd : (x == ("__debug__" : Str)) = false := by decide)
    (hcd : (x == ("__classdict__" : Str)) = false := by decide) : PL X F0 H0 (.Name x pos) (dOwn i) := pl_pe (pe_var hN hv hd hcd)
theorem pd_const {e : Expr} {v : V} {d : D} (h : PE X e (tC v)) (a : ∀ F, At X.K F v d) : PD X F0 H0 e (dC d) := by
  refine ⟨pe_imp h ?_⟩
  rintro σ H Q ⟨F, ρ, QQ, E, q, k⟩
  exact k d v F H q (Stp.refl E.fs) (a F)
theorem pd_int {i j pos} : PD X F0 H0 (.Constant (.int i) j pos) (dC (.int i)) := pd_const pe_int fun _ => .int i
theorem pd_bl {b j pos} : PD X F0 H0 (.Constant (.bool b) j pos) (dC (.bl b)) := pd_const pe_bl fun _ => .bl b
theorem pd_non {j pos} : PD X F0 H0 (.Constant .none j pos) (dC .non) := pd_const pe_non fun _ => .non
theorem pd_str {x j pos} : PD X F0 H0 (.Constant (.str x) j pos) (dC (.str x)) := pd_const pe_str fun _ => .str x
theorem pd_glob {x : Str} {v : V} {d : D} {u : Value} {pos : Pos} (hg : Gl X x) (hm : X.mg x = some u) (r : RelV v u) (a : ∀ F, At X.K F v d) (hd : (x == ("__debug__" : Str)) = false := by decide) : PD X F0 H0 (.Name x pos) (dC d) :=
  pd_const (pe_glob hg hm r hd) a

/-- from a new list, or from data, to a list that is read -/
theorem PN.pl {e : Expr} {t : DA} (h : PN X F0 H0 e t) : PL X F0 H0 e t := by
  refine ⟨pe_imp h.pe ?_⟩
  rintro σ H Q ⟨F, ρ, QQ, E, q, k⟩
  exact ⟨F, ρ, QQ, E, q, fun ds p xs F' H' q s h1 h2 h3 h4 => k ds _ F' H' q s ⟨p, xs, rfl, h2, h4⟩⟩
def dLst (t : DE) : DA := fun ρ Q => t ρ fun d => ∃ l, d = .lst l ∧ Q l
theorem PJ.lst {e : Expr} {t : DE} (h : PD X F0 H0 e t) : PL X F0 H0 e (dLst t) := by
  refine ⟨pe_imp h.pe ?_⟩
  rintro σ H Q ⟨F, ρ, QQ, E, q, k⟩
  refine ⟨F, ρ, _, E, q, fun d v F' H' ⟨l, e1, q⟩ s a => ?_⟩
  subst e1
  cases a with
  | lst h1 h2 => exact k l _ F' H' q s ⟨_, _, rfl, s.fs _ _ h1, h2⟩
def dFz (t : DA) : DE := fun ρ Q => t ρ fun l => Q (.lst l)
/-- a new list, nobody's to change from now on -/
theorem PN.pd {e : Expr} {t : DA} (h : PN X F0 H0 e t) : PD X F0 H0 e (dFz t) := by
  refine ⟨pe_imp h.pe ?_⟩
  rintro σ H Q ⟨F, ρ, QQ, E, q, k⟩
  refine ⟨F, ρ, _, E, q, fun ds p xs F' H' q s h1 h2 h3 h4 => ?_⟩
  have ff : Same F' (upd F' p (.lst xs)) := same_upd h3 _
  refine k _ (.ref p) (upd F' p (.lst xs)) H' q ⟨s.hh, s.ff.trans ff, fun b u z => ?_, fun b u h5 n h6 => ?_, fun b ps z => ?_⟩ (.lst upd_same (h4.mono ff))
  · by_cases e : b = p
    · subst e; rw [upd_same] at z; cases z; exact h2
    · rw [upd_ne e] at z; exact s.fs b u z
  · rw [upd_ne (h1.ne h5 n)]; exact s.nw b u h5 n h6
  · by_cases e : b = p
    · subst e; rw [upd_same] at z; cases z
    · rw [upd_ne e] at z; exact s.nt b ps z

/-! ### operators by values -/
def Br2 {α β γ : Type} (Ra : RJ α) (Rb : RJ β) (Rc : RJ γ) (r : R2) (g : α → β → (γ → Prop) → Prop) : Prop :=
  ∀ (F H : Hp) (x y : V) (a : α) (b : β) (QQ : γ → Prop) (Q : VK), Same F H → Ra F H x a → Rb F H y b → g a b QQ → (∀ c v F' H', QQ c → Stp F H F' H' → Rc F' H' v c → Q v H') → r x y H Q
def OpD {α β γ : Type} (X : Cx) (f : Value → Value → Sem Value) (Ra : RJ α) (Rb : RJ β) (Rc : RJ γ) (g : α → β → (γ → Prop) → Prop) : Prop := ∃ r, OpR X f r ∧ Br2 Ra Rb Rc r g
def dOp {α β γ : Type} (g : α → β → (γ → Prop) → Prop) (ta : DJ α) (tb : DJ β) : DJ γ := fun ρ Q => ta ρ fun x => tb ρ fun y => g x y Q
def dTst (t : DE) : DT := fun ρ Q => t ρ fun d => ∃ k, d = .bl k ∧ Q k
section
variable {α β γ : Type} {Ra : RJ α} {Rb : RJ β} {Rc : RJ γ} {g : α → β → (γ → Prop) → Prop} {a b : Expr} {ta : DJ α} {tb : DJ β} {pos : Pos}
theorem lOp {r : R2} (br : Br2 Ra Rb Rc r g) (sa : Stable Ra) {σ : L2.St} {H : Hp} {Q : VK} (h : lJ X.K F0 H0 Rc (dOp g ta tb) σ H Q) : tOp r (lJ X.K F0 H0 Ra ta) (lJ X.K F0 H0 Rb tb) σ H Q := by
  obtain ⟨F, ρ, QQ, E, q, k⟩ := h
  refine ⟨F, ρ, _, E, q, fun a v F1 H1 q1 s1 ra => ?_⟩
  refine ⟨F1, ρ, _, E.step s1, q1, fun b u F2 H2 q2 s2 rb => ?_⟩
  exact br F2 H2 v u a b QQ Q s2.fs (sa _ _ _ _ _ _ s2 ra) rb q2 fun c w F' H' q' s' rc => k c w F' H' q' ((s1.trans s2).trans s') rc
theorem pj_op {op : Operator} (o : OpD X (binaryOp op) Ra Rb Rc g) (ha : PJ X F0 H0 Ra a ta) (hb : PJ X F0 H0 Rb b tb) (sa : Stable Ra := by first | exact RD.stable | exact RL.stable) : PJ X F0 H0 Rc (.BinOp a op b pos) (dOp g ta tb) := by
  obtain ⟨r, ho, br⟩ := o
  exact ⟨pe_imp (pe_op ho ha.pe hb.pe) fun σ H Q h => lOp br sa h⟩
theorem pd_cmp {op : CmpOp} {g : α → β → (D → Prop) → Prop} (o : OpD X (compareOp op) Ra Rb (RD X.K) g) (ha : PJ X F0 H0 Ra a ta) (hb : PJ X F0 H0 Rb b tb) (hm : behindInMarks op b = false := by first | exact nomark _ | rfl) (sa : Stable Ra := by first | exact RD.stable | exact RL.stable) :
    PD X F0 H0 (.Compare a [op] [b] pos) (dOp g ta tb) := by
  obtain ⟨r, ho, br⟩ := o
  exact ⟨pe_imp (pe_cmpR ho ha.pe hb.pe hm) fun σ H Q h => lOp br sa h⟩
theorem lTst {t : DE} {σ : L2.St} {H : Hp} {Q : Bool → Hp → Prop} (h : lT X.K F0 H0 (dTst t) σ H Q) : lJ X.K F0 H0 (RD X.K) t σ H (fun x H' => ∃ k, x = .bl k ∧ Q k H') := by
  obtain ⟨F, ρ, QQ, E, q, k⟩ := h
  refine ⟨F, ρ, _, E, q, fun d v F' H' ⟨c, e1, q'⟩ s a => ?_⟩
  subst e1
  cases a
  exact ⟨c, rfl, k c F' H' q' s⟩
theorem ptd_cmp {op : CmpOp} {g : α → β → (D → Prop) → Prop} (o : OpD X (compareOp op) Ra Rb (RD X.K) g) (ha : PJ X F0 H0 Ra a ta) (hb : PJ X F0 H0 Rb b tb) (hm : behindInMarks op b = false := by first | exact nomark _ | rfl) (sa : Stable Ra := by first | exact RD.stable | exact RL.stable) :
    PTD X F0 H0 (.Compare a [op] [b] pos) (dTst (dOp g ta tb)) := by
  obtain ⟨r, ho, br⟩ := o
  exact ⟨pt_imp (pt_cmpR ho ha.pe hb.pe hm) fun σ H Q h => lOp br sa (lTst h)⟩
theorem ptd_val {e : Expr} {t : DE} (h : PD X F0 H0 e t) (he : ∀ whole, isTrue e X.env whole = (do let v ← whole; standAt e.pos; holding [v] (truthy v)) := by intro _; rfl) : PTD X F0 H0 e (dTst t) :=
  ⟨pt_imp (pt_val h.pe he) fun σ H Q h => lTst h⟩
end
end
end DL

namespace DL
open PySem L2
variable [Tb]
section
variable {X : Cx} {F0 H0 : Hp} {a b c : Expr} {pos : Pos}

/-! ### ints -/
def gI (f : Int → Int → Int) : D → D → (D → Prop) → Prop := fun x y Q => ∃ i j, x = .int i ∧ y = .int j ∧ Q (.int (f i j))
def gIC (C : Int → Int → Prop) (f : Int → Int → Int) : D → D → (D → Prop) → Prop := fun x y Q => ∃ i j, x = .int i ∧ y = .int j ∧ C i j ∧ Q (.int (f i j))
def gIB (f : Int → Int → Bool) : D → D → (D → Prop) → Prop := fun x y Q => ∃ i j, x = .int i ∧ y = .int j ∧ Q (.bl (f i j))
theorem br_I0 {K : PySem.W.Frag} {f : Int → Int → Int} : Br2 (RD K) (RD K) (RD K) (rI0 fun i j => .int (f i j)) (gI f) := by
  rintro F H x y d e QQ Q fs rx ry ⟨i, j, rfl, rfl, q⟩ k
  cases rx
  cases ry
  exact ⟨i, j, rfl, rfl, k _ _ F H q (Stp.refl fs) (.int _)⟩
theorem br_IC {K : PySem.W.Frag} {C : Int → Int → Prop} {f : Int → Int → Int} : Br2 (RD K) (RD K) (RD K) (rI C fun i j => .int (f i j)) (gIC C f) := by
  rintro F H x y d e QQ Q fs rx ry ⟨i, j, rfl, rfl, c, q⟩ k
  cases rx
  cases ry
  exact ⟨i, j, rfl, rfl, c, k _ _ F H q (Stp.refl fs) (.int _)⟩
theorem br_IB {K : PySem.W.Frag} {f : Int → Int → Bool} : Br2 (RD K) (RD K) (RD K) (rI0 fun i j => .bl (f i j)) (gIB f) := by
  rintro F H x y d e QQ Q fs rx ry ⟨i, j, rfl, rfl, q⟩ k
  cases rx
  cases ry
  exact ⟨i, j, rfl, rfl, k _ _ F H q (Stp.refl fs) (.bl _)⟩
def MulOk (i j : Int) : Prop := i.natAbs < 2 ^ 64 ∨ j.natAbs < 2 ^ 64 ∨ i.natAbs.log2 + j.natAbs.log2 < 1000000
theorem MulOk.ok {i j : Int} (h : MulOk i j) : IntMulOk i j := by
  rcases h with h | h | h
  · exact .of_left (intBits_le_64 (by omega) (by omega))
  · exact .of_right (intBits_le_64 (by omega) (by omega))
  · exact CMulW.ok h
theorem mulok {i j : Int} (a b : Nat) (ha : i.natAbs < 2 ^ a) (hb : j.natAbs < 2 ^ b) (h : a + b < 1000000 := by decide) : MulOk i j := by
  refine .inr (.inr ?_)
  have e1 : i.natAbs.log2 ≤ a := by
    by_cases z : i.natAbs = 0
    · rw [z]; simp
    · have := (Nat.log2_lt z).mpr ha; omega
  have e2 : j.natAbs.log2 ≤ b := by
    by_cases z : j.natAbs = 0
    · rw [z]; simp
    · have := (Nat.log2_lt z).mpr hb; omega
  omega
def DivOk (_ j : Int) : Prop := j ≠ 0 ∧ j.natAbs.log2 < 9000
theorem divok {i j : Int} (h : j ≠ 0) (b : Nat) (hb : j.natAbs < 2 ^ b) (h9 : b ≤ 9000 := by decide) : DivOk i j := by
  refine ⟨h, ?_⟩
  have := (Nat.log2_lt (n := j.natAbs) (k := b) (by omega)).mpr hb
  omega
theorem op_mulX' : OpR X (binaryOp .Mult) (rI MulOk fun i j => .int (i * j)) := opI fun _ _ _ _ _ _ _ hc q => PyProof.Rows.mul_int q hc.ok
theorem op_fdivX : OpR X (binaryOp .FloorDiv) (rI DivOk fun i j => .int (i.fdiv j)) := opI fun i j _ _ _ _ _ hc q =>
  PyProof.Rows.floordiv_int hc.1 q (.inl (PyProof.noPylong_of_log2 hc.2))
theorem op_fdivP : OpR X (binaryOp .FloorDiv) (rI (fun i j => 0 < j ∧ DivOk i j) fun i j => .int (i / j)) := opI fun i j _ _ _ _ _ hc q => by
  have h1 : (0 : Int) < j := hc.1
  exact PyProof.Rows.floordiv_int (by omega) (by rw [Int.fdiv_eq_ediv_of_nonneg i (by omega)]; exact q) (.inl (PyProof.noPylong_of_log2 hc.2.2))
abbrev gAdd := gI fun i j => i + j
abbrev gSub := gI fun i j => i - j
abbrev gMul := gIC MulOk fun i j => i * j
/-- // by a positive one; by any one -/
abbrev gDiv := gIC (fun i j => 0 < j ∧ DivOk i j) fun i j => i / j
abbrev gDivN := gIC DivOk fun i j => i.fdiv j
abbrev gMod := gIC (fun _ j => 0 < j) fun i j => i % j
abbrev gModN := gIC (fun _ j => j ≠ 0) fun i j => i.fmod j
abbrev gPow := gIC CPow fun i j => i ^ j.toNat
theorem o_add : OpD X (binaryOp .Add) (RD X.K) (RD X.K) (RD X.K) gAdd := ⟨_, op_add, br_I0⟩
theorem o_sub : OpD X (binaryOp .Sub) (RD X.K) (RD X.K) (RD X.K) gSub := ⟨_, op_sub, br_I0⟩
theorem o_mul : OpD X (binaryOp .Mult) (RD X.K) (RD X.K) (RD X.K) gMul := ⟨_, op_mulX', br_IC⟩
theorem o_div : OpD X (binaryOp .FloorDiv) (RD X.K) (RD X.K) (RD X.K) gDiv := ⟨_, op_fdivP, br_IC⟩
theorem o_divN : OpD X (binaryOp .FloorDiv) (RD X.K) (RD X.K) (RD X.K) gDivN := ⟨_, op_fdivX, br_IC⟩
theorem o_mod : OpD X (binaryOp .Mod) (RD X.K) (RD X.K) (RD X.K) gMod := ⟨_, op_mod, br_IC⟩
theorem o_modN : OpD X (binaryOp .Mod) (RD X.K) (RD X.K) (RD X.K) gModN := ⟨_, op_modN, br_IC⟩
theorem o_pow : OpD X (binaryOp .Pow) (RD X.K) (RD X.K) (RD X.K) gPow := ⟨_, op_pow, br_IC⟩
abbrev gLt := gIB fun i j => decide (i < j)
abbrev gLe := gIB fun i j => decide (i ≤ j)
abbrev gGt := gIB fun i j => decide (j < i)
abbrev gGe := gIB fun i j => decide (j ≤ i)
theorem o_lt : OpD X (compareOp .Lt) (RD X.K) (RD X.K) (RD X.K) gLt := ⟨_, op_lt, br_IB⟩
theorem o_le : OpD X (compareOp .LtE) (RD X.K) (RD X.K) (RD X.K) gLe := ⟨_, op_le, br_IB⟩
theorem o_gt : OpD X (compareOp .Gt) (RD X.K) (RD X.K) (RD X.K) gGt := ⟨_, op_gt, br_IB⟩
theorem o_ge : OpD X (compareOp .GtE) (RD X.K) (RD X.K) (RD X.K) gGe := ⟨_, op_ge, br_IB⟩
def dNeg (t : DE) : DE := fun ρ Q => t ρ fun x => ∃ i, x = .int i ∧ Q (.int (-i))
theorem pd_neg {t : DE} (h : PD X F0 H0 a t) : PD X F0 H0 (.UnaryOp .USub a pos) (dNeg t) := by
  refine ⟨pe_imp (pe_un un_neg h.pe) ?_⟩
  rintro σ H Q ⟨F, ρ, QQ, E, q, k⟩
  refine ⟨F, ρ, _, E, q, fun d v F' H' ⟨i, e1, q'⟩ s r => ?_⟩
  subst e1
  cases r
  exact ⟨i, rfl, k _ _ F' H' q' s (.int _)⟩

/-! ### ==, != of any data -/
def rEqP (ne : Bool) (K : PySem.W.Frag) : R2 := fun x y H Q => ∃ d e, Dp K H x d ∧ Dp K H y e ∧ d.plain = true ∧ e.plain = true ∧ min d.depth e.depth ≤ 64 ∧ Q (.bl (if ne then !PyData.eqv d e else PyData.eqv d e)) H
theorem op_eqP (hu : X.A.units + 64 < cLine) : OpR X (compareOp .Eq) (rEqP false X.K) := by
  intro pins s σ H x y v u Q I rx ry h
  obtain ⟨d, e, hd, he, sd, se, hm, q⟩ := h
  obtain ⟨as, r1⟩ := Dp.reads I d x v hd rx
  obtain ⟨bs, r2⟩ := Dp.reads I e y u he ry
  exact PySem.SeqAt.eq_plain r1 r2 sd se (by omega) ⟨.bl _, H, I, rfl, q⟩
theorem op_neP (hu : X.A.units + 64 < cLine) : OpR X (compareOp .NotEq) (rEqP true X.K) := by
  intro pins s σ H x y v u Q I rx ry h
  obtain ⟨d, e, hd, he, sd, se, hm, q⟩ := h
  obtain ⟨as, r1⟩ := Dp.reads I d x v hd rx
  obtain ⟨bs, r2⟩ := Dp.reads I e y u he ry
  exact PySem.SeqAt.ne_plain r1 r2 sd se (by omega) ⟨.bl _, H, I, rfl, q⟩
/-- data that may be compared -/
def D.ok (d : D) : Bool := d.py.plain && decide (d.py.depth ≤ 64)
theorem ok_pl {d : D} (h : d.ok = true) : d.py.plain = true := (Bool.and_eq_true_iff.mp h).1
theorem ok_dp {d : D} (h : d.ok = true) : d.py.depth ≤ 64 := of_decide_eq_true (Bool.and_eq_true_iff.mp h).2
def eqD (x y : D) : Bool := PyData.eqv x.py y.py
def gEq : D → D → (D → Prop) → Prop := fun x y Q => x.ok = true ∧ y.ok = true ∧ Q (.bl (eqD x y))
def gNe : D → D → (D → Prop) → Prop := fun x y Q => x.ok = true ∧ y.ok = true ∧ Q (.bl (!eqD x y))
theorem o_eq (hu : X.A.units + 64 < cLine) : OpD X (compareOp .Eq) (RD X.K) (RD X.K) (RD X.K) gEq := by
  refine ⟨_, op_eqP hu, ?_⟩
  rintro F H x y d e QQ Q fs rx ry ⟨h1, h2, q⟩ k
  have m1 := ok_dp h1
  exact ⟨d.py, e.py, Dp.mono' fs (At.dp rx (ok_pl h1)), Dp.mono' fs (At.dp ry (ok_pl h2)), (ok_pl h1), (ok_pl h2), by omega, k _ _ F H q (Stp.refl fs) (.bl _)⟩
theorem o_ne (hu : X.A.units + 64 < cLine) : OpD X (compareOp .NotEq) (RD X.K) (RD X.K) (RD X.K) gNe := by
  refine ⟨_, op_neP hu, ?_⟩
  rintro F H x y d e QQ Q fs rx ry ⟨h1, h2, q⟩ k
  have m1 := ok_dp h1
  exact ⟨d.py, e.py, Dp.mono' fs (At.dp rx (ok_pl h1)), Dp.mono' fs (At.dp ry (ok_pl h2)), (ok_pl h1), (ok_pl h2), by omega, k _ _ F H q (Stp.refl fs) (.bl _)⟩
/-- .. of lists that may still change -/
def gEqL : List D → List D → (D → Prop) → Prop := fun x y Q => (D.lst x).ok = true ∧ (D.lst y).ok = true ∧ Q (.bl (eqD (.lst x) (.lst y)))
def gNeL : List D → List D → (D → Prop) → Prop := fun x y Q => (D.lst x).ok = true ∧ (D.lst y).ok = true ∧ Q (.bl (!eqD (.lst x) (.lst y)))
theorem RL.dp {K : PySem.W.Frag} {F H : Hp} {v : V} {ds : List D} (fs : Same F H) (h : RL K F H v ds) (p : (D.lst ds).py.plain = true) : Dp K H v (D.lst ds).py := by
  obtain ⟨p', xs, rfl, h1, h2⟩ := h
  exact .lst (SqL.of h1) (DpAll.mono' fs (AtAll.dp h2 (by simpa [D.py, PyData.plain] using p)))
theorem o_eqL (hu : X.A.units + 64 < cLine) : OpD X (compareOp .Eq) (RL X.K) (RL X.K) (RD X.K) gEqL := by
  refine ⟨_, op_eqP hu, ?_⟩
  rintro F H x y d e QQ Q fs rx ry ⟨h1, h2, q⟩ k
  have m1 := ok_dp h1
  exact ⟨_, _, RL.dp fs rx (ok_pl h1), RL.dp fs ry (ok_pl h2), (ok_pl h1), (ok_pl h2), by omega, k _ _ F H q (Stp.refl fs) (.bl _)⟩
theorem o_neL (hu : X.A.units + 64 < cLine) : OpD X (compareOp .NotEq) (RL X.K) (RL X.K) (RD X.K) gNeL := by
  refine ⟨_, op_neP hu, ?_⟩
  rintro F H x y d e QQ Q fs rx ry ⟨h1, h2, q⟩ k
  have m1 := ok_dp h1
  exact ⟨_, _, RL.dp fs rx (ok_pl h1), RL.dp fs ry (ok_pl h2), (ok_pl h1), (ok_pl h2), by omega, k _ _ F H q (Stp.refl fs) (.bl _)⟩

/-! ### is -/
def D.isNon : D → Bool
  | .non => true
  | _ => false
theorem At.isNon {K : PySem.W.Frag} {F : Hp} {v : V} {d : D} (h : At K F v d) : decide (v = .non) = d.isNon := by
  cases h <;> simp [D.isNon]
def gIsN : D → D → (D → Prop) → Prop := fun x y Q => y = .non ∧ Q (.bl x.isNon)
def gNotN : D → D → (D → Prop) → Prop := fun x y Q => y = .non ∧ Q (.bl (!x.isNon))
theorem o_isN : OpD X (compareOp .Is) (RD X.K) (RD X.K) (RD X.K) gIsN := by
  refine ⟨_, op_isN, ?_⟩
  rintro F H x y d e QQ Q fs rx ry ⟨rfl, q⟩ k
  cases ry
  refine ⟨rfl, ?_⟩
  rw [At.isNon rx]
  exact k _ _ F H q (Stp.refl fs) (.bl _)
theorem o_notN : OpD X (compareOp .IsNot) (RD X.K) (RD X.K) (RD X.K) gNotN := by
  refine ⟨_, op_notN, ?_⟩
  rintro F H x y d e QQ Q fs rx ry ⟨rfl, q⟩ k
  cases ry
  refine ⟨rfl, ?_⟩
  rw [At.isNon rx]
  exact k _ _ F H q (Stp.refl fs) (.bl _)
def gIsB : D → D → (D → Prop) → Prop := fun x y Q => ∃ i j, x = .bl i ∧ y = .bl j ∧ Q (.bl (i == j))
def gNotB : D → D → (D → Prop) → Prop := fun x y Q => ∃ i j, x = .bl i ∧ y = .bl j ∧ Q (.bl (!(i == j)))
theorem o_isB : OpD X (compareOp .Is) (RD X.K) (RD X.K) (RD X.K) gIsB := by
  refine ⟨_, op_is_bl, ?_⟩
  rintro F H x y d e QQ Q fs rx ry ⟨i, j, rfl, rfl, q⟩ k
  cases rx; cases ry
  refine ⟨i, j, rfl, rfl, ?_⟩
  have e : decide (i = j) = (i == j) := by cases i <;> cases j <;> rfl
  rw [e]
  exact k _ _ F H q (Stp.refl fs) (.bl _)
theorem o_notB : OpD X (compareOp .IsNot) (RD X.K) (RD X.K) (RD X.K) gNotB := by
  refine ⟨_, op_isnot_bl, ?_⟩
  rintro F H x y d e QQ Q fs rx ry ⟨i, j, rfl, rfl, q⟩ k
  cases rx; cases ry
  refine ⟨i, j, rfl, rfl, ?_⟩
  have e : decide (i = j) = (i == j) := by cases i <;> cases j <;> rfl
  rw [e]
  exact k _ _ F H q (Stp.refl fs) (.bl _)

/-! ### tests, and | or | not, if | else -/
/-- by truth -/
def truV : D → Bool → Prop
  | .non, k => k = false
  | .bl b, k => k = b
  | .int i, k => k = (i != 0)
  | .str s, k => s.length ≤ sizeLine ∧ k = ((s.length : Int) != 0)
  | .tup l, k => k = !l.isEmpty
  | .lst l, k => k = !l.isEmpty
  | _, _ => False
def dTru (t : DE) : DT := fun ρ Q => t ρ fun d => ∃ k, truV d k ∧ Q k
theorem At.tru {K : PySem.W.Frag} {F H : Hp} {v : V} {d : D} {k : Bool} (fs : Same F H) (a : At K F v d) (h : truV d k) : TruV K v H k := by
  cases a with
  | non => exact h
  | bl b => exact h
  | int i => exact h
  | str x => exact h
  | lst q r =>
    refine .inl ⟨_, SqL.of (fs _ _ q), ?_⟩
    have e : k = !_ := h
    rw [e]
    cases r <;> rfl
  | tup q r =>
    refine .inr (.inl ⟨_, Same.sqT fs q, ?_⟩)
    have e : k = !_ := h
    rw [e]
    cases r <;> rfl
  | dct q => exact h.elim
  | scr q => exact h.elim
  | exc q => exact h.elim
theorem ptd_tru {t : DE} (h : PD X F0 H0 a t) (he : ∀ whole, isTrue a X.env whole = (do let v ← whole; standAt a.pos; holding [v] (truthy v)) := by intro _; rfl) : PTD X F0 H0 a (dTru t) := by
  refine ⟨pt_imp (pt_truth h.pe he) ?_⟩
  rintro σ H Q ⟨F, ρ, QQ, E, q, k⟩
  exact ⟨F, ρ, _, E, q, fun d v F' H' ⟨b, e1, q'⟩ s r => ⟨b, At.tru s.fs r e1, k b F' H' q' s⟩⟩
def dTruL (t : DA) : DT := fun ρ Q => t ρ fun l => Q (!l.isEmpty)
theorem ptd_truL {t : DA} (h : PL X F0 H0 a t) (he : ∀ whole, isTrue a X.env whole = (do let v ← whole; standAt a.pos; holding [v] (truthy v)) := by intro _; rfl) : PTD X F0 H0 a (dTruL t) := by
  refine ⟨pt_imp (pt_truth h.pe he) ?_⟩
  rintro σ H Q ⟨F, ρ, QQ, E, q, k⟩
  refine ⟨F, ρ, _, E, q, fun d v F' H' q' s ⟨p, xs, e1, h1, h2⟩ => ⟨_, ?_, k _ F' H' q' s⟩⟩
  subst e1
  refine .inl ⟨_, SqL.of h1, ?_⟩
  cases h2 <;> rfl
section
variable {tA tB : DT} {rest : List Expr}
def dAnd (t u : DT) : DT := fun ρ Q => t ρ fun c => if c = true then u ρ Q else Q false
def dOr (t u : DT) : DT := fun ρ Q => t ρ fun c => if c = true then Q true else u ρ Q
def dNot (t : DT) : DT := fun ρ Q => t ρ fun c => Q (!c)
theorem PWD.pt (h : PWD X F0 H0 a tA) : PTD X F0 H0 a tA := ⟨h.pw.pt⟩
theorem pwd_and1 (ha : PTD X F0 H0 a tA) : PWD X F0 H0 (.BoolOp .And [a] pos) tA := ⟨pw_and1 ha.pt⟩
theorem pwd_or1 (ha : PTD X F0 H0 a tA) : PWD X F0 H0 (.BoolOp .Or [a] pos) tA := ⟨pw_or1 ha.pt⟩
theorem pwd_and (ha : PTD X F0 H0 a tA) (hb : PWD X F0 H0 (.BoolOp .And (b :: rest) pos) tB) : PWD X F0 H0 (.BoolOp .And (a :: b :: rest) pos) (dAnd tA tB) := by
  refine ⟨pw_imp (L2.pw_and ha.pt hb.pw) ?_⟩
  rintro σ H Q ⟨F, ρ, QQ, E, q, k⟩
  refine ⟨F, ρ, _, E, q, fun c F1 H1 q1 s1 => ?_⟩
  cases c with
  | true => exact ⟨F1, ρ, QQ, E.step s1, q1, fun b F' H' q' s' => k b F' H' q' (s1.trans s')⟩
  | false => exact k false F1 H1 q1 s1
theorem pwd_or (ha : PTD X F0 H0 a tA) (hb : PWD X F0 H0 (.BoolOp .Or (b :: rest) pos) tB) : PWD X F0 H0 (.BoolOp .Or (a :: b :: rest) pos) (dOr tA tB) := by
  refine ⟨pw_imp (L2.pw_or ha.pt hb.pw) ?_⟩
  rintro σ H Q ⟨F, ρ, QQ, E, q, k⟩
  refine ⟨F, ρ, _, E, q, fun c F1 H1 q1 s1 => ?_⟩
  cases c with
  | false => exact ⟨F1, ρ, QQ, E.step s1, q1, fun b F' H' q' s' => k b F' H' q' (s1.trans s')⟩
  | true => exact k true F1 H1 q1 s1
theorem ptd_not (ha : PTD X F0 H0 a tA) : PTD X F0 H0 (.UnaryOp .Not a pos) (dNot tA) := by
  refine ⟨pt_imp (L2.pt_not ha.pt) ?_⟩
  rintro σ H Q ⟨F, ρ, QQ, E, q, k⟩
  exact ⟨F, ρ, _, E, q, fun c F1 H1 q1 s1 => k _ F1 H1 q1 s1⟩
def dIf {α : Type} (t : DT) (ta tb : DJ α) : DJ α := fun ρ Q => t ρ fun c => if c = true then ta ρ Q else tb ρ Q
theorem pd_if {α : Type} {R : RJ α} {ta tb : DJ α} (hc : PTD X F0 H0 c tA) (ha : PJ X F0 H0 R a ta) (hb : PJ X F0 H0 R b tb) : PJ X F0 H0 R (.IfExp c a b pos) (dIf tA ta tb) := by
  refine ⟨pe_imp (pe_ifExp hc.pt ha.pe hb.pe) ?_⟩
  rintro σ H Q ⟨F, ρ, QQ, E, q, k⟩
  refine ⟨F, ρ, _, E, q, fun c F1 H1 q1 s1 => ?_⟩
  cases c with
  | true => exact ⟨F1, ρ, QQ, E.step s1, q1, fun b v F' H' q' s' r => k b v F' H' q' (s1.trans s') r⟩
  | false => exact ⟨F1, ρ, QQ, E.step s1, q1, fun b v F' H' q' s' r => k b v F' H' q' (s1.trans s') r⟩
/-- and | or as values (bools) -/
def dAndV (ta tb : DE) : DE := fun ρ Q => ta ρ fun x => ∃ c, x = .bl c ∧ if c = true then tb ρ Q else Q (.bl false)
def dOrV (ta tb : DE) : DE := fun ρ Q => ta ρ fun x => ∃ c, x = .bl c ∧ if c = true then Q (.bl true) else tb ρ Q
def dNotV (ta : DE) : DE := fun ρ Q => ta ρ fun x => ∃ c, x = .bl c ∧ Q (.bl (!c))
theorem pd_one {op} {t : DE} (h : PD X F0 H0 a t) : PD X F0 H0 (.BoolOp op [a] pos) t := ⟨pe_one h.pe⟩
theorem pd_and {ta tb : DE} (ha : PD X F0 H0 a ta) (hb : PD X F0 H0 (.BoolOp .And (b :: rest) pos) tb) : PD X F0 H0 (.BoolOp .And (a :: b :: rest) pos) (dAndV ta tb) := by
  refine ⟨pe_imp (L2.pe_and ha.pe hb.pe) ?_⟩
  rintro σ H Q ⟨F, ρ, QQ, E, q, k⟩
  refine ⟨F, ρ, _, E, q, fun d v F1 H1 ⟨c, e1, q1⟩ s1 r => ?_⟩
  subst e1
  cases r
  refine ⟨c, rfl, ?_⟩
  cases c with
  | true => exact ⟨F1, ρ, QQ, E.step s1, q1, fun b v F' H' q' s' r => k b v F' H' q' (s1.trans s') r⟩
  | false => exact k _ _ F1 H1 q1 s1 (.bl _)
theorem pd_or {ta tb : DE} (ha : PD X F0 H0 a ta) (hb : PD X F0 H0 (.BoolOp .Or (b :: rest) pos) tb) : PD X F0 H0 (.BoolOp .Or (a :: b :: rest) pos) (dOrV ta tb) := by
  refine ⟨pe_imp (L2.pe_or ha.pe hb.pe) ?_⟩
  rintro σ H Q ⟨F, ρ, QQ, E, q, k⟩
  refine ⟨F, ρ, _, E, q, fun d v F1 H1 ⟨c, e1, q1⟩ s1 r => ?_⟩
  subst e1
  cases r
  refine ⟨c, rfl, ?_⟩
  cases c with
  | false => exact ⟨F1, ρ, QQ, E.step s1, q1, fun b v F' H' q' s' r => k b v F' H' q' (s1.trans s') r⟩
  | true => exact k _ _ F1 H1 q1 s1 (.bl _)
theorem pd_not {ta : DE} (ha : PD X F0 H0 a ta) : PD X F0 H0 (.UnaryOp .Not a pos) (dNotV ta) := by
  refine ⟨pe_imp (L2.pe_not ha.pe) ?_⟩
  rintro σ H Q ⟨F, ρ, QQ, E, q, k⟩
  refine ⟨F, ρ, _, E, q, fun d v F1 H1 ⟨c, e1, q1⟩ s1 r => ?_⟩
  subst e1
  cases r
  exact ⟨c, rfl, k _ _ F1 H1 q1 s1 (.bl _)⟩
/-- x or y, of any values -/
def dOrT (ta tb : DE) : DE := fun ρ Q => ta ρ fun d => ∃ k, truV d k ∧ if k = true then Q d else tb ρ Q
theorem pd_orT {ta tb : DE} (ha : PD X F0 H0 a ta) (hb : PD X F0 H0 (.BoolOp .Or (b :: rest) pos) tb) : PD X F0 H0 (.BoolOp .Or (a :: b :: rest) pos) (dOrT ta tb) := by
  refine ⟨pe_imp (L2.pe_orT ha.pe hb.pe) ?_⟩
  rintro σ H Q ⟨F, ρ, QQ, E, q, k⟩
  refine ⟨F, ρ, _, E, q, fun d v F1 H1 ⟨c, e1, q1⟩ s1 r => ?_⟩
  refine ⟨c, At.tru s1.fs r e1, ?_⟩
  cases c with
  | false => exact ⟨F1, ρ, QQ, E.step s1, q1, fun b v F' H' q' s' r => k b v F' H' q' (s1.trans s') r⟩
  | true => exact k _ _ F1 H1 q1 s1 r
end
/-- a < b < c -/
def dChain (g g' : D → D → (D → Prop) → Prop) (ta tb tc : DE) : DE := fun ρ Q => ta ρ fun x => tb ρ fun y => g x y fun z => ∃ k, z = .bl k ∧ (if k = true then tc ρ fun w => g' y w Q else Q (.bl false))
theorem lChain {r r' : R2} {g g' : D → D → (D → Prop) → Prop} {ta tb tc : DE} (br : Br2 (RD X.K) (RD X.K) (RD X.K) r g) (br' : Br2 (RD X.K) (RD X.K) (RD X.K) r' g') {σ : L2.St} {H : Hp} {Q : VK} (h : lJ X.K F0 H0 (RD X.K) (dChain g g' ta tb tc) σ H Q) :
    tChain r r' (lJ X.K F0 H0 (RD X.K) ta) (lJ X.K F0 H0 (RD X.K) tb) (lJ X.K F0 H0 (RD X.K) tc) σ H Q := by
  obtain ⟨F, ρ, QQ, E, q, k⟩ := h
  refine ⟨F, ρ, _, E, q, fun a v F1 H1 q1 s1 ra => ?_⟩
  refine ⟨F1, ρ, _, E.step s1, q1, fun b u F2 H2 q2 s2 rb => ?_⟩
  refine br F2 H2 v u a b _ _ s2.fs (ra.mono s2.ff) rb q2 fun c w F3 H3 ⟨kk, e1, q3⟩ s3 rc => ?_
  subst e1
  cases rc
  refine ⟨kk, rfl, ?_⟩
  cases kk with
  | false => exact k _ _ F3 H3 q3 ((s1.trans s2).trans s3) (.bl _)
  | true =>
    refine ⟨F3, ρ, _, E.step ((s1.trans s2).trans s3), q3, fun e x F4 H4 q4 s4 re => ?_⟩
    exact br' F4 H4 u x b e QQ Q s4.fs (rb.mono (s3.ff.trans s4.ff)) re q4 fun c w F' H' q' s' rc => k c w F' H' q' ((((s1.trans s2).trans s3).trans s4).trans s') rc
theorem pd_chain {op op' : CmpOp} {g g' : D → D → (D → Prop) → Prop} {ta tb tc : DE} (o : OpD X (compareOp op) (RD X.K) (RD X.K) (RD X.K) g) (o' : OpD X (compareOp op') (RD X.K) (RD X.K) (RD X.K) g') (ha : PD X F0 H0 a ta) (hb : PD X F0 H0 b tb) (hc : PD X F0 H0 c tc)
    (hm : lastMarks [op, op'] [b, c] = false := by with_unfolding_all rfl) : PD X F0 H0 (.Compare a [op, op'] [b, c] pos) (dChain g g' ta tb tc) := by
  obtain ⟨r, ho, br⟩ := o
  obtain ⟨r', ho', br'⟩ := o'
  exact ⟨pe_imp (pe_chain ho ho' ha.pe hb.pe hc.pe hm) fun σ H Q h => lChain br br' h⟩
theorem ptd_chain {op op' : CmpOp} {g g' : D → D → (D → Prop) → Prop} {ta tb tc : DE} (o : OpD X (compareOp op) (RD X.K) (RD X.K) (RD X.K) g) (o' : OpD X (compareOp op') (RD X.K) (RD X.K) (RD X.K) g') (ha : PD X F0 H0 a ta) (hb : PD X F0 H0 b tb) (hc : PD X F0 H0 c tc)
    (hm : lastMarks [op, op'] [b, c] = false := by with_unfolding_all rfl) : PTD X F0 H0 (.Compare a [op, op'] [b, c] pos) (dTst (dChain g g' ta tb tc)) := by
  obtain ⟨r, ho, br⟩ := o
  obtain ⟨r', ho', br'⟩ := o'
  exact ⟨pt_imp (pt_chain ho ho' ha.pe hb.pe hc.pe hm) fun σ H Q h => lChain br br' (lTst h)⟩

/-! ### arguments, displays -/
def dNil : DA := fun _ Q => Q []
def dCons (ta : DE) (tr : DA) : DA := fun ρ Q => ta ρ fun x => tr ρ fun xs => Q (x :: xs)
theorem pad_nil : PAD X F0 H0 [] dNil := by
  refine ⟨pa_imp pa_nil ?_⟩
  rintro σ H Q ⟨F, ρ, QQ, E, q, k⟩
  exact k [] [] F H q (Stp.refl E.fs) .nil
theorem pad_cons {es : List Expr} {ta : DE} {tr : DA} (ha : PD X F0 H0 a ta) (hr : PAD X F0 H0 es tr) (hs : starEach (a :: es) X.env = (false, eval a X.env) :: starEach es X.env := by rfl) : PAD X F0 H0 (a :: es) (dCons ta tr) := by
  refine ⟨pa_imp (pa_cons ha.pe hr.pa hs) ?_⟩
  rintro σ H Q ⟨F, ρ, QQ, E, q, k⟩
  refine ⟨F, ρ, _, E, q, fun d v F1 H1 q1 s1 r1 => ?_⟩
  exact ⟨F1, ρ, _, E.step s1, q1, fun ds vs F2 H2 q2 s2 r2 => k _ _ F2 H2 q2 (s1.trans s2) (.cons (r1.mono s2.ff) r2)⟩
def dTup (t : DA) : DE := fun ρ Q => t ρ fun l => l.length ≤ sizeLine ∧ Q (.tup l)
theorem pd_tup {es : List Expr} {t : DA} {x1} (h : PAD X F0 H0 es t) : PD X F0 H0 (.Tuple es x1 pos) (dTup t) := by
  refine ⟨pe_imp (pe_tup h.pa) ?_⟩
  rintro σ H Q ⟨F, ρ, QQ, E, q, k⟩
  refine ⟨F, ρ, _, E, q, fun ds vs F' H' ⟨hz, q'⟩ s r => ⟨by rw [r.length]; exact hz, fun p hp => ?_⟩⟩
  have n := Stp.new s.fs hp (.tup vs)
  exact k _ _ _ _ q' (s.trans n) (.tup (SqT.of upd_same) (r.mono n.ff))
def dLs (t : DA) : DA := fun ρ Q => t ρ fun l => l.length ≤ sizeLine ∧ Q l
theorem pn_lst {es : List Expr} {t : DA} (h : PAD X F0 H0 es t) : PN X F0 H0 (.List es pos) (dLs t) := by
  refine ⟨pe_imp (pe_lst h.pa) ?_⟩
  rintro σ H Q ⟨F, ρ, QQ, E, q, k⟩
  refine ⟨F, ρ, _, E, q, fun ds vs F' H' ⟨hz, q'⟩ s r => ⟨by rw [r.length]; exact hz, fun p hp => ?_⟩⟩
  exact k _ p vs _ _ q' (s.trans (Stp.own s.fs hp _)) (s.hh.nfree hp) upd_same (s.fs.free hp) r

/-! ### calls of one's own defs: a promise over data -/
/-- t: what is asked of the arguments' data, and what comes -/
def spD (K : PySem.W.Frag) (n : Nat) (t : List D → (D → Prop) → Prop) : Sp := fun vs H Q _ => ∃ F ds QQ, (Same F H ∧ (∀ b ps, F b ≠ some (.tbl ps)) ∧ LamX.Tabs Tb.T H) ∧ AtAll K F vs ds ∧ ds.length = n ∧ t ds QQ ∧ ∀ d v F' H', QQ d → Stp F H F' H' → At K F' v d → Q v H'
def dCall (t : List D → (D → Prop) → Prop) (ta : DA) : DE := fun ρ Q => ta ρ fun ds => t ds Q
theorem pd_call {k n : Nat} {f : Addr} {fd : FuncData} {ps : List Str} {CX : CXT} {E : XK} {x : Str} {p : Pos} {es : List Expr} {t : List D → (D → Prop) → Prop} {ta : DA} (G : FnOk X.prog X.w X.K X.mg X.base CX k f fd ps (spD X.K n t)) (hr : Room k X.A) (hg : Gl X x) (hm : X.mg x = some (.ref f)) (hk : PySem.W.keepIn X.K (.ref f) = true)
    (hb : Binds X.K fd ps []) (hx : Passes CX X E) (ha : PAD X F0 H0 (a :: es) ta) (hn : (a :: es).length = n := by rfl) (hdb : (x == ("__debug__" : Str)) = false := by decide) (he : starEach (a :: es) X.env = (false, eval a X.env) :: starEach es X.env := by rfl) (hpl : (backTo pos (starEach es X.env)).any (·.1) = false := by rfl) :
    PD X F0 H0 (.Call (.Name x p) (a :: es) [] pos) (dCall (fun ds Q => ds.length = n ∧ t ds Q) ta) := by
  refine ⟨pe_imp (pe_call G hr hg hm hk hb .nil hx ha.pa hdb he hpl) ?_⟩
  rintro σ H Q ⟨F, ρ, QQ, E, q, k⟩
  refine ⟨F, ρ, _, E, q, fun ds vs F1 H1 ⟨hl, q1⟩ s1 r1 => ?_⟩
  show spD X.K n t (vs ++ []) H1 Q _
  rw [List.append_nil]
  have E1 := E.step s1
  exact ⟨F1, ds, QQ, ⟨E1.fs, E1.nt, E1.tb⟩, r1, hl, q1, fun d v F' H' q' s' r' => k d v F' H' q' (s1.trans s') r'⟩
theorem spD_len {K : PySem.W.Frag} {n : Nat} {t : List D → (D → Prop) → Prop} {vs : List V} {H : Hp} {Q : VK} {E : XK} (h : spD K n t vs H Q E) : vs.length = n := by
  obtain ⟨F, ds, QQ, _, r, hl, _⟩ := h
  rw [r.length, hl]

/-! ### calls of what is built in -/
def Br1 {α γ : Type} (Ra : RJ α) (Rc : RJ γ) (r : List V → Hp → VK → Prop) (g : α → (γ → Prop) → Prop) : Prop :=
  ∀ (F H : Hp) (x : V) (a : α) (QQ : γ → Prop) (Q : VK), Same F H → Ra F H x a → g a QQ → (∀ c v F' H', QQ c → Stp F H F' H' → Rc F' H' v c → Q v H') → r [x] H Q
def ClD {α γ : Type} (X : Cx) (f : Value) (Ra : RJ α) (Rc : RJ γ) (g : α → (γ → Prop) → Prop) : Prop := ∃ r, CallR X f r ∧ Br1 Ra Rc r g
def dC1 {α γ : Type} (g : α → (γ → Prop) → Prop) (ta : DJ α) : DJ γ := fun ρ Q => ta ρ fun x => g x Q
section
variable {α γ : Type} {Ra : RJ α} {Rc : RJ γ} {g : α → (γ → Prop) → Prop} {ta : DJ α} {x : Str} {p : Pos} {id T : String}
theorem lC1 {r : List V → Hp → VK → Prop} (br : Br1 Ra Rc r g) {σ : L2.St} {H : Hp} {Q : VK} (h : lJ X.K F0 H0 Rc (dC1 g ta) σ H Q) : tCB r (tCons (lJ X.K F0 H0 Ra ta) tNil) σ H Q := by
  obtain ⟨F, ρ, QQ, E, q, k⟩ := h
  refine ⟨F, ρ, _, E, q, fun a v F1 H1 q1 s1 ra => ?_⟩
  exact br F1 H1 v a QQ Q s1.fs ra q1 fun c w F' H' q' s' rc => k c w F' H' q' (s1.trans s') rc
theorem pj_callB (o : ClD X (.builtin id) Ra Rc g) (hg : Gl X x) (hm : X.mg x = none) (hv : bootBuiltins x = some (.builtin id)) (ha : PJ X F0 H0 Ra a ta) (hn : x ≠ "__name__" := by decide) (hdb : (x == ("__debug__" : Str)) = false := by decide)
    (he : starEach [a] X.env = (false, eval a X.env) :: starEach [] X.env := by rfl) : PJ X F0 H0 Rc (.Call (.Name x p) [a] [] pos) (dC1 g ta) := by
  obtain ⟨r, ho, br⟩ := o
  exact ⟨pe_imp (pe_callB ho hg hm hv (pa_cons ha.pe pa_nil he) hn hdb he rfl) fun σ H Q h => lC1 br h⟩
theorem pj_callTy (o : ClD X (.type T) Ra Rc g) (hg : Gl X x) (hm : X.mg x = none) (hv : bootBuiltins x = some (.type T)) (ha : PJ X F0 H0 Ra a ta) (hn : x ≠ "__name__" := by decide) (hdb : (x == ("__debug__" : Str)) = false := by decide)
    (he : starEach [a] X.env = (false, eval a X.env) :: starEach [] X.env := by rfl) : PJ X F0 H0 Rc (.Call (.Name x p) [a] [] pos) (dC1 g ta) := by
  obtain ⟨r, ho, br⟩ := o
  exact ⟨pe_imp (pe_callTy ho hg hm hv (pa_cons ha.pe pa_nil he) hn hdb he rfl) fun σ H Q h => lC1 br h⟩
end
def gAbs : D → (D → Prop) → Prop := fun x Q => ∃ i, x = .int i ∧ Q (.int (i.natAbs : Int))
theorem c_abs : ClD X (.builtin "abs") (RD X.K) (RD X.K) gAbs := by
  refine ⟨_, call_abs, ?_⟩
  rintro F H x d QQ Q fs rx ⟨i, rfl, q⟩ k
  cases rx
  refine ⟨i, rfl, ?_⟩
  have e : (if i < 0 then -i else i) = (i.natAbs : Int) := by split <;> omega
  rw [e]
  exact k _ _ F H q (Stp.refl fs) (.int _)
def lenV : D → Nat → Prop
  | .tup l, n => n = l.length
  | .lst l, n => n = l.length
  | .str s, n => s.length ≤ sizeLine ∧ n = s.length
  | .scr l, n => n = l.length
  | _, _ => False
def gLen : D → (D → Prop) → Prop := fun x Q => ∃ n : Nat, lenV x n ∧ Q (.int n)
theorem c_len : ClD X (.builtin "len") (RD X.K) (RD X.K) gLen := by
  refine ⟨_, call_len, ?_⟩
  rintro F H x d QQ Q fs rx ⟨n, e, q⟩ k
  refine ⟨x, n, rfl, ?_, k _ _ F H q (Stp.refl fs) (.int _)⟩
  cases rx with
  | str z => exact e
  | lst h1 h2 => exact .inl ⟨_, SqL.of (fs _ _ h1), by rw [h2.length]; exact e⟩
  | tup h1 h2 => exact .inr ⟨_, Same.sqT fs h1, by rw [h2.length]; exact e⟩
  | scr h1 => exact .inl ⟨_, fs.seq h1, by rw [List.length_map]; exact e⟩
  | _ => exact e.elim
def gLenL : List D → (D → Prop) → Prop := fun x Q => Q (.int x.length)
theorem c_lenL : ClD X (.builtin "len") (RL X.K) (RD X.K) gLenL := by
  refine ⟨_, call_len, ?_⟩
  rintro F H x d QQ Q fs ⟨p, xs, rfl, h1, h2⟩ q k
  exact ⟨_, _, rfl, .inl ⟨_, SqL.of h1, h2.length.symm⟩, k _ _ F H q (Stp.refl fs) (.int _)⟩
/-- tuple(xs) of a list -/
def gTupL : List D → (D → Prop) → Prop := fun x Q => Q (.tup x)
theorem c_tupL : ClD X (.type "tuple") (RL X.K) (RD X.K) gTupL := by
  refine ⟨_, call_tuple_of, ?_⟩
  rintro F H x d QQ Q fs ⟨p, xs, rfl, h1, h2⟩ q k
  refine ⟨p, xs, rfl, .inl ⟨SqL.of h1, fun l hl => ?_⟩⟩
  have n := Stp.new fs hl (.tup xs)
  exact k _ _ _ _ q n (.tup (SqT.of upd_same) (h2.mono n.ff))
def gAll : List D → (D → Prop) → Prop := fun x Q => ∃ bs : List Bool, x = bs.map D.bl ∧ Q (.bl (bs.all id))
def gAny : List D → (D → Prop) → Prop := fun x Q => ∃ bs : List Bool, x = bs.map D.bl ∧ Q (.bl (bs.any id))
theorem c_all (hc : X.calm = true) : ClD X (.builtin "all") (RL X.K) (RD X.K) gAll := by
  refine ⟨_, cr_all hc, ?_⟩
  rintro F H x d QQ Q fs ⟨p, xs, rfl, h1, h2⟩ ⟨bs, rfl, q⟩ k
  have e := h2.bls
  subst e
  exact ⟨p, bs, rfl, SqL.of h1, k _ _ F H q (Stp.refl fs) (.bl _)⟩
theorem c_any (hc : X.calm = true) : ClD X (.builtin "any") (RL X.K) (RD X.K) gAny := by
  refine ⟨_, cr_any hc, ?_⟩
  rintro F H x d QQ Q fs ⟨p, xs, rfl, h1, h2⟩ ⟨bs, rfl, q⟩ k
  have e := h2.bls
  subst e
  exact ⟨p, bs, rfl, SqL.of h1, k _ _ F H q (Stp.refl fs) (.bl _)⟩
/-- max, min of a list of ints -/
def gMaxL : List D → (D → Prop) → Prop := fun x Q => ∃ ns : List Int, x = ns.map D.int ∧ 0 < ns.length ∧ ∀ m, m ∈ ns → (∀ y, y ∈ ns → y ≤ m) → Q (.int m)
def gMinL : List D → (D → Prop) → Prop := fun x Q => ∃ ns : List Int, x = ns.map D.int ∧ 0 < ns.length ∧ ∀ m, m ∈ ns → (∀ y, y ∈ ns → m ≤ y) → Q (.int m)
theorem c_maxL (hc : X.calm = true) : ClD X (.builtin "max") (RL X.K) (RD X.K) gMaxL := by
  refine ⟨_, cr_max hc, ?_⟩
  rintro F H x d QQ Q fs ⟨p, xs, rfl, h1, h2⟩ ⟨bs, rfl, hl, q⟩ k
  have e := h2.ints
  subst e
  exact ⟨p, bs, rfl, SqL.of h1, hl, fun m a b => k _ _ F H (q m a b) (Stp.refl fs) (.int _)⟩
theorem c_minL (hc : X.calm = true) : ClD X (.builtin "min") (RL X.K) (RD X.K) gMinL := by
  refine ⟨_, cr_min hc, ?_⟩
  rintro F H x d QQ Q fs ⟨p, xs, rfl, h1, h2⟩ ⟨bs, rfl, hl, q⟩ k
  have e := h2.ints
  subst e
  exact ⟨p, bs, rfl, SqL.of h1, hl, fun m a b => k _ _ F H (q m a b) (Stp.refl fs) (.int _)⟩
/-- isinstance(x, T), T built in -/
def tyD : D → Option String
  | .non => some "NoneType" | .bl _ => some "bool" | .int _ => some "int" | .str _ => some "str" | .tup _ => some "tuple" | .lst _ => some "list" | _ => none
theorem At.ty {F H : Hp} {v : V} {d : D} {T : String} (fs : Same F H) (a : At X.K F v d) (h : tyD d = some T) : TyX X.K H v (.type T) := by
  cases a with
  | non => cases h; exact .base .non
  | bl b => cases h; exact .base (.bl b)
  | int b => cases h; exact .base (.int b)
  | str b => cases h; exact .base (.str b)
  | lst h1 h2 => cases h; exact .base (.lst (fs _ _ h1))
  | tup h1 h2 =>
    cases h
    rcases h1 with (h1 | ⟨o, h1⟩) | ⟨o, its, n, h1, h2, _⟩
    · exact .base (.tup (fs _ _ h1))
    · exact .fTuple (fs _ _ h1)
    · exact .kTuple h1 h2
  | dct h1 => cases h
  | scr h1 => cases h
  | exc h1 => cases h
def dIsi (T : String) (t : DE) : DE := fun ρ Q => t ρ fun d => ∃ U b, tyD d = some U ∧ kitB U T = some b ∧ Q (.bl b)
theorem pd_isi {T : String} {t : DE} {x : Str} {p p2 : Pos} (hg : Gl X "isinstance") (hm : X.mg "isinstance" = none) (hg2 : Gl X x) (hm2 : X.mg x = none) (hv2 : bootBuiltins x = some (.type T)) (ha : PD X F0 H0 a t) (hn : x ≠ "__name__" := by decide) (hdb : (x == ("__debug__" : Str)) = false := by decide)
    (he : starEach [a, .Name x p2] X.env = (false, eval a X.env) :: starEach [.Name x p2] X.env := by rfl) (he2 : starEach [.Name x p2] X.env = (false, eval (.Name x p2) X.env) :: starEach [] X.env := by rfl) :
    PD X F0 H0 (.Call (.Name "isinstance" p) [a, .Name x p2] [] pos) (dIsi T t) := by
  refine ⟨pe_imp (pe_callB call_isi hg hm (by decide +kernel) (pa_cons ha.pe (pa_cons (pe_bltn (v := .ty T) hg2 hm2 hv2 rfl hn hdb) pa_nil he2) he) (by decide) (by decide) he (by rw [he2]; rfl)) ?_⟩
  rintro σ H Q ⟨F, ρ, QQ, E, q, k⟩
  refine ⟨F, ρ, _, E, q, fun d v F1 H1 ⟨U, b, e1, e2, q1⟩ s1 r1 => ?_⟩
  exact ⟨v, .ty T, .type U, .type T, b, rfl, .ty T, At.ty s1.fs r1 e1, kit_ty e2, k _ _ F1 H1 q1 s1 (.bl b)⟩
end
end DL

namespace DL
open PySem L2
variable [Tb]
section
variable {X : Cx} {F0 H0 : Hp} {a b c : Expr} {pos : Pos}

/-! ### subscripts -/
def ixV : D → Int → D → Prop
  | .tup l, i, z => atI l i = some z
  | .lst l, i, z => atI l i = some z
  | .str s, i, z => s.length ≤ sizeLine ∧ ∃ c, atI s.cps.toList i = some c ∧ z = .str ⟨#[c]⟩
  | .scr ns, i, z => ∃ n, atI ns i = some n ∧ z = .int n
  | _, _, _ => False
def gIx : D → D → (D → Prop) → Prop := fun x y Q => ∃ i z, y = .int i ∧ ixV x i z ∧ Q z
def gIxL : List D → D → (D → Prop) → Prop := fun x y Q => ∃ i z, y = .int i ∧ atI x i = some z ∧ Q z
theorem AtAll.atI {K : PySem.W.Frag} {F : Hp} {vs : List V} {ds : List D} {i : Int} {z : D} (h : AtAll K F vs ds) (e : L2.atI ds i = some z) : ∃ v, L2.atI vs i = some v ∧ At K F v z := by
  unfold L2.atI at e ⊢
  rw [h.length]
  cases q : ixN ds.length i with
  | none => rw [q] at e; cases e
  | some j =>
    rw [q] at e
    exact AtAll.get (i := j) h e
def IxD {α β γ : Type} (X : Cx) (Ra : RJ α) (Rb : RJ β) (Rc : RJ γ) (g : α → β → (γ → Prop) → Prop) : Prop := ∃ r, IxR X r ∧ Br2 Ra Rb Rc r g
theorem pj_ix {α β γ : Type} {Ra : RJ α} {Rb : RJ β} {Rc : RJ γ} {g : α → β → (γ → Prop) → Prop} {ta : DJ α} {tb : DJ β} (o : IxD X Ra Rb Rc g) (ha : PJ X F0 H0 Ra a ta) (hb : PJ X F0 H0 Rb b tb) (hs : PlainIx b := by exact fun _ _ => rfl) (sa : Stable Ra := by first | exact RD.stable | exact RL.stable) :
    PJ X F0 H0 Rc (.Subscript a b pos) (dOp g ta tb) := by
  obtain ⟨r, ho, br⟩ := o
  exact ⟨pe_imp (pe_ix ho ha.pe hb.pe hs) fun σ H Q h => lOp br sa h⟩
theorem o_ix : IxD X (RD X.K) (RD X.K) (RD X.K) gIx := by
  refine ⟨_, ix_seq, ?_⟩
  rintro F H x y d e QQ Q fs rx ry ⟨i, z, rfl, h, q⟩ k
  cases ry
  cases rx with
  | str s =>
    obtain ⟨hz, c, h1, rfl⟩ := h
    exact .inr (.inr ⟨s, i, c, rfl, rfl, hz, h1, k _ _ F H q (Stp.refl fs) (.str _)⟩)
  | lst h1 h2 =>
    obtain ⟨v, h3, h4⟩ := h2.atI h
    exact .inl ⟨_, _, i, v, rfl, rfl, SqL.of (fs _ _ h1), h3, k _ _ F H q (Stp.refl fs) h4⟩
  | tup h1 h2 =>
    obtain ⟨v, h3, h4⟩ := h2.atI h
    exact .inr (.inl ⟨_, _, i, v, rfl, rfl, Same.sqT fs h1, h3, k _ _ F H q (Stp.refl fs) h4⟩)
  | @scr a ns h1 =>
    obtain ⟨n, h2, rfl⟩ := h
    refine .inl ⟨_, _, i, .int n, rfl, rfl, fs.seq h1, ?_, k _ _ F H q (Stp.refl fs) (.int _)⟩
    unfold L2.atI at h2 ⊢
    rw [List.length_map]
    cases e : ixN ns.length i with
    | none => rw [e] at h2; cases h2
    | some j =>
      rw [e] at h2
      have h2' : ns[j]? = some n := h2
      show (ns.map V.int)[j]? = some (.int n)
      rw [List.getElem?_map, h2']
      rfl
  | _ => exact h.elim
theorem o_ixL : IxD X (RL X.K) (RD X.K) (RD X.K) gIxL := by
  refine ⟨_, ix_list, ?_⟩
  rintro F H x y d e QQ Q fs ⟨p, xs, rfl, h1, h2⟩ ry ⟨i, z, rfl, h, q⟩ k
  cases ry
  obtain ⟨v, h3, h4⟩ := h2.atI h
  exact ⟨p, _, i, v, rfl, rfl, SqL.of h1, h3, k _ _ F H q (Stp.refl fs) h4⟩

/-! ### slices -/
abbrev DO := Rho → (Option Int → Prop) → Prop
structure POD (X : Cx) (F0 H0 : Hp) (e : Option Expr) (t : DO) : Prop where
  po : PO X e (fun σ H Q => ∃ F ρ QQ, EnvAt X.K F0 H0 F H σ ρ ∧ t ρ QQ ∧ ∀ o F' H', QQ o → Stp F H F' H' → Q o H')
def dNoPart : DO := fun _ Q => Q none
def dPart (t : DE) : DO := fun ρ Q => t ρ fun x => ∃ i, x = .int i ∧ Q (some i)
theorem po_imp {e : Option Expr} {t t' : TO} (h : PO X e t) (w : ∀ σ H Q, t' σ H Q → t σ H Q) : PO X e t' := ⟨fun pins s σ H Q I q => h.run pins s σ H Q I (w σ H Q q)⟩
theorem pod_none : POD X F0 H0 none dNoPart := by
  refine ⟨po_imp po_none ?_⟩
  rintro σ H Q ⟨F, ρ, QQ, E, q, k⟩
  exact k none F H q (Stp.refl E.fs)
theorem pod_some {t : DE} (h : PD X F0 H0 a t) : POD X F0 H0 (some a) (dPart t) := by
  refine ⟨po_imp (po_some h.pe) ?_⟩
  rintro σ H Q ⟨F, ρ, QQ, E, q, k⟩
  refine ⟨F, ρ, _, E, q, fun d v F' H' ⟨i, e1, q'⟩ s r => ?_⟩
  subst e1
  cases r
  exact ⟨i, rfl, k _ F' H' q' s⟩
def cutL {α : Type} (xs : List α) (lo hi : Option Int) : List α := (xs.drop (HT.sIx xs.length 0 lo)).take (HT.sIx xs.length xs.length hi - HT.sIx xs.length 0 lo)
theorem AtAll.cut {K : PySem.W.Frag} {F : Hp} {vs : List V} {ds : List D} {lo hi : Option Int} (h : AtAll K F vs ds) : AtAll K F (cutV vs lo hi) (cutL ds lo hi) := by
  unfold cutV cutL
  rw [h.length]
  exact (h.drop _).take _
def dSl {α β : Type} (g : α → Option Int → Option Int → (β → Prop) → Prop) (te : DJ α) (tl th : DO) : DJ β := fun ρ Q => te ρ fun x => tl ρ fun l => th ρ fun u => g x l u Q
def gSlT : D → Option Int → Option Int → (D → Prop) → Prop := fun x l u Q => ∃ xs, x = .tup xs ∧ Q (.tup (cutL xs l u))
theorem cut_whole {α : Type} {xs : List α} {lo hi : Option Int} (h : HT.sIx xs.length 0 lo = 0 ∧ HT.sIx xs.length xs.length hi = xs.length) : cutL xs lo hi = xs := by
  unfold cutL
  rw [h.1, h.2]
  simp
theorem pd_slT {te : DE} {tl th : DO} {lo hi : Option Expr} {p2 : Pos} (he : PD X F0 H0 a te) (hl : POD X F0 H0 lo tl) (hh : POD X F0 H0 hi th) : PD X F0 H0 (.Subscript a (.Slice lo hi none p2) pos) (dSl gSlT te tl th) := by
  refine ⟨pe_imp (pe_slice sl_tupA he.pe hl.po hh.po) ?_⟩
  rintro σ H Q ⟨F, ρ, QQ, E, q, k⟩
  refine ⟨F, ρ, _, E, q, fun d v F1 H1 q1 s1 r1 => ?_⟩
  refine ⟨F1, ρ, _, E.step s1, q1, fun l F2 H2 q2 s2 => ?_⟩
  refine ⟨F2, ρ, _, E.step (s1.trans s2), q2, fun u F3 H3 ⟨xs, e1, q3⟩ s3 => ?_⟩
  subst e1
  cases r1 with
  | @tup ad vs' _ h1 h2 =>
    have h2' := h2.mono (s2.ff.trans s3.ff)
    refine ⟨_, _, rfl, Same.sqT ((s2.ff.trans s3.ff).trans s3.fs) h1, fun hw => ?_, fun hw p hp => ?_⟩
    · rw [h2.length] at hw
      rw [cut_whole hw] at q3
      exact k _ _ F3 H3 q3 ((s1.trans s2).trans s3) (.tup (Same.sqT (s2.ff.trans s3.ff) h1) h2')
    · have n := Stp.new s3.fs hp (.tup (cutV vs' l u))
      exact k _ _ _ _ q3 (((s1.trans s2).trans s3).trans n) (.tup (SqT.of upd_same) (h2'.cut.mono n.ff))
def gSlL : List D → Option Int → Option Int → (List D → Prop) → Prop := fun x l u Q => Q (cutL x l u)
theorem pn_slL {te : DA} {tl th : DO} {lo hi : Option Expr} {p2 : Pos} (he : PL X F0 H0 a te) (hl : POD X F0 H0 lo tl) (hh : POD X F0 H0 hi th) : PN X F0 H0 (.Subscript a (.Slice lo hi none p2) pos) (dSl gSlL te tl th) := by
  refine ⟨pe_imp (pe_slice sl_list he.pe hl.po hh.po) ?_⟩
  rintro σ H Q ⟨F, ρ, QQ, E, q, k⟩
  refine ⟨F, ρ, _, E, q, fun d v F1 H1 q1 s1 ⟨p, xs, e1, h1, h2⟩ => ?_⟩
  subst e1
  refine ⟨F1, ρ, _, E.step s1, q1, fun l F2 H2 q2 s2 => ?_⟩
  refine ⟨F2, ρ, _, E.step (s1.trans s2), q2, fun u F3 H3 q3 s3 => ?_⟩
  refine ⟨_, _, rfl, SqL.of (s3.hh.lst (s2.hh.lst h1)), fun p hp => ?_⟩
  have s := (s1.trans s2).trans s3
  exact k _ p _ _ _ q3 (s.trans (Stp.own s.fs hp _)) (s.hh.nfree hp) upd_same (s.fs.free hp) ((h2.mono (s2.ff.trans s3.ff)).cut)
def gSlS : D → Option Int → Option Int → (D → Prop) → Prop := fun x l u Q => ∃ z, x = .str z ∧ z.length ≤ sizeLine ∧ Q (.str (cutS z l u))
theorem pd_slS {te : DE} {tl th : DO} {lo hi : Option Expr} {p2 : Pos} (he : PD X F0 H0 a te) (hl : POD X F0 H0 lo tl) (hh : POD X F0 H0 hi th) : PD X F0 H0 (.Subscript a (.Slice lo hi none p2) pos) (dSl gSlS te tl th) := by
  refine ⟨pe_imp (pe_slice sl_str he.pe hl.po hh.po) ?_⟩
  rintro σ H Q ⟨F, ρ, QQ, E, q, k⟩
  refine ⟨F, ρ, _, E, q, fun d v F1 H1 q1 s1 r1 => ?_⟩
  refine ⟨F1, ρ, _, E.step s1, q1, fun l F2 H2 q2 s2 => ?_⟩
  refine ⟨F2, ρ, _, E.step (s1.trans s2), q2, fun u F3 H3 ⟨xs, e1, hz, q3⟩ s3 => ?_⟩
  subst e1
  cases r1
  exact ⟨_, rfl, hz, k _ _ F3 H3 q3 ((s1.trans s2).trans s3) (.str _)⟩

/-! ### texts, tuples, lists: +, * -/
def gAddS : D → D → (D → Prop) → Prop := fun x y Q => ∃ i j, x = .str i ∧ y = .str j ∧ i.length + j.length ≤ sizeLine ∧ Q (.str (i ++ j))
theorem o_addS : OpD X (binaryOp .Add) (RD X.K) (RD X.K) (RD X.K) gAddS := by
  refine ⟨_, op_add_str, ?_⟩
  rintro F H x y d e QQ Q fs rx ry ⟨i, j, rfl, rfl, hz, q⟩ k
  cases rx; cases ry
  exact ⟨i, j, rfl, rfl, hz, k _ _ F H q (Stp.refl fs) (.str _)⟩
def gCatT : D → D → (D → Prop) → Prop := fun x y Q => ∃ i j, x = .tup i ∧ y = .tup j ∧ i.length + j.length ≤ sizeLine ∧ Q (.tup (i ++ j))
theorem o_catT : OpD X (binaryOp .Add) (RD X.K) (RD X.K) (RD X.K) gCatT := by
  refine ⟨_, op_catA, ?_⟩
  rintro F H x y d e QQ Q fs rx ry ⟨i, j, rfl, rfl, hz, q⟩ k
  cases rx with
  | @tup ad1 vs1 _ h1 h2 =>
    cases ry with
    | @tup ad2 vs2 _ h3 h4 =>
      refine ⟨_, _, _, _, rfl, rfl, Same.sqT fs h1, Same.sqT fs h3, by rw [h2.length, h4.length]; exact hz, fun e => ?_, fun e e' => ?_, fun _ _ p hp => ?_⟩
      · subst e
        cases h2
        exact k _ _ F H q (Stp.refl fs) (.tup h3 h4)
      · subst e'
        cases h4
        rw [List.append_nil] at q
        exact k _ _ F H q (Stp.refl fs) (.tup h1 h2)
      · have n := Stp.new fs hp (.tup (vs1 ++ vs2))
        exact k _ _ _ _ q n (.tup (SqT.of upd_same) ((h2.append h4).mono n.ff))
/-- operators that make a new list -/
def Br2N {α β : Type} (K : PySem.W.Frag) (Ra : RJ α) (Rb : RJ β) (r : R2) (g : α → β → (List D → Prop) → Prop) : Prop :=
  ∀ (F H : Hp) (x y : V) (a : α) (b : β) (QQ : List D → Prop) (Q : VK), Same F H → Ra F H x a → Rb F H y b → g a b QQ → (∀ ds p xs F' H', QQ ds → Stp F H F' H' → H p = none → H' p = some (.lst xs) → F' p = none → AtAll K F' xs ds → Q (.ref p) H') → r x y H Q
def OpN {α β : Type} (X : Cx) (f : Value → Value → Sem Value) (Ra : RJ α) (Rb : RJ β) (g : α → β → (List D → Prop) → Prop) : Prop := ∃ r, OpR X f r ∧ Br2N X.K Ra Rb r g
theorem pn_op {α β : Type} {Ra : RJ α} {Rb : RJ β} {g : α → β → (List D → Prop) → Prop} {ta : DJ α} {tb : DJ β} {op : Operator} (o : OpN X (binaryOp op) Ra Rb g) (ha : PJ X F0 H0 Ra a ta) (hb : PJ X F0 H0 Rb b tb) (sa : Stable Ra := by first | exact RD.stable | exact RL.stable) : PN X F0 H0 (.BinOp a op b pos) (dOp g ta tb) := by
  obtain ⟨r, ho, br⟩ := o
  refine ⟨pe_imp (pe_op ho ha.pe hb.pe) ?_⟩
  rintro σ H Q ⟨F, ρ, QQ, E, q, k⟩
  refine ⟨F, ρ, _, E, q, fun a v F1 H1 q1 s1 ra => ?_⟩
  refine ⟨F1, ρ, _, E.step s1, q1, fun b u F2 H2 q2 s2 rb => ?_⟩
  exact br F2 H2 v u a b QQ Q s2.fs (sa _ _ _ _ _ _ s2 ra) rb q2 fun c p xs F' H' q' s' h1 h2 h3 h4 => k c p xs F' H' q' ((s1.trans s2).trans s') ((s1.trans s2).hh.nfree h1) h2 h3 h4
def gCat : List D → List D → (List D → Prop) → Prop := fun x y Q => x.length + y.length ≤ sizeLine ∧ Q (x ++ y)
theorem o_cat : OpN X (binaryOp .Add) (RL X.K) (RL X.K) gCat := by
  refine ⟨_, op_cat, ?_⟩
  rintro F H x y d e QQ Q fs ⟨p1, xs, rfl, h1, h2⟩ ⟨p2, ys, rfl, h3, h4⟩ ⟨hz, q⟩ k
  refine ⟨p1, p2, xs, ys, rfl, rfl, h1, h3, by rw [h2.length, h4.length]; exact hz, fun p hp => ?_⟩
  exact k _ p _ _ _ q (Stp.own fs hp _) hp upd_same (fs.free hp) (h2.append h4)
def gRep : List D → D → (List D → Prop) → Prop := fun x y Q => ∃ k : Int, y = .int k ∧ 0 ≤ k ∧ k < 2 ^ 63 ∧ x.length * k.toNat ≤ sizeLine ∧ Q (List.replicate k.toNat x).flatten
theorem AtAll.rep {K : PySem.W.Frag} {F : Hp} {vs : List V} {ds : List D} (h : AtAll K F vs ds) : ∀ n, AtAll K F (List.replicate n vs).flatten (List.replicate n ds).flatten
  | 0 => .nil
  | n + 1 => by
    rw [List.replicate_succ, List.replicate_succ, List.flatten_cons, List.flatten_cons]
    exact h.append (AtAll.rep h n)
theorem o_rep : OpN X (binaryOp .Mult) (RL X.K) (RD X.K) gRep := by
  refine ⟨_, op_rep, ?_⟩
  rintro F H x y d e QQ Q fs ⟨p1, xs, rfl, h1, h2⟩ ry ⟨n, rfl, n0, n1, hz, q⟩ k
  cases ry
  refine ⟨p1, n, xs, rfl, rfl, h1, by omega, n1, by rw [h2.length]; exact hz, fun p hp => ?_⟩
  exact k _ p _ _ _ q (Stp.own fs hp _) hp upd_same (fs.free hp) (h2.rep _)

/-! ### in -/
def rInP (neg : Bool) (K : PySem.W.Frag) : R2 := fun x y H Q => ∃ d ds, Dp K H x d ∧ (Dp K H y (.list ds) ∨ Dp K H y (.tuple ds)) ∧ d.plain = true ∧ PyData.plainAll ds = true ∧ d.depth ≤ 64 ∧ Q (.bl (if neg then !(ds.any fun z => PyData.eqv z d) else ds.any fun z => PyData.eqv z d)) H
theorem op_inP (hu : X.A.units + 65 < cLine) : OpR X (compareOp .In) (rInP false X.K) := by
  intro pins s σ H x y v u Q I rx ry h
  obtain ⟨d, ds, hd, he, sd, se, hm, q⟩ := h
  obtain ⟨as, r1⟩ := Dp.reads I d x v hd rx
  rcases he with he | he
  · obtain ⟨bs, r2⟩ := Dp.reads I _ y u he ry
    exact PySem.SeqAt.in_list_data r2 r1 se sd (by omega) ⟨.bl _, H, I, rfl, q⟩
  · obtain ⟨bs, r2⟩ := Dp.reads I _ y u he ry
    exact PySem.SeqAt.in_tuple_data r2 r1 se sd (by omega) ⟨.bl _, H, I, rfl, q⟩
theorem op_notInP (hu : X.A.units + 65 < cLine) : OpR X (compareOp .NotIn) (rInP true X.K) := by
  intro pins s σ H x y v u Q I rx ry h
  obtain ⟨d, ds, hd, he, sd, se, hm, q⟩ := h
  obtain ⟨as, r1⟩ := Dp.reads I d x v hd rx
  rcases he with he | he
  · obtain ⟨bs, r2⟩ := Dp.reads I _ y u he ry
    exact PySem.SeqAt.notIn_list_data r2 r1 se sd (by omega) ⟨.bl _, H, I, rfl, q⟩
  · obtain ⟨bs, r2⟩ := Dp.reads I _ y u he ry
    exact PySem.SeqAt.notIn_tuple_data r2 r1 se sd (by omega) ⟨.bl _, H, I, rfl, q⟩
theorem pys_any (p : PyData → Bool) : ∀ l : List D, (D.pys l).any p = l.any fun z => p z.py
  | [] => rfl
  | d :: l => by rw [D.pys, List.any_cons, List.any_cons, pys_any p l]
def gIn (neg : Bool) : D → D → (D → Prop) → Prop := fun x y Q => ∃ l, (y = .lst l ∨ y = .tup l) ∧ x.ok = true ∧ PyData.plainAll (D.pys l) = true ∧ Q (.bl (if neg then !(l.any fun z => eqD z x) else l.any fun z => eqD z x))
theorem br_in {neg : Bool} {K : PySem.W.Frag} : Br2 (RD K) (RD K) (RD K) (rInP neg K) (gIn neg) := by
  rintro F H x y d e QQ Q fs rx ry ⟨l, hl, h1, h2, q⟩ k
  have ey : Dp K H y (.list (D.pys l)) ∨ Dp K H y (.tuple (D.pys l)) := by
    rcases hl with rfl | rfl
    · exact .inl (Dp.mono' fs (At.dp ry (by simpa [D.py, PyData.plain] using h2)))
    · exact .inr (Dp.mono' fs (At.dp ry (by simpa [D.py, PyData.plain] using h2)))
  refine ⟨d.py, D.pys l, Dp.mono' fs (At.dp rx (ok_pl h1)), ey, ok_pl h1, h2, ok_dp h1, ?_⟩
  rw [pys_any]
  exact k _ _ F H q (Stp.refl fs) (.bl _)
theorem o_in (hu : X.A.units + 65 < cLine) : OpD X (compareOp .In) (RD X.K) (RD X.K) (RD X.K) (gIn false) := ⟨_, op_inP hu, br_in⟩
theorem o_notIn (hu : X.A.units + 65 < cLine) : OpD X (compareOp .NotIn) (RD X.K) (RD X.K) (RD X.K) (gIn true) := ⟨_, op_notInP hu, br_in⟩
/-- one sign in a text -/
def gInS (neg : Bool) : D → D → (D → Prop) → Prop := fun x y Q => ∃ (c : Nat) (z : Str), x = .str ⟨#[c]⟩ ∧ y = .str z ∧ Q (.bl (if neg then !decide (c ∈ z.cps.toList) else decide (c ∈ z.cps.toList)))
theorem o_inS : OpD X (compareOp .In) (RD X.K) (RD X.K) (RD X.K) (gInS false) := by
  refine ⟨_, op_in_sign, ?_⟩
  rintro F H x y d e QQ Q fs rx ry ⟨c, z, rfl, rfl, q⟩ k
  cases rx; cases ry
  exact ⟨c, z, rfl, rfl, k _ _ F H q (Stp.refl fs) (.bl _)⟩
theorem o_notInS : OpD X (compareOp .NotIn) (RD X.K) (RD X.K) (RD X.K) (gInS true) := by
  refine ⟨_, op_notIn_sign, ?_⟩
  rintro F H x y d e QQ Q fs rx ry ⟨c, z, rfl, rfl, q⟩ k
  cases rx; cases ry
  exact ⟨c, z, rfl, rfl, k _ _ F H q (Stp.refl fs) (.bl _)⟩
/-- calls that make a new list -/
def Br1N {α : Type} (K : PySem.W.Frag) (Ra : RJ α) (r : List V → Hp → VK → Prop) (g : α → (List D → Prop) → Prop) : Prop :=
  ∀ (F H : Hp) (x : V) (a : α) (QQ : List D → Prop) (Q : VK), Same F H → Ra F H x a → g a QQ → (∀ ds p xs F' H', QQ ds → Stp F H F' H' → H p = none → H' p = some (.lst xs) → F' p = none → AtAll K F' xs ds → Q (.ref p) H') → r [x] H Q
def ClN {α : Type} (X : Cx) (f : Value) (Ra : RJ α) (g : α → (List D → Prop) → Prop) : Prop := ∃ r, CallR X f r ∧ Br1N X.K Ra r g
section
variable {α : Type} {Ra : RJ α} {g : α → (List D → Prop) → Prop} {ta : DJ α} {x : Str} {p : Pos} {id T : String}
theorem lC1N {r : List V → Hp → VK → Prop} (br : Br1N X.K Ra r g) {σ : L2.St} {H : Hp} {Q : VK} (h : lN X.K F0 H0 (dC1 g ta) σ H Q) : tCB r (tCons (lJ X.K F0 H0 Ra ta) tNil) σ H Q := by
  obtain ⟨F, ρ, QQ, E, q, k⟩ := h
  refine ⟨F, ρ, _, E, q, fun a v F1 H1 q1 s1 ra => ?_⟩
  exact br F1 H1 v a QQ Q s1.fs ra q1 fun c p xs F' H' q' s' h1 h2 h3 h4 => k c p xs F' H' q' (s1.trans s') (s1.hh.nfree h1) h2 h3 h4
theorem pn_callB (o : ClN X (.builtin id) Ra g) (hg : Gl X x) (hm : X.mg x = none) (hv : bootBuiltins x = some (.builtin id)) (ha : PJ X F0 H0 Ra a ta) (hn : x ≠ "__name__" := by decide) (hdb : (x == ("__debug__" : Str)) = false := by decide)
    (he : starEach [a] X.env = (false, eval a X.env) :: starEach [] X.env := by rfl) : PN X F0 H0 (.Call (.Name x p) [a] [] pos) (dC1 g ta) := by
  obtain ⟨r, ho, br⟩ := o
  exact ⟨pe_imp (pe_callB ho hg hm hv (pa_cons ha.pe pa_nil he) hn hdb he rfl) fun σ H Q h => lC1N br h⟩
theorem pn_callTy (o : ClN X (.type T) Ra g) (hg : Gl X x) (hm : X.mg x = none) (hv : bootBuiltins x = some (.type T)) (ha : PJ X F0 H0 Ra a ta) (hn : x ≠ "__name__" := by decide) (hdb : (x == ("__debug__" : Str)) = false := by decide)
    (he : starEach [a] X.env = (false, eval a X.env) :: starEach [] X.env := by rfl) : PN X F0 H0 (.Call (.Name x p) [a] [] pos) (dC1 g ta) := by
  obtain ⟨r, ho, br⟩ := o
  exact ⟨pe_imp (pe_callTy ho hg hm hv (pa_cons ha.pe pa_nil he) hn hdb he rfl) fun σ H Q h => lC1N br h⟩
end
def gLstT : D → (List D → Prop) → Prop := fun x Q => ∃ l, x = .tup l ∧ Q l
theorem c_lstT : ClN X (.type "list") (RD X.K) gLstT := by
  refine ⟨_, call_list_of, ?_⟩
  rintro F H x d QQ Q fs rx ⟨l, rfl, q⟩ k
  cases rx with
  | tup h1 h2 => exact ⟨_, _, rfl, .inr (Same.sqT fs h1), fun p hp => k _ p _ _ _ q (Stp.own fs hp _) hp upd_same (fs.free hp) h2⟩
end

/-! ### targets -/
abbrev DG := D → Rho → (Rho → Prop) → Prop
abbrev DGs := List D → Rho → (Rho → Prop) → Prop
def lG (K : PySem.W.Frag) (F0 H0 : Hp) (vs : List Nat) (t : DG) : TG := fun v σ H Q => ∃ F ρ d QQ, EnvAt K F0 H0 F H σ ρ ∧ At K F v d ∧ t d ρ QQ ∧ ∀ ρ' σ', QQ ρ' → EnvAt K F0 H0 F H σ' ρ' → wipe σ' vs = wipe σ vs → Q σ' H
def lGs (K : PySem.W.Frag) (F0 H0 : Hp) (vs : List Nat) (t : DGs) : TGs := fun ws σ H Q => ∃ F ρ ds QQ, EnvAt K F0 H0 F H σ ρ ∧ AtAll K F ws ds ∧ t ds ρ QQ ∧ ∀ ρ' σ', QQ ρ' → EnvAt K F0 H0 F H σ' ρ' → wipe σ' vs = wipe σ vs → Q σ' H
structure PGD (X : Cx) (F0 H0 : Hp) (vs : List Nat) (tg : Expr) (t : DG) : Prop where
  pg : PG X tg (lG X.K F0 H0 vs t)
structure PGsD (X : Cx) (F0 H0 : Hp) (vs : List Nat) (tgs : List Expr) (t : DGs) : Prop where
  pg : PGs X tgs (lGs X.K F0 H0 vs t)
theorem wipe_set {σ : L2.St} {i : Nat} {o : Option V} : ∀ {vs : List Nat}, i ∈ vs → wipe (σ.set i o) vs = wipe σ vs
  | v :: vs, h => by
    unfold wipe
    by_cases e : i ∈ vs
    · rw [wipe_set e]
    · have e2 : i = v := by
        rcases List.mem_cons.mp h with z | z
        · exact z
        · exact absurd z e
      subst e2
      have z : ∀ vs : List Nat, i ∉ vs → (wipe (σ.set i o) vs).set i none = (wipe σ vs).set i none := by
        intro vs
        induction vs with
        | nil => intro _; show (σ.set i o).set i none = σ.set i none; rw [List.set_set]
        | cons w vs ih =>
          intro hn
          have hw : w ≠ i := fun e => hn (by rw [e]; exact List.mem_cons_self)
          have ih' := ih fun z => hn (List.mem_cons_of_mem _ z)
          show ((wipe (σ.set i o) vs).set w none).set i none = ((wipe σ vs).set w none).set i none
          rw [List.set_comm _ _ hw, ih', List.set_comm _ _ (Ne.symm hw)]
      exact z vs e
def gN (i : Nat) : DG := fun d ρ Q => Q (ρ.set i (some (.d d)))
section
variable {X : Cx} {F0 H0 : Hp} {a b c : Expr} {pos : Pos} {vs : List Nat}
theorem pg_imp {e : Expr} {t t' : TG} (h : PG X e t) (w : ∀ v σ H Q, t' v σ H Q → t v σ H Q) : PG X e t' := ⟨fun pins s σ H v u Q I r q => h.run pins s σ H v u Q I r (w v σ H Q q)⟩
theorem pgs_imp {e : List Expr} {t t' : TGs} (h : PGs X e t) (w : ∀ v σ H Q, t' v σ H Q → t v σ H Q) : PGs X e t' := ⟨fun pins s σ H v u Q I r q => h.run pins s σ H v u Q I r (w v σ H Q q)⟩
theorem pgd_name {i : Nat} {x : Str} (hN : X.N.Nodup) (hi : X.N[i]? = some x) (hx : Loc X.env.scope x) (hm : i ∈ vs := by decide) (hf : X.fn x = true ∨ X.env.scope.names.lookup x = some .local := by first | exact .inl rfl | exact .inr rfl | assumption) :
    PGD X F0 H0 vs (.Name x pos) (gN i) := by
  refine ⟨pg_imp (pg_name hN hi hx hf) ?_⟩
  rintro v σ H Q ⟨F, ρ, d, QQ, E, r, q, k⟩
  exact k _ _ q (E.set r) (wipe_set hm)
def dGNil : DGs := fun ds ρ Q => ds = [] ∧ Q ρ
def dGCons (t : DG) (u : DGs) : DGs := fun ds ρ Q => ∃ d r, ds = d :: r ∧ t d ρ fun ρ' => u r ρ' Q
theorem pgsd_nil : PGsD X F0 H0 vs [] dGNil := by
  refine ⟨pgs_imp pgs_nil ?_⟩
  rintro v σ H Q ⟨F, ρ, ds, QQ, E, r, ⟨rfl, q⟩, k⟩
  cases r
  exact ⟨rfl, k _ _ q E rfl⟩
theorem pgsd_cons {e : Expr} {es : List Expr} {t : DG} {u : DGs} (h1 : PGD X F0 H0 vs e t) (h2 : PGsD X F0 H0 vs es u)
    (hs : (assignEach (e :: es) X.env).map (·.2) = assign e X.env :: (assignEach es X.env).map (·.2) := by rfl) : PGsD X F0 H0 vs (e :: es) (dGCons t u) := by
  refine ⟨pgs_imp (pgs_cons h1.pg h2.pg hs) ?_⟩
  rintro ws σ H Q ⟨F, ρ, ds, QQ, E, r, ⟨d, rr, rfl, q⟩, k⟩
  cases r with
  | cons r1 r2 =>
    refine ⟨_, _, rfl, F, ρ, d, _, E, r1, q, fun ρ' σ' q' E' w' => ?_⟩
    exact ⟨F, ρ', rr, QQ, E', r2, q', fun ρ2 σ2 q2 E2 w2 => k ρ2 σ2 q2 E2 (w2.trans w')⟩
def gTp (n : Nat) (t : DGs) : DG := fun d ρ Q => ∃ l, d = .tup l ∧ l.length = n ∧ t l ρ Q
theorem pgd_tup {es : List Expr} {k : Nat} {t : DGs} {n : Nat} (hc : X.calm = true) (h : PGsD X F0 H0 vs es t)
    (hn : (assignEach es X.env).length = n := by rfl) (hst : (assignEach es X.env).findIdx? (·.1) = none := by rfl) : PGD X F0 H0 vs (.Tuple es k pos) (gTp n t) := by
  refine ⟨pg_imp (pg_tup hc h.pg hn hst) ?_⟩
  rintro v σ H Q ⟨F, ρ, d, QQ, E, r, ⟨l, rfl, hl, q⟩, k⟩
  cases r with
  | tup h1 h2 => exact ⟨_, _, rfl, Same.sqT E.fs h1, by rw [h2.length]; exact hl, F, ρ, l, QQ, E, h2, q, k⟩
end
end DL

namespace DL
open PySem L2
variable [Tb]
section
variable {X : Cx} {F0 H0 : Hp} {a b c e : Expr} {pos : Pos} {st : Stmt} {rest sts : List Stmt} {t u : DS}

/-! ### statements -/
def dNext : DS := fun DD ρ => DD.nx ρ
def dSeq (t u : DS) : DS := fun DD ρ => t { DD with nx := u DD } ρ
def dBrk : DS := fun DD ρ => DD.bk ρ
def dCnt : DS := fun DD ρ => DD.ct ρ
def dRet (t : DE) : DS := fun DD ρ => t ρ DD.rt
def dRetL (t : DA) : DS := fun DD ρ => t ρ fun l => DD.rt (.lst l)
def dDrop (t : DE) : DS := fun DD ρ => t ρ fun _ => DD.nx ρ
def dIfS (c : DT) (t u : DS) : DS := fun DD ρ => c ρ fun b => if b = true then t DD ρ else u DD ρ
def dNever : DS := fun _ _ => False
theorem pssd_nil : PSsD X F0 H0 [] dNext := by
  refine ⟨pss_imp pss_nil ?_⟩
  rintro G σ H ⟨F, ρ, DD, E, q, l⟩
  exact l.nx ρ σ F H q (Same.refl _) E
theorem pssd_cons (h1 : PSD X F0 H0 st t) (h2 : PSsD X F0 H0 rest u) : PSsD X F0 H0 (st :: rest) (dSeq t u) := by
  refine ⟨pss_imp (pss_cons h1.ps h2.ps) ?_⟩
  rintro G σ H ⟨F, ρ, DD, E, q, l⟩
  exact ⟨F, ρ, { DD with nx := u DD }, E, q, ⟨fun ρ' σ' F' H' q' s' E' => ⟨F', ρ', DD, E', q', l.mono s'⟩, l.bk, l.ct, l.rt⟩⟩
/-- a cut: what holds between the two is the prover's to say -/
def dCut (t u : DS) : DS := fun DD ρ => ∃ M : Rho → Prop, t { DD with nx := M } ρ ∧ ∀ ρ', M ρ' → u DD ρ'
theorem pssd_cut (h1 : PSD X F0 H0 st t) (h2 : PSsD X F0 H0 rest u) : PSsD X F0 H0 (st :: rest) (dCut t u) := by
  refine ⟨pss_imp (pss_cons h1.ps h2.ps) ?_⟩
  rintro G σ H ⟨F, ρ, DD, E, ⟨M, q, k⟩, l⟩
  exact ⟨F, ρ, { DD with nx := M }, E, q, ⟨fun ρ' σ' F' H' q' s' E' => ⟨F', ρ', DD, E', k ρ' q', l.mono s'⟩, l.bk, l.ct, l.rt⟩⟩
theorem pssd_one (h1 : PSD X F0 H0 st t) : PSsD X F0 H0 [st] t := ⟨pss_one h1.ps⟩
theorem psd_pass : PSD X F0 H0 (.Pass pos) dNext := by
  refine ⟨ps_imp ps_pass ?_⟩
  rintro G σ H ⟨F, ρ, DD, E, q, l⟩
  exact l.nx ρ σ F H q (Same.refl _) E
theorem psd_break : PSD X F0 H0 (.Break pos) dBrk := by
  refine ⟨ps_imp ps_break ?_⟩
  rintro G σ H ⟨F, ρ, DD, E, q, l⟩
  exact l.bk ρ σ F H q (Same.refl _) E
theorem psd_continue : PSD X F0 H0 (.Continue pos) dCnt := by
  refine ⟨ps_imp ps_continue ?_⟩
  rintro G σ H ⟨F, ρ, DD, E, q, l⟩
  exact l.ct ρ σ F H q (Same.refl _) E
theorem psd_never : PSD X F0 H0 st dNever := ⟨ps_imp ps_never (by rintro G σ H ⟨F, ρ, DD, E, q, l⟩; exact q)⟩
theorem psd_ret {te : DE} (h : PD X F0 H0 e te) : PSD X F0 H0 (.Return (some e) pos) (dRet te) := by
  refine ⟨ps_imp (ps_ret h.pe) ?_⟩
  rintro G σ H ⟨F, ρ, DD, E, q, l⟩
  exact ⟨F, ρ, _, E, q, fun d v F' H' q' s r => l.rt d v F' H' q' s.ff (E.st.trans s) r⟩
theorem psd_expr {te : DE} (h : PD X F0 H0 e te) (hs : swapsWith e none pos.line X.env = pure false := by rfl) : PSD X F0 H0 (.Expr e pos) (dDrop te) := by
  refine ⟨ps_imp (ps_expr h.pe hs) ?_⟩
  rintro G σ H ⟨F, ρ, DD, E, q, l⟩
  exact ⟨F, ρ, _, E, q, fun d v F' H' q' s r => l.nx ρ σ F' H' q' s.ff (E.step s)⟩
theorem psd_if {tc : DT} {s1 s2 : List Stmt} (hc : PTD X F0 H0 c tc) (ha : PSsD X F0 H0 s1 t) (hb : PSsD X F0 H0 s2 u) : PSD X F0 H0 (.If c s1 s2 pos) (dIfS tc t u) := by
  refine ⟨ps_imp (ps_if hc.pt ha.ps hb.ps) ?_⟩
  rintro G σ H ⟨F, ρ, DD, E, q, l⟩
  refine ⟨F, ρ, _, E, q, fun b F' H' q' s => ?_⟩
  cases b with
  | true => exact ⟨F', ρ, DD, E.step s, q', l.mono s.ff⟩
  | false => exact ⟨F', ρ, DD, E.step s, q', l.mono s.ff⟩

/-! ### stores -/
def dSet (i : Nat) (t : DE) : DS := fun DD ρ => t ρ fun d => DD.nx (ρ.set i (some (.d d)))
def dSetO (i : Nat) (t : DA) : DS := fun DD ρ => t ρ fun l => DD.nx (ρ.set i (some (.own l)))
theorem psd_set {i : Nat} {x : Str} {te : DE} {pos' : Pos} (hN : X.N.Nodup) (hi : X.N[i]? = some x) (hx : Loc X.env.scope x) (h : PD X F0 H0 e te) (hs : swapsWith e (some (.Name x pos')) pos.line X.env = pure false := by rfl) (hf : X.fn x = true ∨ X.env.scope.names.lookup x = some .local := by first | exact .inl rfl | exact .inr rfl | assumption) :
    PSD X F0 H0 (.Assign [.Name x pos'] e pos) (dSet i te) := by
  refine ⟨ps_imp (ps_set hN hi hx h.pe hs hf) ?_⟩
  rintro G σ H ⟨F, ρ, DD, E, q, l⟩
  exact ⟨F, ρ, _, E, q, fun d v F' H' q' s r => l.nx _ _ F' H' q' s.ff ((E.step s).set r)⟩
theorem EnvAt.newOwn {K : PySem.W.Frag} {F H F' H' : Hp} {σ : L2.St} {ρ : Rho} {i : Nat} {p : Addr} {xs : List V} {ds : List D} (E : EnvAt K F0 H0 F H σ ρ) (s : Stp F H F' H') (hp : NF H p) (h1 : H' p = some (.lst xs)) (h2 : F' p = none) (r : AtAll K F' xs ds) :
    EnvAt K F0 H0 F' H' (σ.set i (some (.ref p))) (ρ.set i (some (.own ds))) := by
  refine (E.step s).setOwn h1 h2 (E.st.hh.nf hp) r fun j es hj z => ?_
  obtain ⟨q, ys, e1, e2, _⟩ := E.ow j es hj
  rw [z] at e1
  cases e1
  exact hp.ne e2 (fun _ z => HO.noConfusion z) rfl
theorem psd_setN {i : Nat} {x : Str} {te : DA} {pos' : Pos} (hN : X.N.Nodup) (hi : X.N[i]? = some x) (hx : Loc X.env.scope x) (h : PN X F0 H0 e te) (hs : swapsWith e (some (.Name x pos')) pos.line X.env = pure false := by rfl) (hf : X.fn x = true ∨ X.env.scope.names.lookup x = some .local := by first | exact .inl rfl | exact .inr rfl | assumption) :
    PSD X F0 H0 (.Assign [.Name x pos'] e pos) (dSetO i te) := by
  refine ⟨ps_imp (ps_set hN hi hx h.pe hs hf) ?_⟩
  rintro G σ H ⟨F, ρ, DD, E, q, l⟩
  exact ⟨F, ρ, _, E, q, fun ds p xs F' H' q' s hp h1 h2 r => l.nx _ _ F' H' q' s.ff (E.newOwn s hp h1 h2 r)⟩
def dPar (i j : Nat) (t : DA) : DS := fun DD ρ => t ρ fun ds => ∃ d e, ds = [d, e] ∧ DD.nx ((ρ.set i (some (.d d))).set j (some (.d e)))
theorem psd_par {i j : Nat} {x y : Str} {ta : DA} {px py pt : Pos} {kt k2 pt2} (hc : X.calm = true) (hN : X.N.Nodup) (hi : X.N[i]? = some x) (hj : X.N[j]? = some y) (hij : i ≠ j)
    (hx : X.env.scope.names.lookup x = some .local) (hy : X.env.scope.names.lookup y = some .local) (ha : PAD X F0 H0 [a, b] ta)
    (hw : swappedStores [.Tuple [.Name x px, .Name y py] kt pt] (.Tuple [a, b] k2 pt2) X.env = pure (some [x, y]) := by rfl)
    (hs : swapsWithSole [.Tuple [.Name x px, .Name y py] kt pt] (.Tuple [a, b] k2 pt2) pos.line X.env = pure false := by rfl) :
    PSD X F0 H0 (.Assign [.Tuple [.Name x px, .Name y py] kt pt] (.Tuple [a, b] k2 pt2) pos) (dPar i j ta) := by
  refine ⟨ps_imp (ps_par hc hN hi hj hij hx hy ha.pa hw hs) ?_⟩
  rintro G σ H ⟨F, ρ, DD, E, q, l⟩
  refine ⟨F, ρ, _, E, q, fun ds vs F' H' ⟨d, e, e1, q'⟩ s r => ?_⟩
  subst e1
  cases r with
  | cons r1 r2 =>
    cases r2 with
    | cons r2 r3 =>
      cases r3
      exact ⟨_, _, rfl, l.nx _ _ F' H' q' s.ff (((E.step s).set r1).set r2)⟩
def dAsg (te : DE) (g : DG) : DS := fun DD ρ => te ρ fun d => g d ρ DD.nx
theorem psd_asg {vs : List Nat} {tg : Expr} {te : DE} {g : DG} (h : PD X F0 H0 e te) (hg : PGD X F0 H0 vs tg g) (hs : swapsWithSole [tg] e pos.line X.env = pure false := by rfl) (hw : swappedStores [tg] e X.env = pure none := by rfl)
    (h1 : (assignEach [tg] X.env).map (·.2) = [assign tg X.env] := by rfl) : PSD X F0 H0 (.Assign [tg] e pos) (dAsg te g) := by
  refine ⟨ps_imp (ps_asg h.pe hg.pg hs hw h1) ?_⟩
  rintro G σ H ⟨F, ρ, DD, E, q, l⟩
  exact ⟨F, ρ, _, E, q, fun d v F' H' q' s r => ⟨F', ρ, d, _, E.step s, r, q', fun ρ' σ' q2 E2 _ => l.nx _ _ F' H' q2 s.ff E2⟩⟩
/-- slots from which names are to be stored -/
def allV : List Nat := List.range 60

/-! ### a list of one's own: append, extend, pop, xs[i] = v; and frozen -/
def dApp (i : Nat) (t : DE) : DS := fun DD ρ => ∃ l, ρ[i]? = some (some (.own l)) ∧ l.length < sizeLine ∧ t ρ fun d => DD.nx (ρ.set i (some (.own (l ++ [d]))))
theorem psd_app {i : Nat} {te : DE} {o : Expr} {apos cpos : Pos} (ho : PE X o (tVar i)) (h : PD X F0 H0 e te) (hs : swapsWith (.Call (.Attribute o "append" apos) [e] [] cpos) none pos.line X.env = pure false := by rfl)
    (hbase : attributeBase o "append" X.env (eval o X.env) = eval o X.env := by rfl)
    (hfew : ((backTo cpos (starEach [e] X.env)).all (fun x => !x.1) && (backToKw cpos (keywordEach [] X.env)).all (fun x => x.1.isSome) && decide ([e].length + ([] : List Keyword).length + (if ([] : List Keyword).isEmpty then 0 else 1) < 30)) = true := by rfl)
    (hline : (apos.endLine == cpos.line) = true := by rfl) (he : starEach [e] X.env = (false, eval e X.env) :: starEach [] X.env := by rfl) : PSD X F0 H0 (.Expr (.Call (.Attribute o "append" apos) [e] [] cpos) pos) (dApp i te) := by
  refine ⟨ps_imp (ps_expr (pe_bm PySem.F.plainAttrs_list PySem.F.slot_list_append PySem.F.type_list_append mt_append ho (pa_cons h.pe pa_nil he) hbase hfew hline he rfl) hs) ?_⟩
  rintro G σ H ⟨F, ρ, DD, E, ⟨l, hl, hz, q⟩, L⟩
  obtain ⟨p, xs, e1, e2, e3, e4, e5⟩ := E.ow i l hl
  refine ⟨_, e1, .inl ⟨rfl, _, SqL.of e2⟩, F, ρ, _, E, q, fun d v F' H' q' s r => ?_⟩
  have E' := E.step s
  have r' := e5.mono s.ff
  refine ⟨p, xs, v, rfl, rfl, s.hh.lst e2, by rw [e5.length]; exact hz, ?_⟩
  exact L.nx _ _ _ _ q' s.ff (E'.chg hl e1 (r'.append (.cons r .nil)))
def dExt (i : Nat) (t : DA) : DS := fun DD ρ => ∃ l, ρ[i]? = some (some (.own l)) ∧ t ρ fun m => l.length + m.length ≤ sizeLine ∧ DD.nx (ρ.set i (some (.own (l ++ m))))
theorem psd_ext {i : Nat} {te : DA} {o : Expr} {apos cpos : Pos} (ho : PE X o (tVar i)) (h : PL X F0 H0 e te) (hs : swapsWith (.Call (.Attribute o "extend" apos) [e] [] cpos) none pos.line X.env = pure false := by rfl)
    (hbase : attributeBase o "extend" X.env (eval o X.env) = eval o X.env := by rfl)
    (hfew : ((backTo cpos (starEach [e] X.env)).all (fun x => !x.1) && (backToKw cpos (keywordEach [] X.env)).all (fun x => x.1.isSome) && decide ([e].length + ([] : List Keyword).length + (if ([] : List Keyword).isEmpty then 0 else 1) < 30)) = true := by rfl)
    (hline : (apos.endLine == cpos.line) = true := by rfl) (he : starEach [e] X.env = (false, eval e X.env) :: starEach [] X.env := by rfl) : PSD X F0 H0 (.Expr (.Call (.Attribute o "extend" apos) [e] [] cpos) pos) (dExt i te) := by
  refine ⟨ps_imp (ps_expr (pe_bm PySem.F.plainAttrs_list PySem.F.slot_list_extend PySem.F.type_list_extend mt_extend ho (pa_cons h.pe pa_nil he) hbase hfew hline he rfl) hs) ?_⟩
  rintro G σ H ⟨F, ρ, DD, E, ⟨l, hl, q⟩, L⟩
  obtain ⟨p, xs, e1, e2, e3, e4, e5⟩ := E.ow i l hl
  refine ⟨_, e1, .inl ⟨rfl, _, SqL.of e2⟩, F, ρ, _, E, q, fun m v F' H' ⟨hz, q'⟩ s ⟨p2, ys, ev, h1, h2⟩ => ?_⟩
  subst ev
  have E' := E.step s
  have r' := e5.mono s.ff
  refine ⟨p, p2, xs, ys, rfl, rfl, s.hh.lst e2, h1, by rw [e5.length, h2.length]; exact hz, ?_⟩
  exact L.nx _ _ _ _ q' s.ff (E'.chg hl e1 (r'.append h2))
/-- x = xs.pop() -/
def dPop (i j : Nat) : DS := fun DD ρ => ∃ l d, i ≠ j ∧ ρ[i]? = some (some (.own l)) ∧ l[l.length - 1]? = some d ∧ DD.nx ((ρ.set i (some (.own l.dropLast))).set j (some (.d d)))
theorem AtAll.dropLast {K : PySem.W.Frag} {F : Hp} {vs : List V} {ds : List D} (h : AtAll K F vs ds) : AtAll K F vs.dropLast ds.dropLast := by
  rw [List.dropLast_eq_take, List.dropLast_eq_take, h.length]
  exact h.take _
theorem psd_pop {i j : Nat} {x : Str} {o : Expr} {apos cpos pos' : Pos} (ho : PE X o (tVar i)) (hN : X.N.Nodup) (hi : X.N[j]? = some x) (hx : Loc X.env.scope x)
    (hbase : attributeBase o "pop" X.env (eval o X.env) = eval o X.env := by rfl) (hline : (apos.endLine == cpos.line) = true := by rfl) (hs : swapsWith (.Call (.Attribute o "pop" apos) [] [] cpos) (some (.Name x pos')) pos.line X.env = pure false := by rfl)
    (hf : X.fn x = true ∨ X.env.scope.names.lookup x = some .local := by first | exact .inl rfl | exact .inr rfl | assumption) : PSD X F0 H0 (.Assign [.Name x pos'] (.Call (.Attribute o "pop" apos) [] [] cpos) pos) (dPop i j) := by
  refine ⟨ps_imp (ps_set hN hi hx (pe_bm0 PySem.F.plainAttrs_list PySem.F.slot_list_pop PySem.F.type_list_pop mt_pop ho hbase hline) hs hf) ?_⟩
  rintro G σ H ⟨F, ρ, DD, E, ⟨l, d, hij, hl, hd, q⟩, L⟩
  obtain ⟨p, xs, e1, e2, e3, e4, e5⟩ := E.ow i l hl
  obtain ⟨v, h1, h2⟩ := e5.get hd
  refine ⟨_, e1, .inl ⟨rfl, _, SqL.of e2⟩, p, xs, v, rfl, rfl, e2, by rw [e5.length]; exact h1, ?_⟩
  exact L.nx _ _ _ _ q (Same.refl _) ((E.chg hl e1 e5.dropLast).set h2)
/-- a ghost step: from here on slot i is nobody's to change -/
def dFrz (i : Nat) (t : DS) : DS := fun DD ρ => ∃ l, ρ[i]? = some (some (.own l)) ∧ t DD (ρ.set i (some (.d (.lst l))))
theorem pssd_frz {i : Nat} (h : PSsD X F0 H0 sts t) : PSsD X F0 H0 sts (dFrz i t) := by
  refine ⟨pss_imp h.ps ?_⟩
  rintro G σ H ⟨F, ρ, DD, E, ⟨l, hl, q⟩, L⟩
  obtain ⟨F', ff, E'⟩ := E.freeze hl
  exact ⟨F', _, DD, E', q, L.mono ff⟩
theorem psd_frz {i : Nat} (h : PSD X F0 H0 st t) : PSD X F0 H0 st (dFrz i t) := by
  refine ⟨ps_imp h.ps ?_⟩
  rintro G σ H ⟨F, ρ, DD, E, ⟨l, hl, q⟩, L⟩
  obtain ⟨F', ff, E'⟩ := E.freeze hl
  exact ⟨F', _, DD, E', q, L.mono ff⟩
/-- return of a list of one's own -/
theorem psd_retL {te : DA} (h : PN X F0 H0 e te) : PSD X F0 H0 (.Return (some e) pos) (dRet (dFz te)) := psd_ret h.pd
/-- an own slot takes part in a store: xs[k] = e -/
def dSetAt (i : Nat) (te tk : DE) : DS := fun DD ρ => te ρ fun d => ∃ l : List D, ρ[i]? = some (some (.own l)) ∧ tk ρ fun y => ∃ (k : Int) (j : Nat), y = .int k ∧ ixN l.length k = some j ∧ DD.nx (ρ.set i (some (.own (l.set j d))))
theorem psd_setAt {i : Nat} {te tk : DE} {o : Expr} {tpos : Pos} (ho : PE X o (tVar i)) (h : PD X F0 H0 e te) (hk : PD X F0 H0 a tk) (hs : swapsWithSole [.Subscript o a tpos] e pos.line X.env = pure false := by rfl) (hw : swappedStores [.Subscript o a tpos] e X.env = pure none := by rfl)
    (h1 : (assignEach [.Subscript o a tpos] X.env).map (·.2) = [assign (.Subscript o a tpos) X.env] := by rfl)
    (ha : ∀ v, assign (.Subscript o a tpos) X.env v = (do
      let ov ← holding [v] (eval o X.env)
      let iv ← holding [v, ov] (eval a X.env)
      standAt tpos
      holding [v, ov, iv] (setItem ov iv v)
      release [v, ov, iv] []) := by intro _; rfl) : PSD X F0 H0 (.Assign [.Subscript o a tpos] e pos) (dSetAt i te tk) := by
  refine ⟨ps_imp (ps_asg h.pe (pg_sub ho hk.pe set_list ha) hs hw h1) ?_⟩
  rintro G σ H ⟨F, ρ, DD, E, q, L⟩
  refine ⟨F, ρ, _, E, q, fun d v F1 H1 ⟨l, hl, q1⟩ s1 r1 => ?_⟩
  have E1 := E.step s1
  obtain ⟨p, xs, e1, e2, e3, e4, e5⟩ := E1.ow i l hl
  refine ⟨_, e1, F1, ρ, _, E1, q1, fun y w F2 H2 ⟨k, j, ey, hj, q2⟩ s2 r2 => ?_⟩
  subst ey
  cases r2
  have E2 := E1.step s2
  refine ⟨p, xs, k, j, rfl, rfl, s2.hh.lst e2, by rw [e5.length]; exact hj, ?_⟩
  exact L.nx _ _ _ _ q2 (s1.ff.trans s2.ff) (E2.chg hl e1 ((e5.mono s2.ff).set (r1.mono s2.ff) j))
end
end DL

namespace DL
open PySem PySem.Spec PyProof.Rows L2
variable [Tb]

/-! ### what is walked -/
structure Walk (K : PySem.W.Frag) (ok : Hp → Hp → Prop) (J : It) (items : List D) : Prop where
  go : ∀ i F H, ok F H → i < items.length → J.go i H
  stop : ∀ F H, ok F H → J.stop items.length H
  yld : ∀ i d F H x H', ok F H → items[i]? = some d → J.yld i H x H' → ∃ F', Stp F H F' H' ∧ At K F' x d
def okS (F1 : Hp) : Hp → Hp → Prop := fun F H => Same F1 F ∧ Same F H
theorem Walk.weak {K : PySem.W.Frag} {ok ok' : Hp → Hp → Prop} {J : It} {items : List D} (w : Walk K ok J items) (h : ∀ F H, ok' F H → ok F H) : Walk K ok' J items :=
  ⟨fun i F H a => w.go i F H (h _ _ a), fun F H a => w.stop F H (h _ _ a), fun i d F H x H' a => w.yld i d F H x H' (h _ _ a)⟩
/-- S: the walked thing stays whatever is stored; else: as long as nothing is stored -/
def lI (K : PySem.W.Frag) (F0 H0 : Hp) (S : Bool) (t : DA) : TI := fun σ H R => ∃ F ρ QQ, EnvAt K F0 H0 F H σ ρ ∧ t ρ QQ ∧
  ∀ items J F' H', QQ items → Stp F H F' H' → Walk K (if S then okS F' else fun F2 H2 => Stp F' H' F2 H2) J items → R J H'
structure PID (X : Cx) (F0 H0 : Hp) (S : Bool) (tg iter : Expr) (t : DA) : Prop where
  pi : PI X tg iter (lI X.K F0 H0 S t)
section
variable {X : Cx} {F0 H0 : Hp} {a b c e tg iter : Expr} {pos : Pos} {st : Stmt} {sts : List Stmt}
theorem pi_imp {t t' : TI} (h : PI X tg iter t) (w : ∀ σ H Q, t' σ H Q → t σ H Q) : PI X tg iter t' := ⟨fun pins s σ H R I q => h.run pins s σ H R I (w σ H R q)⟩
theorem PID.weak {t : DA} (h : PID X F0 H0 true tg iter t) : PID X F0 H0 false tg iter t := by
  refine ⟨pi_imp h.pi ?_⟩
  rintro σ H R ⟨F, ρ, QQ, E, q, k⟩
  exact ⟨F, ρ, QQ, E, q, fun items J F' H' q' s w => k items J F' H' q' s (w.weak fun F2 H2 z => ⟨z.ff, z.fs⟩)⟩
def dSeqL (t : DE) : DA := fun ρ Q => t ρ fun d => ∃ l, d = .lst l ∧ Q l
def dSeqT (t : DE) : DA := fun ρ Q => t ρ fun d => ∃ l, d = .tup l ∧ Q l
theorem walk_lst {K : PySem.W.Frag} {F1 : Hp} {p : Addr} {xs : List V} {ds : List D} (h : F1 p = some (.lst xs)) (r : AtAll K F1 xs ds) : Walk K (okS F1) (Itl K p) ds where
  go := fun i F H ⟨a, b⟩ hi => ⟨xs, xs[i]'(by rw [r.length]; exact hi), SqL.of (b _ _ (a _ _ h)), List.getElem?_eq_getElem _⟩
  stop := fun F H ⟨a, b⟩ => ⟨xs, SqL.of (b _ _ (a _ _ h)), by rw [r.length]; exact Nat.le_refl _⟩
  yld := fun i d F H x H' ⟨a, b⟩ hd ⟨e1, e2⟩ => by
    subst e1
    obtain ⟨v, h1, h2⟩ := r.get hd
    have e3 := e2 xs (SqL.of (b _ _ (a _ _ h)))
    rw [h1] at e3
    cases e3
    exact ⟨F, Stp.refl b, h2.mono a⟩
theorem walk_own {K : PySem.W.Frag} {F1 H1 : Hp} {p : Addr} {xs : List V} {ds : List D} (h : H1 p = some (.lst xs)) (r : AtAll K F1 xs ds) : Walk K (fun F H => Stp F1 H1 F H) (Itl K p) ds where
  go := fun i F H a hi => ⟨xs, xs[i]'(by rw [r.length]; exact hi), SqL.of (a.hh.lst h), List.getElem?_eq_getElem _⟩
  stop := fun F H a => ⟨xs, SqL.of (a.hh.lst h), by rw [r.length]; exact Nat.le_refl _⟩
  yld := fun i d F H x H' a hd ⟨e1, e2⟩ => by
    subst e1
    obtain ⟨v, h1, h2⟩ := r.get hd
    have e3 := e2 xs (SqL.of (a.hh.lst h))
    rw [h1] at e3
    cases e3
    exact ⟨F, Stp.refl a.fs, h2.mono a.ff⟩
theorem walk_tup {K : PySem.W.Frag} {F1 : Hp} {p : Addr} {xs : List V} {ds : List D} (h : SqT K F1 p xs) (r : AtAll K F1 xs ds) : Walk K (okS F1) (Itt K p) ds where
  go := fun i F H ⟨a, b⟩ hi => ⟨xs, xs[i]'(by rw [r.length]; exact hi), Same.sqT b (Same.sqT a h), List.getElem?_eq_getElem _⟩
  stop := fun F H ⟨a, b⟩ => ⟨xs, Same.sqT b (Same.sqT a h), by rw [r.length]; exact Nat.le_refl _⟩
  yld := fun i d F H x H' ⟨a, b⟩ hd ⟨e1, e2⟩ => by
    subst e1
    obtain ⟨v, h1, h2⟩ := r.get hd
    have e3 := e2 xs (Same.sqT b (Same.sqT a h))
    rw [h1] at e3
    cases e3
    exact ⟨F, Stp.refl b, h2.mono a⟩
/-- a list that nobody changes -/
theorem pid_lst {t : DE} (h : PD X F0 H0 iter t) : PID X F0 H0 true tg iter (dSeqL t) := by
  refine ⟨pi_imp (pi_list h.pe) ?_⟩
  rintro σ H R ⟨F, ρ, QQ, E, q, k⟩
  refine ⟨F, ρ, _, E, q, fun d v F' H' ⟨l, e1, q'⟩ s r => ?_⟩
  subst e1
  cases r with
  | lst h1 h2 => exact ⟨_, rfl, ⟨_, SqL.of (s.fs _ _ h1)⟩, k l _ F' H' q' s (walk_lst h1 h2)⟩
/-- a list of one's own: while nothing is stored -/
theorem pid_own {t : DA} (h : PL X F0 H0 iter t) : PID X F0 H0 false tg iter t := by
  refine ⟨pi_imp (pi_list h.pe) ?_⟩
  rintro σ H R ⟨F, ρ, QQ, E, q, k⟩
  refine ⟨F, ρ, _, E, q, fun d v F' H' q' s ⟨p, xs, e1, h1, h2⟩ => ?_⟩
  subst e1
  exact ⟨p, rfl, ⟨_, SqL.of h1⟩, k d _ F' H' q' s (walk_own h1 h2)⟩
theorem pid_tup {t : DE} (h : PD X F0 H0 iter t) : PID X F0 H0 true tg iter (dSeqT t) := by
  refine ⟨pi_imp (pi_tup h.pe) ?_⟩
  rintro σ H R ⟨F, ρ, QQ, E, q, k⟩
  refine ⟨F, ρ, _, E, q, fun d v F' H' ⟨l, e1, q'⟩ s r => ?_⟩
  subst e1
  cases r with
  | tup h1 h2 => exact ⟨_, rfl, ⟨_, Same.sqT s.fs h1⟩, k l _ F' H' q' s (walk_tup h1 h2)⟩
theorem walk_rng {K : PySem.W.Frag} {F1 : Hp} {lo : Int} {n : Nat} : Walk K (okS F1) (Itr lo n) ((List.range n).map fun (i : Nat) => D.int (lo + i)) where
  go := fun i F H _ hi => by
    show i < n
    simpa using hi
  stop := fun F H _ => by
    show n ≤ _
    simp
  yld := fun i d F H x H' ⟨_, b⟩ hd ⟨e1, e2⟩ => by
    subst e1 e2
    rw [List.getElem?_map] at hd
    by_cases hi : i < n
    · rw [List.getElem?_range hi] at hd
      cases hd
      exact ⟨F, Stp.refl b, .int _⟩
    · rw [List.getElem?_eq_none (by simpa using hi)] at hd
      cases hd
def rng (lo hi : Int) : List D := (List.range (hi - lo).toNat).map fun (i : Nat) => D.int (lo + i)
def dRng1 (t : DE) : DA := fun ρ Q => t ρ fun x => ∃ j : Int, x = .int j ∧ -(2 ^ 62) ≤ j ∧ j < 2 ^ 62 ∧ Q (rng 0 j)
def dRng2 (t u : DE) : DA := fun ρ Q => t ρ fun x => u ρ fun y => ∃ i j : Int, x = .int i ∧ y = .int j ∧ (-(2 ^ 62) ≤ i ∧ i < 2 ^ 62 ∧ -(2 ^ 62) ≤ j ∧ j < 2 ^ 62) ∧ Q (rng i j)
theorem pid_rng1 {t : DE} {p : Pos} (hg : Gl X "range") (hm : X.mg "range" = none) (h : PD X F0 H0 a t) (hs : starEach [a] X.env = [(false, eval a X.env)] := by rfl) : PID X F0 H0 true tg (.Call (.Name "range" p) [a] [] pos) (dRng1 t) := by
  refine ⟨pi_imp (pi_range1 hg hm (pa_cons h.pe pa_nil hs) hs) ?_⟩
  rintro σ H R ⟨F, ρ, QQ, E, q, k⟩
  refine ⟨F, ρ, _, E, q, fun d v F' H' ⟨j, e1, h1, h2, q'⟩ s r => ?_⟩
  subst e1
  cases r
  refine ⟨j, rfl, h1, h2, k _ _ F' H' q' s ?_⟩
  have w := walk_rng (K := X.K) (F1 := F') (lo := 0) (n := (j - 0).toNat)
  rw [Int.sub_zero] at w
  unfold rng
  rw [Int.sub_zero]
  exact w
theorem pid_rng2 {t u : DE} {p : Pos} (hg : Gl X "range") (hm : X.mg "range" = none) (h : PD X F0 H0 a t) (h2 : PD X F0 H0 b u) (hs : starEach [a, b] X.env = [(false, eval a X.env), (false, eval b X.env)] := by rfl) (hs2 : starEach [b] X.env = [(false, eval b X.env)] := by rfl) :
    PID X F0 H0 true tg (.Call (.Name "range" p) [a, b] [] pos) (dRng2 t u) := by
  refine ⟨pi_imp (pi_range2 hg hm (pa_cons h.pe (pa_cons h2.pe pa_nil hs2) (by rw [hs, hs2])) hs hs2) ?_⟩
  rintro σ H R ⟨F, ρ, QQ, E, q, k⟩
  refine ⟨F, ρ, _, E, q, fun d v F1 H1 q1 s1 r1 => ?_⟩
  refine ⟨F1, ρ, _, E.step s1, q1, fun d2 v2 F' H' ⟨i, j, e1, e2, hh, q'⟩ s2 r2 => ?_⟩
  subst e1 e2
  cases r1; cases r2
  exact ⟨i, j, rfl, hh, k _ _ F' H' q' (s1.trans s2) walk_rng⟩

/-! ### for -/
def dFor (ti : DA) (g : DG) (tb : DS) : DS := fun DD ρ => ti ρ fun items => ∃ I : Nat → Rho → Prop, I 0 ρ ∧
  (∀ i x ρ, items[i]? = some x → I i ρ → g x ρ fun ρ1 => tb ⟨I (i + 1), DD.rt, DD.nx, I (i + 1)⟩ ρ1) ∧ ∀ ρ, I items.length ρ → DD.nx ρ
theorem psd_for {ti : DA} {g : DG} {tb : DS} {vs : List Nat} (hp : PassesOwn (model X.prog X.w) X.A X.env X.xe) (hc : X.calm = true) (hi : PID X F0 H0 true tg iter ti) (hg : PGD X F0 H0 vs tg g) (hb : PSsD X F0 H0 sts tb)
    (hs : ∀ x, foldedSetIterable iter X.env x = pure x := by intro _; rfl) : PSD X F0 H0 (.For tg iter sts [] pos) (dFor ti g tb) := by
  refine ⟨ps_imp (ps_for hp hc hi.pi hg.pg hb.ps hs) ?_⟩
  rintro G σ H ⟨F, ρ, DD, E, q, L⟩
  refine ⟨F, ρ, _, E, q, fun items J F1 H1 ⟨I, i0, is, ie⟩ s1 w => ?_⟩
  refine ⟨fun i m σ H => m = items.length - i ∧ i ≤ items.length ∧ ∃ F ρ, EnvAt X.K F0 H0 F H σ ρ ∧ Same F1 F ∧ I i ρ, ⟨_, rfl, Nat.zero_le _, F1, ρ, E.step s1, Same.refl _, i0⟩, ?_⟩
  rintro i m σ2 H2 ⟨rfl, hi, F2, ρ2, E2, ff, p⟩
  have L2' := L.mono (s1.ff.trans ff)
  by_cases hlt : i < items.length
  · refine .inr ⟨w.go i F2 H2 ⟨ff, E2.fs⟩ hlt, fun σ' H' => ∃ F ρ, EnvAt X.K F0 H0 F H' σ' ρ ∧ Same F1 F ∧ I (i + 1) ρ, fun σ' H' p' => ⟨items.length - (i + 1), by omega, rfl, hlt, p'⟩, fun x H' y => ?_⟩
    have hd : items[i]? = some items[i] := List.getElem?_eq_getElem hlt
    obtain ⟨F3, s3, r3⟩ := w.yld i _ F2 H2 x H' ⟨ff, E2.fs⟩ hd y
    refine ⟨F3, ρ2, _, _, E2.step s3, r3, is i _ ρ2 hd p, fun ρ' σ' q' E' _ => ?_⟩
    refine ⟨F3, ρ', _, E', q', ⟨fun ρ4 σ4 F4 H4 q4 f4 E4 => ⟨F4, ρ4, E4, (ff.trans s3.ff).trans f4, q4⟩, fun ρ4 σ4 F4 H4 q4 f4 E4 => L2'.nx ρ4 σ4 F4 H4 q4 (s3.ff.trans f4) E4, fun ρ4 σ4 F4 H4 q4 f4 E4 => ⟨F4, ρ4, E4, (ff.trans s3.ff).trans f4, q4⟩, fun d v F4 H4 q4 f4 => L2'.rt d v F4 H4 q4 (s3.ff.trans f4)⟩⟩
  · have e : i = items.length := by omega
    subst e
    exact .inl ⟨w.stop F2 H2 ⟨ff, E2.fs⟩, L2'.nx ρ2 σ2 F2 H2 (ie ρ2 p) (Same.refl _) E2⟩

/-! ### while -/
def dWhile (tc : DT) (tb : DS) : DS := fun DD ρ => ∃ W : Nat → Rho → Prop, (∃ m, W m ρ) ∧ ∀ m ρ, W m ρ → tc ρ fun b => if b = true then tb ⟨fun ρ' => ∃ m', m' < m ∧ W m' ρ', DD.rt, DD.nx, fun ρ' => ∃ m', m' < m ∧ W m' ρ'⟩ ρ else DD.nx ρ
theorem psd_while {tc : DT} {tb : DS} (hp : PassesOwn (model X.prog X.w) X.A X.env X.xe) (hc : PTD X F0 H0 c tc) (hb : PSsD X F0 H0 sts tb) : PSD X F0 H0 (.While c sts [] pos) (dWhile tc tb) := by
  refine ⟨ps_imp (ps_while hp hc.pt hb.ps) ?_⟩
  rintro G σ H ⟨F, ρ, DD, E, ⟨W, ⟨m0, i0⟩, is⟩, L⟩
  refine ⟨fun m σ H => ∃ F2 ρ, EnvAt X.K F0 H0 F2 H σ ρ ∧ Same F F2 ∧ W m ρ, ⟨m0, F, ρ, E, Same.refl _, i0⟩, ?_⟩
  rintro m σ2 H2 ⟨F2, ρ2, E2, ff, i2⟩
  refine ⟨F2, ρ2, _, E2, is m ρ2 i2, fun b F3 H3 q3 s3 => ?_⟩
  have L3 := L.mono (ff.trans s3.ff)
  cases b with
  | true =>
    refine ⟨fun σ' H' => ∃ F4 ρ4, EnvAt X.K F0 H0 F4 H' σ' ρ4 ∧ Same F F4 ∧ ∃ m', m' < m ∧ W m' ρ4, fun σ' H' ⟨F4, ρ4, E4, f4, m', h4, i4⟩ => ⟨m', h4, F4, ρ4, E4, f4, i4⟩, ?_⟩
    have f3 := ff.trans s3.ff
    exact ⟨F3, ρ2, _, E2.step s3, q3, ⟨fun ρ4 σ4 F4 H4 q4 f4 E4 => ⟨F4, ρ4, E4, f3.trans f4, q4⟩, fun ρ4 σ4 F4 H4 q4 f4 E4 => L3.nx ρ4 σ4 F4 H4 q4 f4 E4, fun ρ4 σ4 F4 H4 q4 f4 E4 => ⟨F4, ρ4, E4, f3.trans f4, q4⟩, fun d v F4 H4 q4 f4 => L3.rt d v F4 H4 q4 f4⟩⟩
  | false => exact L3.nx ρ2 σ2 F3 H3 q3 (Same.refl _) (E2.step s3)

/-! ### comprehensions -/
def wipeD (ρ : Rho) : List Nat → Rho
  | [] => ρ
  | v :: vs => (wipeD ρ vs).set v none
theorem EnvAt.unset {K : PySem.W.Frag} {F H : Hp} {σ : L2.St} {ρ : Rho} {i : Nat} (E : EnvAt K F0 H0 F H σ ρ) : EnvAt K F0 H0 F H (σ.set i none) (ρ.set i none) where
  fs := E.fs
  nt := E.nt
  tb := E.tb
  st := E.st
  dd := fun j d h => by
    rcases setget h with ⟨_, _, z⟩ | ⟨hne, h⟩
    · cases z
    · obtain ⟨u, h1, h2⟩ := E.dd j d h
      exact ⟨u, by rw [List.getElem?_set_ne hne]; exact h1, h2⟩
  ow := fun j ds h => by
    rcases setget h with ⟨_, _, z⟩ | ⟨hne, h⟩
    · cases z
    · obtain ⟨p, xs, h1, h2⟩ := E.ow j ds h
      exact ⟨p, xs, by rw [List.getElem?_set_ne hne]; exact h1, h2⟩
  sep := fun j k ds es p h1 h2 h3 h4 => by
    rcases setget h1 with ⟨_, _, z⟩ | ⟨hne, h1⟩
    · cases z
    rcases setget h2 with ⟨_, _, z⟩ | ⟨hne2, h2⟩
    · cases z
    rw [List.getElem?_set_ne hne] at h3
    rw [List.getElem?_set_ne hne2] at h4
    exact E.sep j k ds es p h1 h2 h3 h4
  len := by rw [List.length_set, List.length_set, E.len]
theorem EnvAt.wipe {K : PySem.W.Frag} {F H : Hp} {σ : L2.St} {ρ : Rho} (E : EnvAt K F0 H0 F H σ ρ) : ∀ vs, EnvAt K F0 H0 F H (L2.wipe σ vs) (wipeD ρ vs)
  | [] => E
  | v :: vs => (EnvAt.wipe E vs).unset
def lcGo (vs : List Nat) (g : DG) (tt : DT) (te : DE) (ρ : Rho) : List D → List D → (List D → Prop) → Prop
  | [], acc, Q => Q acc
  | x :: xs, acc, Q => g x (wipeD ρ vs) fun ρ1 => tt ρ1 fun b => if b = true then te ρ1 fun y => lcGo vs g tt te ρ xs (acc ++ [y]) Q else lcGo vs g tt te ρ xs acc Q
def dLc (vs : List Nat) (ti : DA) (g : DG) (tt : DT) (te : DE) : DA := fun ρ Q => ti ρ fun items => items.length ≤ sizeLine ∧ lcGo vs g tt te ρ items [] Q
structure PTsD (X : Cx) (F0 H0 : Hp) (ifs : List Expr) (t : DT) : Prop where
  pt : PTs X ifs (lT X.K F0 H0 t)
def dYes : DT := fun _ Q => Q true
theorem pts_imp {es : List Expr} {t t' : TT} (h : PTs X es t) (w : ∀ σ H Q, t' σ H Q → t σ H Q) : PTs X es t' := ⟨fun pins s σ H Q I q => h.run pins s σ H Q I (w σ H Q q)⟩
theorem ptsd_nil : PTsD X F0 H0 [] dYes := by
  refine ⟨pts_imp pts_nil ?_⟩
  rintro σ H Q ⟨F, ρ, QQ, E, q, k⟩
  exact k true F H q (Stp.refl E.fs)
theorem ptsd_one {t : DT} (h : PTD X F0 H0 c t) : PTsD X F0 H0 [c] t := ⟨pts_one h.pt⟩
theorem lLc {vs : List Nat} {ti : DA} {g : DG} {tt : DT} {te : DE} {S : Bool} {σ : L2.St} {H : Hp} {Q : VK} (h : lN X.K F0 H0 (dLc vs ti g tt te) σ H Q) : tLc (lI X.K F0 H0 S ti) (lG X.K F0 H0 vs g) (lT X.K F0 H0 tt) (lJ X.K F0 H0 (RD X.K) te) vs σ H Q := by
  obtain ⟨F, ρ, QQ, E, q, k⟩ := h
  refine ⟨F, ρ, _, E, q, fun items J F1 H1 ⟨hz, q1⟩ s1 w => ?_⟩
  have w : Walk X.K (fun F2 H2 => Stp F1 H1 F2 H2) J items := by
    cases S with
    | true => exact w.weak fun F2 H2 z => ⟨z.ff, z.fs⟩
    | false => exact w
  intro C hC
  have E1 := E.step s1
  have s0 : Stp F1 H1 F1 (upd H1 C (.lst [])) := Stp.own s1.fs hC _
  refine ⟨fun i m H2 => m = items.length - i ∧ i ≤ items.length ∧ ∃ F2 acc accd, Stp F1 H1 F2 H2 ∧ H2 C = some (.lst acc) ∧ F2 C = none ∧ AtAll X.K F2 acc accd ∧ accd.length ≤ i ∧ lcGo vs g tt te ρ (items.drop i) accd QQ, ⟨_, rfl, Nat.zero_le _, F1, [], [], s0, upd_same, s1.fs.free hC, .nil, Nat.le_refl _, q1⟩, ?_⟩
  rintro i m H2 ⟨rfl, hi, F2, acc, accd, s2, hC2, hC3, ra, hl, q2⟩
  by_cases hlt : i < items.length
  · refine .inr ⟨w.go i F2 H2 s2 hlt, fun H' => ∃ F2 acc accd, Stp F1 H1 F2 H' ∧ H' C = some (.lst acc) ∧ F2 C = none ∧ AtAll X.K F2 acc accd ∧ accd.length ≤ i + 1 ∧ lcGo vs g tt te ρ (items.drop (i + 1)) accd QQ, fun H' p' => ⟨items.length - (i + 1), by omega, rfl, hlt, p'⟩, fun x H' y => ?_⟩
    have hd : items[i]? = some items[i] := List.getElem?_eq_getElem hlt
    obtain ⟨F3, s3, r3⟩ := w.yld i _ F2 H2 x H' s2 hd y
    rw [List.drop_eq_getElem_cons hlt] at q2
    have E3 := (E1.step (s2.trans s3)).wipe vs
    refine ⟨F3, _, _, _, E3, r3, q2, fun ρ' σ' q3 E' wp => ⟨wp.trans (by
      have : ∀ us : List Nat, (∀ v ∈ us, v ∈ vs) → L2.wipe (L2.wipe σ us) vs = L2.wipe σ vs := by
        intro us
        induction us with
        | nil => intro _; rfl
        | cons u us ih =>
          intro hu
          show L2.wipe ((L2.wipe σ us).set u none) vs = _
          rw [wipe_set (hu u List.mem_cons_self)]
          exact ih fun v hv => hu v (List.mem_cons_of_mem _ hv)
      exact this vs fun _ h => h), ?_⟩⟩
    refine ⟨F3, ρ', _, E', q3, fun b F4 H4 q4 s4 => ?_⟩
    have hC4 : H4 C = some (.lst acc) := s4.hh.lst (s3.hh.lst hC2)
    have hC5 : F4 C = none := (s3.trans s4).lnw hC2 hC3
    cases b with
    | false => exact ⟨F4, acc, accd, (s2.trans s3).trans s4, hC4, hC5, ra.mono (s3.ff.trans s4.ff), by omega, q4⟩
    | true =>
      refine ⟨F4, ρ', _, E'.step s4, q4, fun d v F5 H5 q5 s5 r5 => ?_⟩
      have hC6 : H5 C = some (.lst acc) := s5.hh.lst hC4
      have hC7 : F5 C = none := s5.lnw hC4 hC5
      have s6 := ((s2.trans s3).trans s4).trans s5
      refine ⟨acc, hC6, by rw [ra.length]; omega, F5, _, _, ⟨⟨fun b u z n => ?_, fun t => tabs_upd (s6.hh.tb t) hC6⟩, s6.ff, fun b u z => ?_, s6.nw, s6.nt⟩, upd_same, hC7, (ra.mono ((s3.ff.trans s4.ff).trans s5.ff)).append (.cons r5 .nil), by simp; omega, q5⟩
      · rw [upd_ne (ne_of_none z hC)]; exact s6.hh.ob b u z n
      · rw [upd_ne (ne_of_none z hC7)]; exact s6.fs b u z
  · have e : i = items.length := by omega
    subst e
    rw [List.drop_length] at q2
    exact .inl ⟨w.stop F2 H2 s2, k accd C acc F2 H2 q2 (s1.trans s2) (s1.hh.nfree hC) hC2 hC3 ra⟩
section
variable {elt : Expr} {ifs : List Expr} {scope : Scope} {own : List (Str × Nat)} {ti : DA} {g : DG} {tt : DT} {te : DE} {S : Bool}
theorem pn_lc (hc : X.calm = true) (hN : X.N.Nodup) (hi : PID X F0 H0 S tg iter ti) (ok : BlkOk X.N X.env.scope scope own)
    (hg : ∀ (s : Shared) (H : Hp) (C : Addr) (cl : List (Str × Addr)) (fp : List Addr), PGD (X.blk s H scope (compEnvC scope cl C X.env) fp) F0 H0 (own.map (·.2)) tg g) (ht : ∀ (s : Shared) (H : Hp) (C : Addr) (cl : List (Str × Addr)) (fp : List Addr), PTsD (X.blk s H scope (compEnvC scope cl C X.env) fp) F0 H0 ifs tt)
    (he : ∀ (s : Shared) (H : Hp) (C : Addr) (cl : List (Str × Addr)) (fp : List Addr), PD (X.blk s H scope (compEnvC scope cl C X.env) fp) F0 H0 elt te) (hs : ∀ x, foldedSetIterable iter X.env x = pure x := by intro _; rfl) :
    PN X F0 H0 (.ListComp elt [⟨tg, iter, ifs, 0⟩] scope pos) (dLc (own.map (·.2)) ti g tt te) :=
  ⟨pe_imp (pe_lc (g := lG X.K F0 H0 (own.map (·.2)) g) (tt := lT X.K F0 H0 tt) (te := lJ X.K F0 H0 (RD X.K) te) hc hN hi.pi ok (fun s H C cl fp => (hg s H C cl fp).pg) (fun s H C cl fp => (ht s H C cl fp).pt) (fun s H C cl fp => (he s H C cl fp).pe) hs) fun σ H Q h => lLc h⟩
/-- y = [..] -/
theorem psd_setLc {i : Nat} {y : Str} {py spos : Pos} (hc : X.calm = true) (hN : X.N.Nodup) (hy : X.N[i]? = some y) (hyl : X.env.scope.names.lookup y = some .local)
    (hsw : swapsWith (.ListComp elt [⟨tg, iter, ifs, 0⟩] scope pos) (some (.Name y py)) spos.line X.env = pure true) (hi : PID X F0 H0 S tg iter ti) (ok : BlkOk X.N X.env.scope scope own)
    (hg : ∀ (s : Shared) (H : Hp) (C : Addr) (cl : List (Str × Addr)) (fp : List Addr), PGD (X.blk s H scope (compEnvC scope cl C X.env) fp) F0 H0 (own.map (·.2)) tg g) (ht : ∀ (s : Shared) (H : Hp) (C : Addr) (cl : List (Str × Addr)) (fp : List Addr), PTsD (X.blk s H scope (compEnvC scope cl C X.env) fp) F0 H0 ifs tt)
    (he : ∀ (s : Shared) (H : Hp) (C : Addr) (cl : List (Str × Addr)) (fp : List Addr), PD (X.blk s H scope (compEnvC scope cl C X.env) fp) F0 H0 elt te) (hs : ∀ x, foldedSetIterable iter X.env x = pure x := by intro _; rfl) :
    PSD X F0 H0 (.Assign [.Name y py] (.ListComp elt [⟨tg, iter, ifs, 0⟩] scope pos) spos) (dSetO i (dLc (own.map (·.2)) ti g tt te)) := by
  refine ⟨ps_imp (ps_setLc (g := lG X.K F0 H0 (own.map (·.2)) g) (tt := lT X.K F0 H0 tt) (te := lJ X.K F0 H0 (RD X.K) te) hc hN hy hyl hsw hi.pi ok (fun s H C cl fp => (hg s H C cl fp).pg) (fun s H C cl fp => (ht s H C cl fp).pt) (fun s H C cl fp => (he s H C cl fp).pe) hs) ?_⟩
  rintro G σ H ⟨F, ρ, DD, E, q, L⟩
  exact lLc ⟨F, ρ, _, E, q, fun ds p xs F' H' q' s hp h1 h2 r => L.nx _ _ F' H' q' s.ff (E.newOwn s hp h1 h2 r)⟩
end

/-! ### a def -/
/-- the slots at the entry -/
def startD (N : List Str) (ds : List D) : Rho := ds.map (fun d => some (.d d)) ++ List.replicate (N.length - ds.length) none
theorem EnvAt.start {K : PySem.W.Frag} {F H : Hp} {N : List Str} {vs : List V} {ds : List D} (s : Same F H ∧ (∀ b ps, F b ≠ some (.tbl ps)) ∧ LamX.Tabs Tb.T H) (r : AtAll K F vs ds) : EnvAt K F H F H (L2.start N vs) (startD N ds) where
  fs := s.1
  nt := s.2.1
  tb := s.2.2
  st := Stp.refl s.1
  dd := fun i d h => by
    unfold startD at h
    by_cases hi : i < ds.length
    · rw [List.getElem?_append_left (by simpa using hi), List.getElem?_map] at h
      cases e : ds[i]? with
      | none => rw [e] at h; cases h
      | some d' =>
        rw [e] at h
        cases h
        obtain ⟨v, h1, h2⟩ := r.get e
        refine ⟨v, ?_, h2⟩
        unfold L2.start
        rw [List.getElem?_append_left (by rw [List.length_map, r.length]; exact hi), List.getElem?_map, h1]
        rfl
    · rw [List.getElem?_append_right (by simpa using hi), List.getElem?_replicate] at h
      split at h <;> cases h
  ow := fun i d h => by
    unfold startD at h
    by_cases hi : i < ds.length
    · rw [List.getElem?_append_left (by simpa using hi), List.getElem?_map] at h
      cases e : ds[i]? with
      | none => rw [e] at h; cases h
      | some d' => rw [e] at h; cases h
    · rw [List.getElem?_append_right (by simpa using hi), List.getElem?_replicate] at h
      split at h <;> cases h
  sep := fun i j d e p h _ _ _ => by
    unfold startD at h
    by_cases hi : i < ds.length
    · rw [List.getElem?_append_left (by simpa using hi), List.getElem?_map] at h
      cases e : ds[i]? with
      | none => rw [e] at h; cases h
      | some d' => rw [e] at h; cases h
    · rw [List.getElem?_append_right (by simpa using hi), List.getElem?_replicate] at h
      split at h <;> cases h
  len := by
    unfold startD L2.start
    simp [r.length]
section
variable {P : Program} {w : World} {K : PySem.W.Frag} {mg : Str → Option Value} {base : Heap}
/-- a def's contract over data, from its body as a term and from what the term says -/
theorem fnD {x qual : Str} {st : Stmt} {f : Addr} {fd : FuncData} {N ps : List Str} {k n : Nat} {t : List D → (D → Prop) → Prop} {T : DS} (F : Fun K x qual st f fd) (S : FnScope N ps (defScope st)) (hn : ps.length = n)
    (hb : ∀ (cdv : Value) (A : Around) (outer : List Env) (s : Shared) (H : Hp) (E : XK) (F0 : Hp), Room k (A.deeper (envOfC qual (defScope st) s.heap.objs.size f cdv)) → PSsD (cxOf CX0 P w K mg base N qual (defScope st) f cdv A outer s H E).nox F0 H (defBody st) T)
    (hv : ∀ ds Q, ds.length = n → t ds Q → T ⟨fun _ => Q .non, Q, fun _ => False, fun _ => False⟩ (startD N ds)) : FnOk P w K mg base CX0 (k + 1) f fd ps (spD K n t) := by
  refine F.ok S (fun vs H Q E h => by rw [spD_len h, hn]) (fun cdv A outer s H vs Q E hr h => ?_)
  obtain ⟨F0, ds, QQ, fs, r, hl, ht, k⟩ := h
  refine ⟨_, (hb cdv A outer s H E F0 hr).ps, F0, _, _, EnvAt.start fs r, hv ds QQ hl ht, ⟨fun ρ σ F' H' q _ E' => ?_, fun ρ σ F' H' q _ E' => q.elim, fun ρ σ F' H' q _ E' => q.elim, fun d v F' H' q _ s' r' => k d v F' H' q s' r'⟩⟩
  exact k .non .non F' H' q E'.st .non
theorem FnOk.impD {CX : CXT} {k n : Nat} {f : Addr} {fd : FuncData} {ps : List Str} {t t' : List D → (D → Prop) → Prop} (G : FnOk P w K mg base CX k f fd ps (spD K n t)) (h : ∀ ds Q, ds.length = n → t' ds Q → t ds Q) : FnOk P w K mg base CX k f fd ps (spD K n t') :=
  G.imp fun vs H Q E ⟨F0, ds, QQ, fs, r, hl, ht, k⟩ => ⟨F0, ds, QQ, fs, r, hl, h ds QQ hl ht, k⟩
end
end
end DL

namespace DL
open PySem L2
variable [Tb]
/-- a def of the top -/
def Df (K : PySem.W.Frag) (mg : Str → Option Value) (x : Str) (st : Stmt) (ps : List Str) : Prop := ∃ f fd, Fun K x x st f fd ∧ mg x = some (.ref f) ∧ Binds K fd ps []
/-- .. and what it promises -/
def Has (P : Program) (w : World) (K : PySem.W.Frag) (mg : Str → Option Value) (base : Heap) (k : Nat) (x : Str) (n : Nat) (t : List D → (D → Prop) → Prop) : Prop :=
  ∃ f fd ps, FnOk P w K mg base CX0 k f fd ps (spD K n t) ∧ mg x = some (.ref f) ∧ PySem.W.keepIn K (.ref f) = true ∧ Binds K fd ps []
theorem Df.has {P : Program} {w : World} {K : PySem.W.Frag} {mg : Str → Option Value} {base : Heap} {x : Str} {st : Stmt} {N ps : List Str} {k n : Nat} {t : List D → (D → Prop) → Prop} {T : DS} (F : Df K mg x st ps) (S : FnScope N ps (defScope st)) (hn : ps.length = n)
    (hb : ∀ (cdv : Value) (f : Addr) (A : Around) (outer : List Env) (s : Shared) (H : Hp) (E : XK) (F0 : Hp), Room k (A.deeper (PyProof.Rows.envOfC x (defScope st) s.heap.objs.size f cdv)) → PSsD (cxOf CX0 P w K mg base N x (defScope st) f cdv A outer s H E).nox F0 H (defBody st) T)
    (hv : ∀ ds Q, ds.length = n → t ds Q → T ⟨fun _ => Q .non, Q, fun _ => False, fun _ => False⟩ (startD N ds)) : Has P w K mg base (k + 1) x n t := by
  obtain ⟨f, fd, F, hm, hb'⟩ := F
  exact ⟨f, fd, ps, fnD F S hn (fun cdv A outer s H E F0 hr => hb cdv f A outer s H E F0 hr) hv, hm, F.kp, hb'⟩
theorem Has.imp {P : Program} {w : World} {K : PySem.W.Frag} {mg : Str → Option Value} {base : Heap} {x : Str} {k n : Nat} {t t' : List D → (D → Prop) → Prop} (h : Has P w K mg base k x n t) (i : ∀ ds Q, ds.length = n → t' ds Q → t ds Q) : Has P w K mg base k x n t' := by
  obtain ⟨f, fd, ps, G, a, b, c⟩ := h
  exact ⟨f, fd, ps, FnOk.impD G i, a, b, c⟩
theorem Has.mono {P : Program} {w : World} {K : PySem.W.Frag} {mg : Str → Option Value} {base : Heap} {x : Str} {j k n : Nat} {t : List D → (D → Prop) → Prop} (h : Has P w K mg base j x n t) (i : j ≤ k) : Has P w K mg base k x n t := by
  obtain ⟨f, fd, ps, G, a, b, c⟩ := h
  exact ⟨f, fd, ps, G.mono i, a, b, c⟩
section
variable {X : Cx} {F0 H0 : Hp} {a b c e : Expr} {pos : Pos}
/-- a call of a def of the top -/
theorem pd_fn {k n : Nat} {x : Str} {p : Pos} {es : List Expr} {t : List D → (D → Prop) → Prop} {ta : DA} (G : Has X.prog X.w X.K X.mg X.base k x n t) (hr : Room k X.A) (ha : PAD X F0 H0 (a :: es) ta) (hg : Gl X x := by rfl) (hn : (a :: es).length = n := by rfl) (hdb : (x == ("__debug__" : Str)) = false := by decide)
    (he : starEach (a :: es) X.env = (false, eval a X.env) :: starEach es X.env := by rfl) (hpl : (backTo pos (starEach es X.env)).any (·.1) = false := by rfl) (hx : Passes CX0 X E0 := by exact pass0) : PD X F0 H0 (.Call (.Name x p) (a :: es) [] pos) (dCall (fun ds Q => ds.length = n ∧ t ds Q) ta) := by
  obtain ⟨f, fd, ps, G, hm, hk, hb⟩ := G
  exact pd_call G hr hg hm hk hb hx ha hn hdb he hpl
end
end DL

namespace DL
open PySem L2
variable [Tb]
/-! ### the readings, opened -/
theorem atI_0 {α : Type} (x : α) (l : List α) : atI (x :: l) 0 = some x := atI_nat (xs := x :: l) (j := 0) rfl
theorem atI_1 {α : Type} (x y : α) (l : List α) : atI (x :: y :: l) 1 = some y := atI_nat (xs := x :: y :: l) (j := 1) rfl
theorem atI_2 {α : Type} (x y z : α) (l : List α) : atI (x :: y :: z :: l) 2 = some z := atI_nat (xs := x :: y :: z :: l) (j := 2) rfl
theorem szle {n : Nat} (h : n ≤ 1000) : n ≤ sizeLine := Nat.le_of_lt (small1000 h)
theorem ixV_tup {l : List D} {i : Int} {z : D} : ixV (.tup l) i z = (atI l i = some z) := rfl
theorem ixV_lst {l : List D} {i : Int} {z : D} : ixV (.lst l) i z = (atI l i = some z) := rfl
theorem ixV_str {s : Str} {i : Int} {z : D} : ixV (.str s) i z = (s.length ≤ sizeLine ∧ ∃ c, atI s.cps.toList i = some c ∧ z = .str ⟨#[c]⟩) := rfl
theorem ixV_scr {l : List Int} {i : Int} {z : D} : ixV (.scr l) i z = (∃ n, atI l i = some n ∧ z = .int n) := rfl
theorem lenV_tup {l : List D} {n : Nat} : lenV (.tup l) n = (n = l.length) := rfl
theorem lenV_lst {l : List D} {n : Nat} : lenV (.lst l) n = (n = l.length) := rfl
theorem lenV_str {s : Str} {n : Nat} : lenV (.str s) n = (s.length ≤ sizeLine ∧ n = s.length) := rfl
theorem lenV_scr {l : List Int} {n : Nat} : lenV (.scr l) n = (n = l.length) := rfl
theorem truV_non {k : Bool} : truV .non k = (k = false) := rfl
theorem truV_bl {b k : Bool} : truV (.bl b) k = (k = b) := rfl
theorem truV_int {i : Int} {k : Bool} : truV (.int i) k = (k = (i != 0)) := rfl
theorem truV_str {s : Str} {k : Bool} : truV (.str s) k = (s.length ≤ sizeLine ∧ k = ((s.length : Int) != 0)) := rfl
theorem truV_tup {l : List D} {k : Bool} : truV (.tup l) k = (k = !l.isEmpty) := rfl
theorem truV_lst {l : List D} {k : Bool} : truV (.lst l) k = (k = !l.isEmpty) := rfl
theorem tyD_int {i : Int} : tyD (.int i) = some "int" := rfl
theorem tyD_bl {i : Bool} : tyD (.bl i) = some "bool" := rfl
theorem tyD_str {i : Str} : tyD (.str i) = some "str" := rfl
theorem tyD_tup {i : List D} : tyD (.tup i) = some "tuple" := rfl
theorem tyD_lst {i : List D} : tyD (.lst i) = some "list" := rfl
theorem tyD_non : tyD .non = some "NoneType" := rfl
theorem sz0 : ((0 : Nat) ≤ sizeLine) = True := eq_true (by decide)
theorem sz1 : ((1 : Nat) ≤ sizeLine) = True := eq_true (by decide)
theorem sz2 : ((2 : Nat) ≤ sizeLine) = True := eq_true (by decide)
theorem sz3 : ((3 : Nat) ≤ sizeLine) = True := eq_true (by decide)
theorem sz4 : ((4 : Nat) ≤ sizeLine) = True := eq_true (by decide)
theorem sz5 : ((5 : Nat) ≤ sizeLine) = True := eq_true (by decide)
theorem sz6 : ((6 : Nat) ≤ sizeLine) = True := eq_true (by decide)
theorem sz7 : ((7 : Nat) ≤ sizeLine) = True := eq_true (by decide)
theorem sz8 : ((8 : Nat) ≤ sizeLine) = True := eq_true (by decide)
theorem sz9 : ((9 : Nat) ≤ sizeLine) = True := eq_true (by decide)
theorem sz10 : ((10 : Nat) ≤ sizeLine) = True := eq_true (by decide)
theorem sz11 : ((11 : Nat) ≤ sizeLine) = True := eq_true (by decide)
theorem sz12 : ((12 : Nat) ≤ sizeLine) = True := eq_true (by decide)
theorem sz13 : ((13 : Nat) ≤ sizeLine) = True := eq_true (by decide)
theorem sz14 : ((14 : Nat) ≤ sizeLine) = True := eq_true (by decide)
theorem sz15 : ((15 : Nat) ≤ sizeLine) = True := eq_true (by decide)
theorem sz16 : ((16 : Nat) ≤ sizeLine) = True := eq_true (by decide)
theorem sz17 : ((17 : Nat) ≤ sizeLine) = True := eq_true (by decide)
theorem sz18 : ((18 : Nat) ≤ sizeLine) = True := eq_true (by decide)
theorem sz19 : ((19 : Nat) ≤ sizeLine) = True := eq_true (by decide)
theorem sz20 : ((20 : Nat) ≤ sizeLine) = True := eq_true (by decide)
theorem sz24 : ((24 : Nat) ≤ sizeLine) = True := eq_true (by decide)
theorem sz30 : ((30 : Nat) ≤ sizeLine) = True := eq_true (by decide)
theorem sz32 : ((32 : Nat) ≤ sizeLine) = True := eq_true (by decide)
/-- one store at a time -/
theorem dSet_cut {i : Nat} {t : DE} {DD : DEnds} {ρ : Rho} (P : D → Prop) (h : ∀ Q : D → Prop, (∀ d, P d → Q d) → t ρ Q) (k : ∀ d, P d → DD.nx (ρ.set i (some (.d d)))) : dSet i t DD ρ := h _ k
theorem dSetO_cut {i : Nat} {t : DA} {DD : DEnds} {ρ : Rho} (P : List D → Prop) (h : ∀ Q : List D → Prop, (∀ d, P d → Q d) → t ρ Q) (k : ∀ d, P d → DD.nx (ρ.set i (some (.own d)))) : dSetO i t DD ρ := h _ k
theorem dPar_cut {i j : Nat} {t : DA} {DD : DEnds} {ρ : Rho} (P : D → D → Prop) (h : ∀ Q : List D → Prop, (∀ d e, P d e → Q [d, e]) → t ρ Q) (k : ∀ d e, P d e → DD.nx ((ρ.set i (some (.d d))).set j (some (.d e)))) : dPar i j t DD ρ :=
  h _ fun d e p => ⟨d, e, rfl, k d e p⟩
/-- a while, by a state -/
theorem dWhile_st {α : Type} {tc : DT} {tb : DS} {DD : DEnds} {ρ : Rho} (st : α → Rho) (I : α → Prop) (μ : α → Nat) (a0 : α) (h0 : ρ = st a0) (i0 : I a0)
    (step : ∀ a, I a → tc (st a) fun b => if b = true then tb ⟨fun ρ' => ∃ m', m' < μ a ∧ ∃ a', ρ' = st a' ∧ I a' ∧ m' = μ a', DD.rt, DD.nx, fun ρ' => ∃ m', m' < μ a ∧ ∃ a', ρ' = st a' ∧ I a' ∧ m' = μ a'⟩ (st a) else DD.nx (st a)) : dWhile tc tb DD ρ := by
  refine ⟨fun m ρ => ∃ a, ρ = st a ∧ I a ∧ m = μ a, ⟨_, a0, h0, i0, rfl⟩, ?_⟩
  rintro m ρ ⟨a, rfl, ia, rfl⟩
  exact step a ia
/-- a for, by a state -/
theorem dFor_st {α : Type} {ti : DA} {g : DG} {tb : DS} {DD : DEnds} {ρ : Rho} (st : Nat → α → Rho) (I : Nat → α → Prop) (items : List D) (hi : ∀ Q : List D → Prop, Q items → ti ρ Q) (a0 : α) (h0 : ρ = st 0 a0) (i0 : I 0 a0)
    (step : ∀ i x a, items[i]? = some x → I i a → g x (st i a) fun ρ1 => tb ⟨fun ρ' => ∃ a', ρ' = st (i + 1) a' ∧ I (i + 1) a', DD.rt, DD.nx, fun ρ' => ∃ a', ρ' = st (i + 1) a' ∧ I (i + 1) a'⟩ ρ1)
    (fin : ∀ a, I items.length a → DD.nx (st items.length a)) : dFor ti g tb DD ρ := by
  refine hi _ ⟨fun i ρ => ∃ a, ρ = st i a ∧ I i a, ⟨a0, h0, i0⟩, ?_, ?_⟩
  · rintro i x ρ hx ⟨a, rfl, ia⟩
    exact step i x a hx ia
  · rintro ρ ⟨a, rfl, ia⟩
    exact fin a ia
/-- a for, by an invariant of the slots -/
theorem dFor_i {ti : DA} {g : DG} {tb : DS} {DD : DEnds} {ρ : Rho} (items : List D) (hi : ∀ Q : List D → Prop, Q items → ti ρ Q) (I : Nat → Rho → Prop) (i0 : I 0 ρ)
    (step : ∀ i x ρ, items[i]? = some x → I i ρ → g x ρ fun ρ1 => tb ⟨I (i + 1), DD.rt, DD.nx, I (i + 1)⟩ ρ1)
    (fin : ∀ ρ, I items.length ρ → DD.nx ρ) : dFor ti g tb DD ρ := hi _ ⟨I, i0, step, fin⟩
theorem rng_get {lo hi : Int} {i : Nat} {x : D} (h : (rng lo hi)[i]? = some x) : x = .int (lo + i) ∧ lo + i < hi := by
  unfold rng at h
  rw [List.getElem?_map] at h
  by_cases hl : i < (hi - lo).toNat
  · rw [List.getElem?_range hl] at h
    cases h
    exact ⟨rfl, by omega⟩
  · rw [List.getElem?_eq_none (by simpa using hl)] at h
    cases h
theorem rng_len {lo hi : Int} : (rng lo hi).length = (hi - lo).toNat := by
  unfold rng; simp
/-- a comprehension that maps -/
theorem lcGo_map {vs : List Nat} {g : DG} {te : DE} {ρ : Rho} {f : D → D} {Q : List D → Prop} : ∀ (xs acc : List D), (∀ x ∈ xs, ∀ R : D → Prop, R (f x) → g x (wipeD ρ vs) fun ρ1 => te ρ1 R) → Q (acc ++ xs.map f) → lcGo vs g dYes te ρ xs acc Q
  | [], acc, _, q => by simpa [lcGo] using q
  | x :: xs, acc, h, q => by
    unfold lcGo
    refine h x List.mem_cons_self (fun y => lcGo vs g dYes te ρ xs (acc ++ [y]) Q) ?_
    refine lcGo_map xs (acc ++ [f x]) (fun z hz => h z (List.mem_cons_of_mem _ hz)) ?_
    rw [List.append_assoc]
    exact q
/-- a comprehension with a test -/
theorem lcGo_filter {vs : List Nat} {g : DG} {tt : DT} {te : DE} {ρ : Rho} {p : D → Bool} {f : D → D} {Q : List D → Prop} : ∀ (xs acc : List D), (∀ x ∈ xs, ∀ R : D → Prop, ∀ Z : Prop, (if p x = true then R (f x) else Z) → g x (wipeD ρ vs) fun ρ1 => tt ρ1 fun b => if b = true then te ρ1 R else Z) → Q (acc ++ (xs.filter p).map f) → lcGo vs g tt te ρ xs acc Q
  | [], acc, _, q => by simpa [lcGo] using q
  | x :: xs, acc, h, q => by
    unfold lcGo
    refine h x List.mem_cons_self (fun y => lcGo vs g tt te ρ xs (acc ++ [y]) Q) _ ?_
    by_cases hp : p x = true
    · rw [if_pos hp]
      refine lcGo_filter xs (acc ++ [f x]) (fun z hz => h z (List.mem_cons_of_mem _ hz)) ?_
      rw [List.append_assoc]
      rw [List.filter_cons_of_pos hp] at q
      exact q
    · rw [if_neg hp]
      refine lcGo_filter xs acc (fun z hz => h z (List.mem_cons_of_mem _ hz)) ?_
      rw [List.filter_cons_of_neg hp] at q
      exact q
end DL

namespace DL
open PySem PySem.Spec PyProof.Rows L2
variable [Tb]
section
variable {X : Cx} {F0 H0 : Hp} {a b c e tg iter : Expr} {pos : Pos} {st : Stmt} {sts : List Stmt}
/-! ### zip -/
def zipD (l m : List D) : List D := List.zipWith (fun x y => D.tup [x, y]) l m
theorem zipD_get {l m : List D} {i : Nat} {d : D} (h : (zipD l m)[i]? = some d) : ∃ x y, l[i]? = some x ∧ m[i]? = some y ∧ d = .tup [x, y] := by
  unfold zipD at h
  rw [List.getElem?_zipWith] at h
  cases h1 : l[i]? with
  | none => rw [h1] at h; cases h
  | some x =>
    cases h2 : m[i]? with
    | none => rw [h1, h2] at h; cases h
    | some y =>
      rw [h1, h2] at h
      cases h
      exact ⟨x, y, rfl, rfl, rfl⟩
theorem zipD_len {l m : List D} : (zipD l m).length = min l.length m.length := by
  unfold zipD
  rw [List.length_zipWith]
theorem pair_at {K : PySem.W.Frag} {F H : Hp} {T : Addr} {x y : V} {d e : D} (s : Same F H) (hT : H T = none) (rx : At K F x d) (ry : At K F y e) : ∃ F', Stp F H F' (upd H T (.tup [x, y])) ∧ At K F' (.ref T) (.tup [d, e]) := by
  have n := Stp.new s hT (.tup [x, y])
  exact ⟨_, n, .tup (SqT.of upd_same) (.cons (rx.mono n.ff) (.cons (ry.mono n.ff) .nil))⟩
theorem walk_zipT {K : PySem.W.Frag} {F1 : Hp} {p q : Addr} {xs ys : List V} {ds es : List D} (h : SqT K F1 p xs) (r : AtAll K F1 xs ds) (h' : SqT K F1 q ys) (r' : AtAll K F1 ys es) : Walk K (okS F1) (RZ.ItzT K p q) (zipD ds es) where
  go := fun i F H ⟨a, b⟩ hi => by
    rw [zipD_len] at hi
    have h1 : i < xs.length := by rw [r.length]; omega
    have h2 : i < ys.length := by rw [r'.length]; omega
    exact ⟨xs, ys, xs[i], ys[i], Same.sqT b (Same.sqT a h), Same.sqT b (Same.sqT a h'), List.getElem?_eq_getElem _, List.getElem?_eq_getElem _⟩
  stop := fun F H ⟨a, b⟩ => by
    refine ⟨xs, ys, Same.sqT b (Same.sqT a h), Same.sqT b (Same.sqT a h'), ?_⟩
    rw [zipD_len, r.length, r'.length]
    omega
  yld := fun i d F H x H' ⟨a, b⟩ hd ⟨T, x1, y1, e1, hT, e2, e3, e4⟩ => by
    subst e1 e2
    obtain ⟨u, v, h1, h2, rfl⟩ := zipD_get hd
    obtain ⟨v1, g1, g2⟩ := r.get h1
    obtain ⟨v2, g3, g4⟩ := r'.get h2
    have e3 := e3 xs (Same.sqT b (Same.sqT a h))
    have e4 := e4 ys (Same.sqT b (Same.sqT a h'))
    rw [g1] at e3
    rw [g3] at e4
    cases e3
    cases e4
    exact pair_at b hT (g2.mono a) (g4.mono a)
theorem walk_zipL {K : PySem.W.Frag} {F1 H1 : Hp} {p q : Addr} {xs ys : List V} {ds es : List D} (h : H1 p = some (.lst xs)) (r : AtAll K F1 xs ds) (h' : H1 q = some (.lst ys)) (r' : AtAll K F1 ys es) : Walk K (fun F H => Stp F1 H1 F H) (Itz K p q) (zipD ds es) where
  go := fun i F H a hi => by
    rw [zipD_len] at hi
    have h1 : i < xs.length := by rw [r.length]; omega
    have h2 : i < ys.length := by rw [r'.length]; omega
    exact ⟨xs, ys, xs[i], ys[i], SqL.of (a.hh.lst h), SqL.of (a.hh.lst h'), List.getElem?_eq_getElem _, List.getElem?_eq_getElem _⟩
  stop := fun F H a => by
    refine ⟨xs, ys, SqL.of (a.hh.lst h), SqL.of (a.hh.lst h'), ?_⟩
    rw [zipD_len, r.length, r'.length]
    omega
  yld := fun i d F H x H' a hd ⟨T, x1, y1, e1, hT, e2, e3, e4⟩ => by
    subst e1 e2
    obtain ⟨u, v, h1, h2, rfl⟩ := zipD_get hd
    obtain ⟨v1, g1, g2⟩ := r.get h1
    obtain ⟨v2, g3, g4⟩ := r'.get h2
    have e3 := e3 xs (SqL.of (a.hh.lst h))
    have e4 := e4 ys (SqL.of (a.hh.lst h'))
    rw [g1] at e3
    rw [g3] at e4
    cases e3
    cases e4
    exact pair_at a.fs hT (g2.mono a.ff) (g4.mono a.ff)
def dZipT (t u : DE) : DA := fun ρ Q => t ρ fun x => u ρ fun y => ∃ l m, x = .tup l ∧ y = .tup m ∧ Q (zipD l m)
def dZipL (t u : DA) : DA := fun ρ Q => t ρ fun l => u ρ fun m => Q (zipD l m)
theorem pid_zipT {t u : DE} {p tpos : Pos} {elts : List Expr} {kk : Nat} (hg : Gl X "zip") (hm : X.mg "zip" = none) (h : PD X F0 H0 a t) (h2 : PD X F0 H0 b u)
    (hs : starEach [a, b] X.env = (false, eval a X.env) :: starEach [b] X.env := by rfl) (hs2 : starEach [b] X.env = (false, eval b X.env) :: starEach [] X.env := by rfl) (hpl : (backTo pos (starEach [b] X.env)).any (·.1) = false := by rfl) :
    PID X F0 H0 true (.Tuple elts kk tpos) (.Call (.Name "zip" p) [a, b] [] pos) (dZipT t u) := by
  refine ⟨pi_imp (RZ.pi_zipA hg hm (pa_cons h.pe (pa_cons h2.pe pa_nil hs2) hs) hs hpl) ?_⟩
  rintro σ H R ⟨F, ρ, QQ, E, q, k⟩
  refine ⟨F, ρ, _, E, q, fun d v F1 H1 q1 s1 r1 => ?_⟩
  refine ⟨F1, ρ, _, E.step s1, q1, fun d2 v2 F2 H2 ⟨l, m, e1, e2, q2⟩ s2 r2 => ?_⟩
  subst e1 e2
  have r1 := r1.mono s2.ff
  cases r1 with
  | tup h1 h2 =>
    cases r2 with
    | tup h3 h4 => exact ⟨_, _, _, _, rfl, .inr ⟨Same.sqT s2.fs h1, Same.sqT s2.fs h3, k _ _ F2 H2 q2 (s1.trans s2) (walk_zipT h1 h2 h3 h4)⟩⟩
theorem pid_zipL {t u : DA} {p tpos : Pos} {elts : List Expr} {kk : Nat} (hg : Gl X "zip") (hm : X.mg "zip" = none) (h : PL X F0 H0 a t) (h2 : PL X F0 H0 b u)
    (hs : starEach [a, b] X.env = (false, eval a X.env) :: starEach [b] X.env := by rfl) (hs2 : starEach [b] X.env = (false, eval b X.env) :: starEach [] X.env := by rfl) (hpl : (backTo pos (starEach [b] X.env)).any (·.1) = false := by rfl) :
    PID X F0 H0 false (.Tuple elts kk tpos) (.Call (.Name "zip" p) [a, b] [] pos) (dZipL t u) := by
  refine ⟨pi_imp (RZ.pi_zipA hg hm (pa_cons h.pe (pa_cons h2.pe pa_nil hs2) hs) hs hpl) ?_⟩
  rintro σ H R ⟨F, ρ, QQ, E, q, k⟩
  refine ⟨F, ρ, _, E, q, fun d v F1 H1 q1 s1 ⟨p1, xs, e1, g1, g2⟩ => ?_⟩
  refine ⟨F1, ρ, _, E.step s1, q1, fun d2 v2 F2 H2 q2 s2 ⟨p2, ys, e2, g3, g4⟩ => ?_⟩
  subst e1 e2
  have g1 := s2.hh.lst g1
  exact ⟨_, _, _, _, rfl, .inl ⟨SqL.of g1, SqL.of g3, k _ _ F2 H2 q2 (s1.trans s2) (walk_zipL g1 (g2.mono s2.ff) g3 g4)⟩⟩

/-! ### isinstance(x, (S, T)) -/
def dIsi2 (S T : String) (t : DE) : DE := fun ρ Q => t ρ fun d => ∃ U b c, tyD d = some U ∧ kitB U S = some b ∧ kitB U T = some c ∧ Q (.bl (b || c))
theorem pd_isi2 {S T : String} {t : DE} {x y : Str} {p p2 p3 pt : Pos} {kt} (hg : Gl X "isinstance") (hm : X.mg "isinstance" = none) (hg2 : Gl X x) (hm2 : X.mg x = none) (hv2 : bootBuiltins x = some (.type S)) (hg3 : Gl X y) (hm3 : X.mg y = none) (hv3 : bootBuiltins y = some (.type T)) (ha : PD X F0 H0 a t)
    (hn : x ≠ "__name__" := by decide) (hdb : (x == ("__debug__" : Str)) = false := by decide) (hn3 : y ≠ "__name__" := by decide) (hdb3 : (y == ("__debug__" : Str)) = false := by decide)
    (he : starEach [a, .Tuple [.Name x p2, .Name y p3] kt pt] X.env = (false, eval a X.env) :: starEach [.Tuple [.Name x p2, .Name y p3] kt pt] X.env := by rfl) (he2 : starEach [.Tuple [.Name x p2, .Name y p3] kt pt] X.env = (false, eval (.Tuple [.Name x p2, .Name y p3] kt pt) X.env) :: starEach [] X.env := by rfl)
    (he3 : starEach [.Name x p2, .Name y p3] X.env = (false, eval (.Name x p2) X.env) :: starEach [.Name y p3] X.env := by rfl) (he4 : starEach [.Name y p3] X.env = (false, eval (.Name y p3) X.env) :: starEach [] X.env := by rfl) :
    PD X F0 H0 (.Call (.Name "isinstance" p) [a, .Tuple [.Name x p2, .Name y p3] kt pt] [] pos) (dIsi2 S T t) := by
  refine ⟨pe_imp (pe_callB call_isiT hg hm (by decide +kernel) (pa_cons ha.pe (pa_cons (pe_tup (pa_cons (pe_bltn (v := .ty S) hg2 hm2 hv2 rfl hn hdb) (pa_cons (pe_bltn (v := .ty T) hg3 hm3 hv3 rfl hn3 hdb3) pa_nil he4) he3)) pa_nil he2) he) (by decide) (by decide) he (by rw [he2]; rfl)) ?_⟩
  rintro σ H Q ⟨F, ρ, QQ, E, q, k⟩
  refine ⟨F, ρ, _, E, q, fun d v F1 H1 ⟨U, b, c, e1, e2, e3, q1⟩ s1 r1 => ⟨by show 2 ≤ sizeLine; decide, fun p hp => ?_⟩⟩
  have n := Stp.own s1.fs hp (.tup [.ty S, .ty T])
  refine ⟨v, p, [.ty S, .ty T], .type U, [.type S, .type T], b || c, rfl, upd_same, .cons (.ty S) (.cons (.ty T) .nil), At.ty n.fs r1 e1, ?_, k _ _ F1 _ q1 (s1.trans n) (.bl _)⟩
  unfold PySem.W.kitAny
  rw [kit_ty e2]
  cases b with
  | true => rfl
  | false =>
    show PySem.W.kitAny X.K (.type U) [.type T] = some (false || c)
    unfold PySem.W.kitAny
    rw [kit_ty e3]
    cases c <;> rfl
/-- a contract that is never asked -/
theorem Df.never {P : Program} {w : World} {K : PySem.W.Frag} {mg : Str → Option Value} {base : Heap} {x : Str} {st : Stmt} {ps : List Str} {k n : Nat} (F : Df K mg x st ps) : Has P w K mg base k x n (fun _ _ => False) := by
  obtain ⟨f, fd, F, hm, hb'⟩ := F
  have no : ∀ vs H Q E, ¬ spD K n (fun _ _ => False) vs H Q E := fun vs H Q E ⟨_, _, _, _, _, _, z, _⟩ => z
  exact ⟨f, fd, ps, ⟨fun vs H Q E h => absurd h (no vs H Q E), fun A outer s H args us vs Q E _ _ _ _ h => absurd h (no vs H Q E)⟩, hm, F.kp, hb'⟩
end
end DL
namespace DL
open PySem L2
variable [Tb]
theorem eqD_int {i j : Int} : eqD (.int i) (.int j) = (i == j) := by simp [eqD, D.py, PyData.eqv]
theorem eqD_bl {i j : Bool} : eqD (.bl i) (.bl j) = (i == j) := by simp [eqD, D.py, PyData.eqv]
theorem eqD_str {i j : Str} : eqD (.str i) (.str j) = (i == j) := by simp [eqD, D.py, PyData.eqv]
theorem ok_int {i : Int} : (D.int i).ok = true := rfl
theorem ok_bl {i : Bool} : (D.bl i).ok = true := rfl
theorem ok_str {i : Str} : (D.str i).ok = true := rfl
end DL
namespace DL
open PySem L2
variable [Tb]
theorem kb_NoneType_int : kitB "NoneType" "int" = some false := by decide +kernel
theorem kb_NoneType_bool : kitB "NoneType" "bool" = some false := by decide +kernel
theorem kb_NoneType_str : kitB "NoneType" "str" = some false := by decide +kernel
theorem kb_NoneType_tuple : kitB "NoneType" "tuple" = some false := by decide +kernel
theorem kb_NoneType_list : kitB "NoneType" "list" = some false := by decide +kernel
theorem kb_bool_int : kitB "bool" "int" = some true := by decide +kernel
theorem kb_bool_bool : kitB "bool" "bool" = some true := by decide +kernel
theorem kb_bool_str : kitB "bool" "str" = some false := by decide +kernel
theorem kb_bool_tuple : kitB "bool" "tuple" = some false := by decide +kernel
theorem kb_bool_list : kitB "bool" "list" = some false := by decide +kernel
theorem kb_int_int : kitB "int" "int" = some true := by decide +kernel
theorem kb_int_bool : kitB "int" "bool" = some false := by decide +kernel
theorem kb_int_str : kitB "int" "str" = some false := by decide +kernel
theorem kb_int_tuple : kitB "int" "tuple" = some false := by decide +kernel
theorem kb_int_list : kitB "int" "list" = some false := by decide +kernel
theorem kb_str_int : kitB "str" "int" = some false := by decide +kernel
theorem kb_str_bool : kitB "str" "bool" = some false := by decide +kernel
theorem kb_str_str : kitB "str" "str" = some true := by decide +kernel
theorem kb_str_tuple : kitB "str" "tuple" = some false := by decide +kernel
theorem kb_str_list : kitB "str" "list" = some false := by decide +kernel
theorem kb_tuple_int : kitB "tuple" "int" = some false := by decide +kernel
theorem kb_tuple_bool : kitB "tuple" "bool" = some false := by decide +kernel
theorem kb_tuple_str : kitB "tuple" "str" = some false := by decide +kernel
theorem kb_tuple_tuple : kitB "tuple" "tuple" = some true := by decide +kernel
theorem kb_tuple_list : kitB "tuple" "list" = some false := by decide +kernel
theorem kb_list_int : kitB "list" "int" = some false := by decide +kernel
theorem kb_list_bool : kitB "list" "bool" = some false := by decide +kernel
theorem kb_list_str : kitB "list" "str" = some false := by decide +kernel
theorem kb_list_tuple : kitB "list" "tuple" = some false := by decide +kernel
theorem kb_list_list : kitB "list" "list" = some true := by decide +kernel
/-- data that is compared with itself by the laws' own same: how deep -/
def simD : Nat → D → Bool
  | _, .non => true
  | _, .bl _ => true
  | _, .int _ => true
  | _, .str _ => true
  | n + 1, .tup l => decide (l.length ≤ 100000) && l.all (simD n)
  | _, _ => false
end DL

namespace DL
open PySem L2
variable [Tb]
/-! ### the end -/
theorem Df_mk {K : PySem.W.Frag} {h : Heap} {mg : Str → Option Value} (X : K.In h) (G : h.Ns mainGlobals mg) {x : Str} {st : Stmt} {ps : List Str} {f : Addr} {oc : Value} {od an : Option Addr} {osl : Array (Option Value)} {kV doc pm cdv ct : Value}
    (a : PySem.W.nsIn K mainGlobals x = some (some (.ref f))) (l : K.lookup f = some ⟨oc, od, .func (PySem.W.fnOf x x (defArgs st) (defBody st) (defScope st) .none kV doc pm an cdv ct), osl⟩) (c : PySem.W.codeIn K cdv x = true) (k : PySem.W.keepIn K (.ref f) = true)
    (hb : ∀ (kV doc pm : Value) (an : Option Addr) (cdv ct : Value) (us : List Value), us.length = ps.length → bindArgs (PySem.W.fnOf x x (defArgs st) (defBody st) (defScope st) .none kV doc pm an cdv ct) ⟨us, []⟩ = pure (ps.zip us)) : Df K mg x st ps := by
  have F := fun_mk (st := st) l c k
  exact ⟨f, _, F, PySem.W.mg_of X G a, F.binds hb⟩
/-- what law(script) promises -/
def spLaw (K : PySem.W.Frag) : Sp := fun vs H Q _ => ∃ (a : Addr) (ns : List Int), vs = [.ref a] ∧ SqL K H a (ns.map V.int) ∧ ns.length ≤ 63 ∧ LamX.Tabs Tb.T H ∧ ∀ H', Q (.bl true) H'
/-- a heap without its tables -/
def noTb (H : Hp) : Hp := fun b => match H b with
  | some (.tbl _) => none
  | o => o
theorem noTb_some {H : Hp} {b : Addr} {u : HO} (h : noTb H b = some u) : H b = some u ∧ ∀ ps, u ≠ .tbl ps := by
  unfold noTb at h
  split at h
  · cases h
  · rename_i n
    exact ⟨h, fun ps z => by subst z; exact n ps h⟩
theorem noTb_of {H : Hp} {b : Addr} {u : HO} (h : H b = some u) (n : ∀ ps, u ≠ .tbl ps) : noTb H b = some u := by
  unfold noTb
  split
  · rename_i ps e
    rw [h] at e
    exact absurd (Option.some.inj e) (n ps)
  · exact h
theorem noTb_seq {K : PySem.W.Frag} {H : Hp} {a : Addr} {xs : List V} (h : SqL K H a xs) : SqL K (noTb H) a xs := by
  rcases h with (h | ⟨o, h⟩) | h
  · exact .inl (.inl (noTb_of h (by intro _ z; cases z)))
  · exact .inl (.inr ⟨o, noTb_of h (by intro _ z; cases z)⟩)
  · exact .inr h
theorem law_of {P : Program} {w : World} {K : PySem.W.Frag} {mg : Str → Option Value} {base : Heap} {k : Nat} {f : Addr} {fd : FuncData} {ps : List Str} (G : FnOk P w K mg base CX0 k f fd ps (spD K 1 fun ds Q => ∃ ns : List Int, ds = [.scr ns] ∧ ns.length ≤ 63 ∧ Q (.bl true))) : FnOk P w K mg base CX0 k f fd ps (spLaw K) := by
  refine G.imp fun vs H Q E h => ?_
  obtain ⟨a, ns, rfl, hS, h63, hT, q⟩ := h
  refine ⟨noTb H, [.scr ns], fun d => d = .bl true, ⟨fun b u e => (noTb_some e).1, fun b ps e => (noTb_some e).2 ps rfl, hT⟩, .cons (.scr (noTb_seq hS)) .nil, rfl, ⟨ns, rfl, h63, rfl⟩, fun d v F' H' e _ r => ?_⟩
  subst e
  cases r
  exact q H'
theorem walk_endT {l : PySem.W.OpenLaw} {q : Program} {loose : List Str} {XP : (Str → Option Value) → Heap → Prop} {YP : World → Heap → Prop} {d : DefRec} {K : Params → PySem.W.Frag} {k : Nat} {st : Stmt} (cs : List (Addr × Addr)) (hn : l.most = some 63) (hdf : d.params.defaults = [])
    (hY : ∀ (w : World) (h : Heap), YP w h → (K w.params).In h) (hr : Room k callerA)
    (hb : ∀ (kV doc pm : Value) (an : Option Addr) (cdv ct : Value) (s : Shared) (v : Value), BindsTo s (PySem.W.fnOf "law" "law" (defArgs st) (defBody st) (defScope st) .none kV doc pm an cdv ct) ⟨[v], []⟩ [("_law_script", v)])
    (hname : d.name = "law") (hsub : ∀ p ∈ Tb.T, ∃ c, (c, p.1) ∈ cs) (hY2 : ∀ (w : World) (h : Heap), YP w h → ∀ p ∈ cs, h.get? p.2 = some { cls := .none, data := .fields #[] })
    (D : ∀ (w : World) (mg : Str → Option Value) (h : Heap), (K w.params).In h → h.Ns mainGlobals mg → (∀ p ∈ cs, (K w.params).lookup p.2 = none) ∧ (∀ p ∈ cs, PySem.W.CodeHd h p.1 p.2) ∧ Df (K w.params) mg "law" st ["_law_script"] ∧
      ∀ (f : Addr) (fd : FuncData) (base : Heap), (∀ p ∈ cs, LamX.TabB base mg p.1 p.2) → Fun (K w.params) "law" "law" st f fd → mg "law" = some (.ref f) → FnOk l.prog w (K w.params) mg base CX0 k f fd ["_law_script"] (spLaw (K w.params))) :
    PySem.W.WalkO q loose XP YP l.row.toRowW d [] (fun f vs => PySem.call f vs) := by
  refine LamX.walk_ofTs (n := 63) (k := k) (x := "_law_script") (CX := fun _ => CX0) hn (by decide) hdf hr hY (fun w mg fa h Y KX G hmg => ?_) fun _ _ _ _ _ z => z
  obtain ⟨h1, h2, ⟨f, fd, F, hm, _⟩, H⟩ := D w mg h KX G
  rw [hname] at hmg
  rw [hm] at hmg
  cases hmg
  have FF := F
  obtain ⟨oc, od, kV, doc, pm, an, cdv, ct, osl, rfl, lk, hcd⟩ := F.ex
  refine ⟨_, cs, spLaw (K w.params), hY2 w h Y, h1, h2, fun s v => hb kV doc pm an cdv ct s v, fun H' a ns hl _ hT hS => ⟨a, ns, rfl, hS, hl, fun p hp => ?_, fun _ => rfl⟩, fun base _ _ TB => H _ _ base TB FF hm⟩
  obtain ⟨c, hc⟩ := hsub p hp
  exact LamX.TabS.nil (hT _ hc)
theorem walk_end0 {l : PySem.W.OpenLaw} {q : Program} {loose : List Str} {XP : (Str → Option Value) → Heap → Prop} {YP : World → Heap → Prop} {d : DefRec} {K : Params → PySem.W.Frag} {k : Nat} {st : Stmt} (hT : Tb.T = []) (hn : l.most = some 63) (hdf : d.params.defaults = [])
    (hY : ∀ (w : World) (h : Heap), YP w h → (K w.params).In h) (hr : Room k callerA)
    (hb : ∀ (kV doc pm : Value) (an : Option Addr) (cdv ct : Value) (s : Shared) (v : Value), BindsTo s (PySem.W.fnOf "law" "law" (defArgs st) (defBody st) (defScope st) .none kV doc pm an cdv ct) ⟨[v], []⟩ [("_law_script", v)])
    (hname : d.name = "law")
    (D : ∀ (w : World) (mg : Str → Option Value) (h : Heap), (K w.params).In h → h.Ns mainGlobals mg → Df (K w.params) mg "law" st ["_law_script"] ∧ ∀ (f : Addr) (fd : FuncData) (base : Heap), Fun (K w.params) "law" "law" st f fd → FnOk l.prog w (K w.params) mg base CX0 k f fd ["_law_script"] (spLaw (K w.params))) :
    PySem.W.WalkO q loose XP YP l.row.toRowW d [] (fun f vs => PySem.call f vs) :=
  walk_endT [] hn hdf hY hr hb hname (fun p hp => by rw [hT] at hp; cases hp) (fun _ _ _ _ hp => nomatch hp) fun w mg h KX G => ⟨fun _ hp => (nomatch hp), fun _ hp => (nomatch hp), (D w mg h KX G).1, fun f fd base _ F _ => (D w mg h KX G).2 f fd base F⟩
end DL
namespace DL
open PySem L2
variable [Tb]
/-! ### constants of the module that are tuples -/
def KD (K : PySem.W.Frag) (u : Value) (d : D) : Prop := ∃ v, RelV v u ∧ ∀ F, At K F v d
def KDs (K : PySem.W.Frag) (us : List Value) (ds : List D) : Prop := ∃ vs, Vals vs us ∧ ∀ F, AtAll K F vs ds
section
variable {K : PySem.W.Frag}
theorem KD.int {i : Int} {t : Tok} : KD K (.int i t) (.int i) := ⟨.int i, ⟨t, rfl⟩, fun _ => .int i⟩
theorem KD.str {x : Str} {t : Tok} : KD K (.str x t) (.str x) := ⟨.str x, ⟨t, rfl⟩, fun _ => .str x⟩
theorem KD.bl {b : Bool} : KD K (.bool b) (.bl b) := ⟨.bl b, rfl, fun _ => .bl b⟩
theorem KD.non : KD K .none .non := ⟨.non, rfl, fun _ => .non⟩
theorem KDs.nil : KDs K [] [] := ⟨[], .nil, fun _ => .nil⟩
theorem KDs.cons {u : Value} {us : List Value} {d : D} {ds : List D} (h : KD K u d) (k : KDs K us ds) : KDs K (u :: us) (d :: ds) := by
  obtain ⟨v, r, q⟩ := h
  obtain ⟨vs, rs, qs⟩ := k
  exact ⟨v :: vs, .cons r rs, fun F => .cons (q F) (qs F)⟩
theorem KD.tup {a : Addr} {od : Option Addr} {its : Array Value} {n : Nat} {osl : Array (Option Value)} {ds : List D} (l : K.lookup a = some ⟨.type "tuple", od, .seq its n, osl⟩) (hz : its.size ≤ 1000) (h : KDs K its.toList ds) : KD K (.ref a) (.tup ds) := by
  obtain ⟨vs, rs, qs⟩ := h
  exact ⟨.ref a, rfl, fun F => .tup (.inr ⟨_, its, n, l, rfl, rfl, szle hz, rs⟩) (qs F)⟩
theorem KD.at {a : Addr} {d : D} (h : KD K (.ref a) d) : ∀ F, At K F (.ref a) d := by
  obtain ⟨v, r, q⟩ := h
  have e := r.abs
  cases e
  exact q
theorem c_ref {mg : Str → Option Value} {x : Str} {a : Addr} {d : D} (m : mg x = some (.ref a)) (q : KD K (.ref a) d) : ∃ a, mg x = some (.ref a) ∧ ∀ F, At K F (.ref a) d := ⟨a, m, q.at⟩
theorem c_int {mg : Str → Option Value} {x : Str} {i : Int} {t : Tok} (m : mg x = some (.int i t)) : ∃ t, mg x = some (.int i t) := ⟨t, m⟩
theorem c_strg {mg : Str → Option Value} {x y : Str} {t : Tok} (m : mg x = some (.str y t)) : ∃ t, mg x = some (.str y t) := ⟨t, m⟩
end
end DL

namespace DL
open PySem PySem.W PySem.Spec PyProof.Rows L2
variable [Tb]
/-! ### sorted of data -/
def leD : D → D → Bool := dataLe false D.py
/-- what may be sorted -/
def SortOk (x : List D) : Prop := AllAlike (x.map D.py) ∧ Sortable (x.map D.py) ∧ ∀ d ∈ x, d.py.plain = true ∧ d.py.depth ≤ 60
def sortD (x : List D) : List D := x.mergeSort leD
theorem each_of {K : PySem.W.Frag} {F : Hp} : ∀ {xs : List V} {us : List Value} {ds : List D}, Vals xs us → AtAll K F xs ds → EachIs (fun u d => ∃ x, RelV x u ∧ At K F x d) us ds
  | _, _, _, .nil, .nil => .nil
  | _, _, _, .cons r t, .cons a b => .cons ⟨_, r, a⟩ (each_of t b)
theorem each_to {K : PySem.W.Frag} {F : Hp} : ∀ {us : List Value} {ds : List D}, EachIs (fun u d => ∃ x, RelV x u ∧ At K F x d) us ds → ∃ xs, Vals xs us ∧ AtAll K F xs ds
  | _, _, .nil => ⟨[], .nil, .nil⟩
  | _, _, .cons ⟨x, r, a⟩ t => by
    obtain ⟨xs, h1, h2⟩ := each_to t
    exact ⟨x :: xs, .cons r h1, .cons a h2⟩
theorem each_reads {X : Cx} {pins : List (Addr × Obj)} {σ : L2.St} {H F : Hp} {s : Shared} (I : Inv X pins σ H s) (fs : Same F H) : ∀ {us : List Value} {ds : List D}, EachIs (fun u d => ∃ x, RelV x u ∧ At X.K F x d) us ds → (∀ d ∈ ds, d.py.plain = true) →
    EachIs (fun v b => ∃ as, Reads s.heap v (D.py b) as) us ds
  | _, _, .nil, _ => .nil
  | _, _, .cons ⟨x, r, a⟩ t, h => .cons (Dp.reads I _ x _ (Dp.mono' fs (At.dp a (h _ List.mem_cons_self))) r) (each_reads I fs t fun d hd => h d (List.mem_cons_of_mem _ hd))
def rSortD (X : Cx) : List V → Hp → VK → Prop := fun vs H Q => ∃ (a : Addr) (xs : List V) (ds : List D) (F : Hp), vs = [V.ref a] ∧ SqL X.K H a xs ∧ Same F H ∧ AtAll X.K F xs ds ∧ SortOk ds ∧
  ∀ (ys : List V) (p : Addr), AtAll X.K F ys (sortD ds) → H p = none → Q (.ref p) (upd H p (.lst ys))
theorem cr_sortD {X : Cx} (hu : X.A.units + 64 < cLine) : CallR X (.builtin "sorted") (rSortD X) := by
  intro pins s σ H vs us Q I r h
  obtain ⟨a, xs, ds, F, rfl, hs, fs, ha, ⟨hal, hso, hpl⟩, q⟩ := h
  obtain ⟨its, rv, hl, hz⟩ := I.list hs
  rw [Vals.ref1 r]
  have e := each_of rv ha
  refine sorted_data (R := fun u d => ∃ x, RelV x u ∧ At X.K F x d) (enc := D.py) hl.isList e (each_reads I fs e fun d hd => (hpl d hd).1) hal hso (by rw [← ha.length]; exact hz) (fun d hd => by have := (hpl d hd).2; omega) fun out hlen ho => ?_
  obtain ⟨ys, h1, h2⟩ := each_to ho
  obtain ⟨ep, he'⟩ := PyProof.Rows.sortedAll_at s.heap its out.toArray
  have hlen : ys.length ≤ sizeLine := by
    rw [h1.length, hlen, ← ha.length]
    exact hz
  exact ⟨.ref _, upd H (s.heap.objs.size + 1) (.lst ys), I.laid (t' := s.toks) (fun _ _ => PyProof.Rows.sortedAll_old) (Nat.le_succ _) ⟨hlen, out, ep, h1, he'⟩, rfl, q _ _ h2 (I.hok.fresh (Nat.le_succ _))⟩
def gSort : List D → (List D → Prop) → Prop := fun x Q => SortOk x ∧ Q (sortD x)
theorem c_sort {X : Cx} (hu : X.A.units + 64 < cLine) : ClN X (.builtin "sorted") (RL X.K) gSort := by
  refine ⟨_, cr_sortD hu, ?_⟩
  rintro F H x d QQ Q fs ⟨a, xs, rfl, h1, h2⟩ ⟨ok, q⟩ k
  exact ⟨a, xs, d, F, rfl, SqL.of h1, fs, h2, ok, fun ys p h3 hp => k _ p ys _ _ q (Stp.own fs hp _) hp upd_same (fs.free hp) h3⟩
end DL
namespace DL
open PySem PySem.W PySem.Spec PyProof.Rows L2
variable [Tb]
/-! ### set(xs) of a list of ints -/
abbrev bareSet (w : World) : Obj := { cls := .type "set", dict := none, data := .set #[] 0 (.fresh 0 0 (!w.params.followText "set-order")) }
section
variable {P : Program} {w : World} {A : Around} {E : Value → Shared → Prop} {s : Shared}
/-- set(l): what the filling of the new set leaves -/
theorem set_of_list {l : Addr} {items : Array Value} (R : Heap → Prop) {Q : Value → Shared → Prop} (hl : s.heap.IsList l items)
    (fill : ∀ E' : Value → Shared → Prop, (s.heap.push (bareSet w)).IsList l items → l < s.heap.objs.size →
      codeAny (model P w) A.in1.in1 (.builtin "set.update.loop" ⟨[.ref s.heap.objs.size, .ref (s.heap.objs.size + 1)], []⟩) (wants (fun r s2 => r = .none ∧ ∃ h' tk, s2 = { s with heap := h', toks := tk } ∧ R h') E')
        { s with heap := (s.heap.push (bareSet w)).push { cls := .type "list_iterator", data := .fields #[.ref l, .int 0 0] } })
    (h : ∀ (h' : Heap) (tk : Nat), R h' → Q (.ref s.heap.objs.size) { s with heap := h', toks := tk }) :
    wpAny (model P w) A (call (.type "set") [.ref l]) Q E s := by
  obtain ⟨c, tl, hmro⟩ := F.called_set.mro
  have hmade := F.called_set.made
  have hsub := F.called_set.sub
  refine wpAny_call (codeAny_of_tree ?_)
  show wpAny _ _ (callAny (.type "set") _) _ _ _
  refine wpAny_pure ⟨Code.quiet_builtin _ (by decide +kernel), codeAny_builtin F.entry_type_call ?_⟩
  rw [Around.under_plain (weight_type_call_type "set" [.ref l] []) rfl]
  have h1 := F.called_set.notType
  have h2 := F.called_set.canCreate
  have hct := F.typeCall_set_1 (.ref l)
  repeat (any_goals (first | assumption | wp_step))
  refine codeAny_mono (code_set_led1 (.ref l) (E := E) (Q₁ := fun obj s₁ => obj = .ref s.heap.objs.size ∧ s₁ = { s with heap := s.heap.push (bareSet w) }) ⟨rfl, rfl⟩) fun r s₁ hr => ?_
  match r, hr with
  | .error e, hr => exact hr
  | .ok (.ret obj), hr =>
    obtain ⟨rfl, rfl⟩ := hr
    have hT : Shared.TypeIs { s with heap := s.heap.push (bareSet w) } (.ref s.heap.objs.size) "set" := ⟨_, Heap.get?_push_size _ rfl, rfl⟩
    have hli := F.called_set.init.lookup
    have hbi := F.called_set.init.bind (.ref s.heap.objs.size)
    repeat (any_goals (first | assumption | wp_step))
    refine codeAny_mono (codeAny_call_builtin (R := wants (fun r s₂ => r = .none ∧ ∃ h' tk, s₂ = { s with heap := h', toks := tk } ∧ R h') E) F.called_set.init.plain F.entry_set_init (check_set_init_1 hT ?_)) fun r₂ s₂ hr₂ => ?_
    · have hlS : l < s.heap.objs.size := by
        obtain ⟨ol, hol, _⟩ := hl
        exact Heap.lt_size hol
      have hl1 : (s.heap.push (bareSet w)).IsList l items := hl.push _
      have hcls : ∃ o, (s.heap.push (bareSet w)).get? l = some o ∧ o.cls = .type "list" := by
        obtain ⟨o, ho, hc, _⟩ := hl1
        exact ⟨o, ho, hc⟩
      obtain ⟨⟨ocls, odict, odata, oslots⟩, hol', hcl⟩ := hcls
      simp only at hcl
      subst hcl
      have hsls := F.sub_list_set
      have hslf := F.sub_list_frozenset
      have hne : (Value.type "list" == Value.type "dict") = false := by decide
      unfold Builtin.«set.__init__» noKeywords Builtin.Frozenset.updateFrom
      generalize hPI : pyIter = PI
      wp_walk
      subst hPI
      refine wpAny_pyIter_list hl1 ?_
      refine wpAny_bind (wpAny_runValue ?_)
      have e1 : (s.heap.push (bareSet w)).objs.size = s.heap.objs.size + 1 := Heap.size_push ..
      have f := fill E hl1 hlS
      rw [← e1] at f
      refine codeAny_mono f fun r s' hr => ?_
      match r, hr with
      | .error e, hr => exact hr
      | .ok (.ret v), hr =>
        obtain ⟨rfl, h', tk, rfl, hR⟩ := hr
        refine wpAny_pure ?_
        show wpAny _ _ (ret Value.none) _ _ _
        exact wpAny_pure ⟨rfl, h', tk, rfl, hR⟩
    · match r₂, hr₂ with
      | .error e, hr₂ => exact hr₂
      | .ok (.ret r), hr₂ =>
        obtain ⟨rfl, h', tk, rfl, hR⟩ := hr₂
        repeat (any_goals (first | assumption | wp_step))
        exact h _ _ hR
/-- of ints -/
theorem set_of_ints {l : Addr} {items : Array Value} (ns : List Int) {Q : Value → Shared → Prop} (hh : A.handled = none) (hl : s.heap.IsList l items) (hit : IntsAre items.toList ns) (hb : ns.length + 1 < scanBound)
    (h : ∀ (h' : Heap) (tk c : Nat), SetR w h' s.heap.objs.size (fun j => decide (j ∈ ns)) c → c ≤ ns.length → (∀ b o, s.heap.get? b = some o → h'.get? b = some o) → Q (.ref s.heap.objs.size) { s with heap := h', toks := tk }) :
    wpAny (model P w) A (call (.type "set") [.ref l]) Q E s := by
  have hisz : items.size = ns.length := by
    have q := IntsAre.length hit
    rwa [Array.length_toList] at q
  refine set_of_list (fun h' => ∃ c, SetR w h' s.heap.objs.size (fun j => decide (j ∈ ns)) c ∧ c ≤ ns.length ∧ ∀ b o, s.heap.get? b = some o → h'.get? b = some o) hl (fun E' hl1 hlS => ?_) fun h' tk ⟨c, h1, h2, h3⟩ => h h' tk c h1 h2 h3
  have hh3 : A.in1.in1.in1.handled = none := by simp [hh]
  have hI : l ≠ (s.heap.push (bareSet w)).objs.size := by rw [Heap.size_push]; exact Nat.ne_of_lt (Nat.lt_succ_of_lt hlS)
  have eI : (s.heap.push (bareSet w)).objs.size = s.heap.objs.size + 1 := Heap.size_push ..
  have hval : ∀ (i : Nat) (v : Value), items[i]? = some v → ∃ k t, ns[i]? = some k ∧ v = .int k t := fun i v hv => by
    have hi : i < ns.length := by rw [← hisz]; exact (Array.getElem?_eq_some_iff.mp hv).1
    obtain ⟨t, e⟩ := IntsAre.int_at hit i v (by rw [Array.getElem?_toList]; exact hv)
    refine ⟨ns[i], t, List.getElem?_eq_getElem hi, ?_⟩
    rw [e, List.getD_eq_getElem?_getD, List.getElem?_eq_getElem hi]
    rfl
  have hS : ((s.heap.push (bareSet w)).push { cls := .type "list_iterator", data := .fields #[.ref l, .int 0 0] }).get? s.heap.objs.size = some (bareSet w) := Heap.get?_push_of_some _ (Heap.get?_push_size _ rfl)
  rw [← eI]
  refine set_update_ints ((Walks.list hh3 _ l hI items).toS) s.heap.objs.size (by rw [eI]; simp only [List.mem_cons, List.not_mem_nil, or_false, not_or]; exact ⟨Nat.ne_of_lt (Nat.lt_succ_self _), Nat.ne_of_gt hlS⟩) ns hisz hb hval (items.size - 0) 0 _ (by omega) (Nat.zero_le _) ⟨⟨_, Heap.get?_push_size _ rfl, rfl, rfl⟩, (hl1.push _)⟩ ⟨0, Nat.le_refl 0, setR_new_at hS⟩ ?_
  intro s' c' hm hc' hS'
  obtain ⟨h', g2, d', tk', os'⟩ := s'
  have eg : g2 = s.gens := hm.gens
  have ed : d' = s.drawn := hm.drawn
  have eo : os' = s.os := hm.os
  subst eg; subst ed; subst eo
  refine ⟨rfl, h', tk', rfl, c', hS', by omega, fun b o e => ?_⟩
  have hb0 : b < s.heap.objs.size := Heap.lt_size e
  exact hm.heap b o (by rw [eI]; simp only [List.mem_cons, List.not_mem_nil, or_false, not_or]; exact ⟨Nat.ne_of_lt hb0, Nat.ne_of_lt (Nat.lt_succ_of_lt hb0)⟩) (Heap.get?_push_of_some _ (Heap.get?_push_of_some _ e))
end
/-- a set of ints that was just made -/
def RS (w : World) : RJ (List Int) := fun _ H v ns => ∃ (a : Addr) (n : Nat), v = .ref a ∧ H a = some (SetO w a (fun j => decide (j ∈ ns)) n) ∧ n ≤ ns.length
def rSetI (X : Cx) : List V → Hp → VK → Prop := fun vs H Q => ∃ (l : Addr) (ns : List Int), vs = [V.ref l] ∧ SqL X.K H l (ns.map V.int) ∧ ns.length ≤ 1000 ∧
  ∀ a n, H a = none → n ≤ ns.length → Q (.ref a) (upd H a (SetO X.w a (fun j => decide (j ∈ ns)) n))
theorem cr_setI {X : Cx} (hc : X.calm = true) : CallR X (.type "set") (rSetI X) := by
  intro pins s σ H vs us Q I r h
  obtain ⟨l, ns, rfl, hs, hb, q⟩ := h
  obtain ⟨its, rv, hl, hz⟩ := I.list hs
  rw [Vals.ref1 r]
  have hn : H s.heap.objs.size = none := I.hok.fresh (Nat.le_refl _)
  refine set_of_ints ns (I.ok.hd hc) hl.isList (by simpa using rv.ints) (by unfold scanBound; omega) fun h' tk c hS hc' hk => ?_
  exact ⟨.ref _, upd H s.heap.objs.size (SetO X.w s.heap.objs.size (fun j => decide (j ∈ ns)) c), I.laid (t' := tk) (fun b o e => hk b o e) (Nat.le_refl _) (setO_new hS), rfl, q _ _ hn hc'⟩
def gSetI : List D → (List Int → Prop) → Prop := fun x Q => ∃ ns : List Int, x = ns.map D.int ∧ ns.length ≤ 1000 ∧ Q ns
theorem c_setI {X : Cx} (hc : X.calm = true) : ClD X (.type "set") (RL X.K) (RS X.w) gSetI := by
  refine ⟨_, cr_setI hc, ?_⟩
  rintro F H x d QQ Q fs ⟨a, xs, rfl, h1, h2⟩ ⟨ns, rfl, hb, q⟩ k
  have e := h2.ints
  subst e
  exact ⟨a, ns, rfl, SqL.of h1, hb, fun p n hp hn => k _ _ _ _ q (Stp.own fs hp _) ⟨p, n, rfl, upd_same, hn⟩⟩
def gSortI : List Int → (List D → Prop) → Prop := fun ns Q => ns.length < 64 ∧ ∀ ms : List Int, ms.Pairwise (· < ·) → (∀ k, k ∈ ms ↔ k ∈ ns) → Q (ms.map D.int)
theorem c_sortS {X : Cx} (hc : X.calm = true) : ClN X (.builtin "sorted") (RS X.w) gSortI := by
  refine ⟨_, cr_sortedSet hc, ?_⟩
  rintro F H x ns QQ Q fs ⟨a, n, rfl, h1, h2⟩ ⟨h64, q⟩ k
  exact ⟨a, _, n, rfl, h1, by omega, fun ms p hp hm _ hn => k _ p _ _ _ (q ms hp fun k => (hm k).trans (by rw [decide_eq_true_eq])) (Stp.own fs hn _) hn upd_same (fs.free hn) (AtAll.of_ints ms)⟩
end DL

namespace DL
open PySem PySem.W PySem.Spec PyProof.Rows L2
variable [Tb]
/-! ### targets that store into an own list -/
def lM (K : PySem.W.Frag) (F0 H0 : Hp) (t : DG) : TG := fun v σ H Q => ∃ F ρ d QQ, EnvAt K F0 H0 F H σ ρ ∧ At K F v d ∧ t d ρ QQ ∧ ∀ ρ' σ' F' H', QQ ρ' → Same F F' → EnvAt K F0 H0 F' H' σ' ρ' → Q σ' H'
def lMs (K : PySem.W.Frag) (F0 H0 : Hp) (t : DGs) : TGs := fun ws σ H Q => ∃ F ρ ds QQ, EnvAt K F0 H0 F H σ ρ ∧ AtAll K F ws ds ∧ t ds ρ QQ ∧ ∀ ρ' σ' F' H', QQ ρ' → Same F F' → EnvAt K F0 H0 F' H' σ' ρ' → Q σ' H'
structure PMD (X : Cx) (F0 H0 : Hp) (tg : Expr) (t : DG) : Prop where
  pg : PG X tg (lM X.K F0 H0 t)
structure PMsD (X : Cx) (F0 H0 : Hp) (tgs : List Expr) (t : DGs) : Prop where
  pg : PGs X tgs (lMs X.K F0 H0 t)
def dSub (i : Nat) (tk : DE) : DG := fun d ρ Q => ∃ l : List D, ρ[i]? = some (some (.own l)) ∧ tk ρ fun y => ∃ (k : Int) (j : Nat), y = .int k ∧ ixN l.length k = some j ∧ Q (ρ.set i (some (.own (l.set j d))))
section
variable {X : Cx} {F0 H0 : Hp} {a b e : Expr} {pos : Pos}
theorem pmd_sub {i : Nat} {tk : DE} {o : Expr} {tpos : Pos} (ho : PE X o (tVar i)) (hk : PD X F0 H0 a tk)
    (ha : ∀ v, assign (.Subscript o a tpos) X.env v = (do
      let ov ← holding [v] (eval o X.env)
      let iv ← holding [v, ov] (eval a X.env)
      standAt tpos
      holding [v, ov, iv] (setItem ov iv v)
      release [v, ov, iv] []) := by intro _; rfl) : PMD X F0 H0 (.Subscript o a tpos) (dSub i tk) := by
  refine ⟨pg_imp (pg_sub ho hk.pe set_list ha) ?_⟩
  rintro v σ H Q ⟨F, ρ, d, QQ, E, r, ⟨l, hl, q⟩, kk⟩
  obtain ⟨p, xs, e1, e2, e3, e4, e5⟩ := E.ow i l hl
  refine ⟨_, e1, F, ρ, _, E, q, fun y w F2 H2 ⟨k, j, ey, hj, q2⟩ s2 r2 => ?_⟩
  subst ey
  cases r2
  have E2 := E.step s2
  refine ⟨p, xs, k, j, rfl, rfl, s2.hh.lst e2, by rw [e5.length]; exact hj, ?_⟩
  exact kk _ _ F2 _ q2 s2.ff (E2.chg hl e1 ((e5.mono s2.ff).set (r.mono s2.ff) j))
theorem pmsd_nil : PMsD X F0 H0 [] dGNil := by
  refine ⟨pgs_imp pgs_nil ?_⟩
  rintro v σ H Q ⟨F, ρ, ds, QQ, E, r, ⟨rfl, q⟩, k⟩
  cases r
  exact ⟨rfl, k _ _ _ _ q (Same.refl _) E⟩
theorem pmsd_cons {e : Expr} {es : List Expr} {t : DG} {u : DGs} (h1 : PMD X F0 H0 e t) (h2 : PMsD X F0 H0 es u)
    (hs : (assignEach (e :: es) X.env).map (·.2) = assign e X.env :: (assignEach es X.env).map (·.2) := by rfl) : PMsD X F0 H0 (e :: es) (dGCons t u) := by
  refine ⟨pgs_imp (pgs_cons h1.pg h2.pg hs) ?_⟩
  rintro ws σ H Q ⟨F, ρ, ds, QQ, E, r, ⟨d, rr, rfl, q⟩, k⟩
  cases r with
  | cons r1 r2 =>
    refine ⟨_, _, rfl, F, ρ, d, _, E, r1, q, fun ρ' σ' F' H' q' s' E' => ?_⟩
    exact ⟨F', ρ', rr, QQ, E', r2.mono s', q', fun ρ2 σ2 F2 H2 q2 s2 E2 => k ρ2 σ2 F2 H2 q2 (s'.trans s2) E2⟩
theorem pmd_tup {es : List Expr} {k : Nat} {t : DGs} {n : Nat} (hc : X.calm = true) (h : PMsD X F0 H0 es t)
    (hn : (assignEach es X.env).length = n := by rfl) (hst : (assignEach es X.env).findIdx? (·.1) = none := by rfl) : PMD X F0 H0 (.Tuple es k pos) (gTp n t) := by
  refine ⟨pg_imp (pg_tup hc h.pg hn hst) ?_⟩
  rintro v σ H Q ⟨F, ρ, d, QQ, E, r, ⟨l, rfl, hl, q⟩, k⟩
  cases r with
  | tup h1 h2 => exact ⟨_, _, rfl, Same.sqT E.fs h1, by rw [h2.length]; exact hl, F, ρ, l, QQ, E, h2, q, k⟩
theorem psd_asgM {tg : Expr} {te : DE} {g : DG} (h : PD X F0 H0 e te) (hg : PMD X F0 H0 tg g) (hs : swapsWithSole [tg] e pos.line X.env = pure false := by rfl) (hw : swappedStores [tg] e X.env = pure none := by rfl)
    (h1 : (assignEach [tg] X.env).map (·.2) = [assign tg X.env] := by rfl) : PSD X F0 H0 (.Assign [tg] e pos) (dAsg te g) := by
  refine ⟨ps_imp (ps_asg h.pe hg.pg hs hw h1) ?_⟩
  rintro G σ H ⟨F, ρ, DD, E, q, l⟩
  exact ⟨F, ρ, _, E, q, fun d v F' H' q' s r => ⟨F', ρ, d, _, E.step s, r, q', fun ρ' σ' F2 H2 q2 s2 E2 => l.nx _ _ F2 H2 q2 (s.ff.trans s2) E2⟩⟩
end
end DL
namespace DL
open PySem PySem.W PySem.Spec PyProof.Rows L2
variable [Tb]
/-! ### max, min of a tuple of ints -/
section
variable {prog : Program} {w : World} {A : Around} {E : Value → Shared → Prop} {s : Shared} {l : Addr} {items : Array Value} {ns : List Int}
theorem iter_tup {Q : Value → Shared → Prop} (hl : s.heap.IsTuple l items)
    (h : ∀ s₂ : Shared, s₂ = { s with heap := s.heap.push { cls := .type "tuple_iterator", data := .fields #[.ref l, .int 0 0] } } →
      (∀ b ∈ [s.heap.objs.size, l], b < s₂.heap.objs.size) → l ≠ s.heap.objs.size → s₂.heap.IsTuple l items → Q (.ref s.heap.objs.size) s₂) :
    wpAny (model prog w) A (pyIter (.ref l)) Q E s := by
  have hlt : l < s.heap.objs.size := by obtain ⟨_, e, _⟩ := hl; exact Heap.lt_size e
  refine wpAny_pyIter_tuple hl (h _ rfl (fun b hb => ?_) (Nat.ne_of_lt hlt) (hl.push _))
  show b < (s.heap.push _).objs.size
  rw [Heap.size_push]
  simp only [List.mem_cons, List.not_mem_nil, or_false] at hb
  rcases hb with rfl | rfl
  · exact Nat.lt_succ_self _
  · exact Nat.lt_succ_of_lt hlt
theorem getD_lt {ns : List Int} {i : Nat} (h : i < ns.length) : ns.getD i 0 ∈ ns := by
  rw [List.getD_eq_getElem?_getD, List.getElem?_eq_getElem h]
  exact List.getElem_mem h
theorem maxT {Q : Value → Shared → Prop} (hh : A.handled = none) (hl : s.heap.IsTuple l items) (hi : IntsAre items.toList ns) (hne : 0 < ns.length)
    (h : ∀ h' tk M t', (∀ b o, s.heap.get? b = some o → h'.get? b = some o) → M ∈ ns → (∀ a, a ∈ ns → a ≤ M) → Q (.int M t') { s with heap := h', toks := tk }) : wpAny (model prog w) A (call (.builtin "max") [.ref l]) Q E s := by
  have hsz : items.size = ns.length := by
    have q := IntsAre.length hi
    rwa [Array.length_toList] at q
  refine call_max_walk (iter_tup hl fun s₂ e hfp hlI hl2 => ?_)
  subst e
  refine ⟨_, _, _, _, _, _, _, rfl, Walks.tuple (A := A.in1) hh _ l hlI items, ⟨⟨_, Heap.get?_push_size _ rfl, rfl, rfl⟩, hl2⟩, hfp, by omega, CmpOf.ints_gt (fun i => ns.getD i 0) (fun i v hv => IntsAre.int_at hi i v (by rw [Array.getElem?_toList]; exact hv)), fun v h' tk hP hk => ?_⟩
  obtain ⟨t, rfl⟩ := IntsAre.int_at hi _ v (by rw [Array.getElem?_toList]; exact hP)
  obtain ⟨h1, h2⟩ := argBest_gt (fun i => ns.getD i 0) (items.size - 1)
  refine h h' tk _ t (fun b o e => hk b o (by simp only [List.mem_singleton]; exact Nat.ne_of_lt (Heap.lt_size e)) (Heap.get?_push_of_some _ e)) (getD_lt (by omega)) fun a ha => ?_
  obtain ⟨j, hj, rfl⟩ := List.getElem_of_mem ha
  have := h2 j (by omega)
  simp only [List.getD_eq_getElem?_getD, List.getElem?_eq_getElem hj, Option.getD_some] at this ⊢
  exact this
theorem minT {Q : Value → Shared → Prop} (hh : A.handled = none) (hl : s.heap.IsTuple l items) (hi : IntsAre items.toList ns) (hne : 0 < ns.length)
    (h : ∀ h' tk M t', (∀ b o, s.heap.get? b = some o → h'.get? b = some o) → M ∈ ns → (∀ a, a ∈ ns → M ≤ a) → Q (.int M t') { s with heap := h', toks := tk }) : wpAny (model prog w) A (call (.builtin "min") [.ref l]) Q E s := by
  have hsz : items.size = ns.length := by
    have q := IntsAre.length hi
    rwa [Array.length_toList] at q
  refine call_min_walk (iter_tup hl fun s₂ e hfp hlI hl2 => ?_)
  subst e
  refine ⟨_, _, _, _, _, _, _, rfl, Walks.tuple (A := A.in1) hh _ l hlI items, ⟨⟨_, Heap.get?_push_size _ rfl, rfl, rfl⟩, hl2⟩, hfp, by omega, CmpOf.ints_lt (fun i => ns.getD i 0) (fun i v hv => IntsAre.int_at hi i v (by rw [Array.getElem?_toList]; exact hv)), fun v h' tk hP hk => ?_⟩
  obtain ⟨t, rfl⟩ := IntsAre.int_at hi _ v (by rw [Array.getElem?_toList]; exact hP)
  obtain ⟨h1, h2⟩ := argBest_lt (fun i => ns.getD i 0) (items.size - 1)
  refine h h' tk _ t (fun b o e => hk b o (by simp only [List.mem_singleton]; exact Nat.ne_of_lt (Heap.lt_size e)) (Heap.get?_push_of_some _ e)) (getD_lt (by omega)) fun a ha => ?_
  obtain ⟨j, hj, rfl⟩ := List.getElem_of_mem ha
  have := h2 j (by omega)
  simp only [List.getD_eq_getElem?_getD, List.getElem?_eq_getElem hj, Option.getD_some] at this ⊢
  exact this
end
def rMaxT (K : PySem.W.Frag) : List V → Hp → VK → Prop := fun vs H Q => ∃ (a : Addr) (ns : List Int), vs = [V.ref a] ∧ SqT K H a (ns.map V.int) ∧ 0 < ns.length ∧ ∀ m, m ∈ ns → (∀ y, y ∈ ns → y ≤ m) → Q (.int m) H
def rMinT (K : PySem.W.Frag) : List V → Hp → VK → Prop := fun vs H Q => ∃ (a : Addr) (ns : List Int), vs = [V.ref a] ∧ SqT K H a (ns.map V.int) ∧ 0 < ns.length ∧ ∀ m, m ∈ ns → (∀ y, y ∈ ns → m ≤ y) → Q (.int m) H
section
variable {X : Cx}
theorem cr_maxT (hc : X.calm = true) : CallR X (.builtin "max") (rMaxT X.K) := by
  intro pins s σ H vs us Q I r h
  obtain ⟨a, ns, rfl, hs, hne, q⟩ := h
  obtain ⟨its, rv, hl, _⟩ := I.tuple hs
  rw [Vals.ref1 r]
  exact maxT (I.ok.hd hc) hl (by simpa using rv.ints) hne fun h' tk m t' hk h1 h2 => ⟨.int _, H, I.kept hk, ⟨_, rfl⟩, q m h1 h2⟩
theorem cr_minT (hc : X.calm = true) : CallR X (.builtin "min") (rMinT X.K) := by
  intro pins s σ H vs us Q I r h
  obtain ⟨a, ns, rfl, hs, hne, q⟩ := h
  obtain ⟨its, rv, hl, _⟩ := I.tuple hs
  rw [Vals.ref1 r]
  exact minT (I.ok.hd hc) hl (by simpa using rv.ints) hne fun h' tk m t' hk h1 h2 => ⟨.int _, H, I.kept hk, ⟨_, rfl⟩, q m h1 h2⟩
def gMaxT : D → (D → Prop) → Prop := fun x Q => ∃ ns : List Int, x = .tup (ns.map D.int) ∧ 0 < ns.length ∧ ∀ m, m ∈ ns → (∀ y, y ∈ ns → y ≤ m) → Q (.int m)
def gMinT : D → (D → Prop) → Prop := fun x Q => ∃ ns : List Int, x = .tup (ns.map D.int) ∧ 0 < ns.length ∧ ∀ m, m ∈ ns → (∀ y, y ∈ ns → m ≤ y) → Q (.int m)
theorem c_maxT (hc : X.calm = true) : ClD X (.builtin "max") (RD X.K) (RD X.K) gMaxT := by
  refine ⟨_, cr_maxT hc, ?_⟩
  rintro F H x d QQ Q fs rx ⟨ns, rfl, hl, q⟩ k
  cases rx with
  | tup h1 h2 =>
    have e := h2.ints
    subst e
    exact ⟨_, ns, rfl, Same.sqT fs h1, hl, fun m a b => k _ _ F H (q m a b) (Stp.refl fs) (.int _)⟩
theorem c_minT (hc : X.calm = true) : ClD X (.builtin "min") (RD X.K) (RD X.K) gMinT := by
  refine ⟨_, cr_minT hc, ?_⟩
  rintro F H x d QQ Q fs rx ⟨ns, rfl, hl, q⟩ k
  cases rx with
  | tup h1 h2 =>
    have e := h2.ints
    subst e
    exact ⟨_, ns, rfl, Same.sqT fs h1, hl, fun m a b => k _ _ F H (q m a b) (Stp.refl fs) (.int _)⟩
end
end DL
namespace DL
open PySem L2
variable [Tb]
theorem room65 {k : Nat} {A : Around} (r : Room (k + 1) A) : A.units + 65 < cLine := by
  have := r.un
  omega
end DL

namespace DL
open PySem PySem.W PySem.Spec PyProof.Rows L2
variable [Tb]
/-! ### dicts of ints -/
def getI (kvs : List (Int × Int)) (i : Int) : Option Int := (kvs.find? fun p => decide (p.1 = i)).map (·.2)
theorem valV_dct (i : Int) : ∀ kvs : List (Int × Int), valV (dctV kvs) (Sum.inl i : Key) = (getI kvs i).map V.int
  | [] => rfl
  | p :: kvs => by
    unfold dctV getI
    rw [List.map_cons, List.find?_cons]
    by_cases h : p.1 = i
    · rw [valV_pos (by show (Sum.inl p.1 : Key) = Sum.inl i; rw [h])]
      simp [h]
    · rw [valV_neg (by intro e; exact h (Sum.inl.inj e))]
      have e : decide (p.1 = i) = false := decide_eq_false h
      rw [e]
      exact valV_dct i kvs
theorem mergeK_dct : ∀ (kvs acc : List (Int × Int)), (acc.map (·.1) ++ kvs.map (·.1)).Nodup → mergeK (dctV acc) (dctV kvs) = dctV (acc ++ kvs)
  | [], acc, _ => by rw [List.append_nil]; rfl
  | p :: kvs, acc, h => by
    have hn : valV (dctV acc) (Sum.inl p.1 : Key) = none := by
      rw [valV_dct]
      have : getI acc p.1 = none := by
        unfold getI
        rw [Option.map_eq_none_iff, List.find?_eq_none]
        intro q hq
        simp only [decide_eq_true_eq]
        intro e
        rw [List.nodup_append] at h
        exact h.2.2 q.1 (List.mem_map_of_mem hq) p.1 (by simp) e
      rw [this]
      rfl
    have e : putK (dctV acc) (Sum.inl p.1 : Key) (V.int p.2) = dctV (acc ++ [p]) := by
      unfold putK
      have hb := valV_any (Sum.inl p.1 : Key) (dctV acc)
      rw [hn] at hb
      rw [hb, if_neg (by decide)]
      unfold dctV
      rw [List.map_append]
      rfl
    show mergeK (putK (dctV acc) (Sum.inl p.1 : Key) (V.int p.2)) (dctV kvs) = _
    rw [e, mergeK_dct kvs (acc ++ [p]) (by simpa using h), List.append_assoc]
    rfl
def pairD (p : Int × Int) : D := .tup [.int p.1, .int p.2]
theorem pairs_at {K : PySem.W.Frag} {F H : Hp} (fs : Same F H) : ∀ {xs : List V} {kvs : List (Int × Int)}, AtAll K F xs (kvs.map pairD) → ∃ ps : List Addr, xs = ps.map V.ref ∧ Paired (fun p (kv : Key × V) => SqT K H p [kV kv.1, kv.2]) ps (dctV kvs)
  | _, [], .nil => ⟨[], rfl, .nil⟩
  | _, p :: kvs, .cons q r => by
    obtain ⟨ps, rfl, hp⟩ := pairs_at fs r
    cases q with
    | @tup a xs _ h1 h2 =>
      cases h2 with
      | cons e1 h2 =>
        cases h2 with
        | cons e2 h2 =>
          cases h2
          cases e1
          cases e2
          exact ⟨a :: ps, rfl, .cons (Same.sqT fs h1) hp⟩
theorem units1 {k : Nat} {A : Around} (r : Room k A) : A.units + 1 < cLine := by
  have := r.un
  omega
def gDict : List D → (D → Prop) → Prop := fun x Q => ∃ kvs : List (Int × Int), x = kvs.map pairD ∧ (kvs.map (·.1)).Nodup ∧ Q (.dct kvs)
section
variable {X : Cx}
theorem c_dict (hc : X.calm = true) : ClD X (.type "dict") (RL X.K) (RD X.K) gDict := by
  refine ⟨_, call_dictP hc, ?_⟩
  rintro F H x d QQ Q fs ⟨a, xs, rfl, h1, h2⟩ ⟨kvs, rfl, hn, q⟩ k
  obtain ⟨ps, rfl, hp⟩ := pairs_at fs h2
  refine ⟨a, ps, dctV kvs, rfl, SqL.of h1, hp, fun p hp => ?_⟩
  have e := mergeK_dct kvs [] (by simpa using hn)
  rw [show dctV [] = [] from rfl] at e
  rw [e, List.nil_append]
  exact k _ _ _ _ q (Stp.new fs hp _) (.dct upd_same)
end
section
variable {X : Cx} {F0 H0 : Hp} {a b c e o f : Expr} {pos apos cpos : Pos} {td ty tx : DE}
def dGet (td ty tx : DE) : DE := fun ρ Q => td ρ fun d => ∃ kvs, d = .dct kvs ∧ ty ρ fun y => tx ρ fun z => ∃ i, y = .int i ∧ Q (((getI kvs i).map D.int).getD z)
theorem pd_get (hu : X.A.units + 1 < cLine) (ho : PD X F0 H0 o td) (he : PD X F0 H0 e ty) (hf : PD X F0 H0 f tx) (m : M2 X o "get" apos e f cpos := by exact ⟨by rfl, by rfl, by rfl, by rfl⟩) : PD X F0 H0 (.Call (.Attribute o "get" apos) [e, f] [] cpos) (dGet td ty tx) := by
  refine ⟨pe_imp (pe_dget2 hu ho.pe he.pe hf.pe m) ?_⟩
  rintro σ H Q ⟨F, ρ, QQ, E, q, k⟩
  refine ⟨F, ρ, _, E, q, fun d v F1 H1 ⟨kvs, ed, q1⟩ s1 r1 => ?_⟩
  subst ed
  cases r1 with
  | dct hd =>
    refine ⟨_, rfl, .inl ⟨_, .inl (s1.fs _ _ hd)⟩, F1, ρ, _, E.step s1, q1, fun y w F2 H2 q2 s2 r2 => ?_⟩
    refine ⟨F2, ρ, _, (E.step s1).step s2, q2, fun z u F3 H3 ⟨i, ey, q3⟩ s3 r3 => ?_⟩
    subst ey
    cases r2
    refine ⟨_, DGet.k (k := Sum.inl i) (s3.fs _ _ (s3.ff _ _ (s2.ff _ _ hd))), ?_⟩
    rw [valV_dct]
    refine k _ _ F3 H3 q3 ((s1.trans s2).trans s3) ?_
    cases getI kvs i with
    | none => exact r3
    | some j => exact .int j
def dDIn (neg : Bool) (ty td : DE) : DE := fun ρ Q => ty ρ fun y => td ρ fun d => ∃ kvs i, d = .dct kvs ∧ y = .int i ∧ Q (.bl (if neg then !(getI kvs i).isSome else (getI kvs i).isSome))
theorem lDIn {K : PySem.W.Frag} (neg : Bool) {σ : L2.St} {H : Hp} {Q : VK} (h : lJ K F0 H0 (RD K) (dDIn neg ty td) σ H Q) : (if neg then tDNotIn (lJ K F0 H0 (RD K) ty) (lJ K F0 H0 (RD K) td) else tDIn (lJ K F0 H0 (RD K) ty) (lJ K F0 H0 (RD K) td)) σ H Q := by
  obtain ⟨F, ρ, QQ, E, q, k⟩ := h
  have main : lJ K F0 H0 (RD K) ty σ H fun y H1 => lJ K F0 H0 (RD K) td σ H1 fun x H2 => ∃ a o, x = .ref a ∧ DGet H2 a y o ∧ Q (.bl (if neg then !o.isSome else o.isSome)) H2 := by
    refine ⟨F, ρ, _, E, q, fun y v F1 H1 q1 s1 r1 => ?_⟩
    refine ⟨F1, ρ, _, E.step s1, q1, fun d w F2 H2 ⟨kvs, i, ed, ey, q2⟩ s2 r2 => ?_⟩
    subst ed ey
    cases r1
    cases r2 with
    | dct hd =>
      refine ⟨_, _, rfl, DGet.k (k := Sum.inl i) (s2.fs _ _ hd), ?_⟩
      rw [valV_dct, Option.isSome_map]
      exact k _ _ F2 H2 q2 (s1.trans s2) (.bl _)
  cases neg with
  | true => exact main
  | false => exact main
theorem pd_in_dict (hu : X.A.units + 1 < cLine) (he : PD X F0 H0 e ty) (ho : PD X F0 H0 o td) (h1 : behindInMarks .In o = false := by first | exact nomark _ | rfl) : PD X F0 H0 (.Compare e [.In] [o] pos) (dDIn false ty td) :=
  ⟨pe_imp (pe_cmp (pc_din hu he.pe ho.pe) h1) fun σ H Q h => lDIn false h⟩
theorem ptd_in_dict (hu : X.A.units + 1 < cLine) (he : PD X F0 H0 e ty) (ho : PD X F0 H0 o td) (h1 : behindInMarks .In o = false := by first | exact nomark _ | rfl) : PTD X F0 H0 (.Compare e [.In] [o] pos) (dTst (dDIn false ty td)) :=
  ⟨pt_imp (pt_cmp (pc_din hu he.pe ho.pe) h1) fun σ H Q h => lDIn false (lTst h)⟩
def dDSub (td ty : DE) : DE := fun ρ Q => td ρ fun d => ty ρ fun y => ∃ kvs i j, d = .dct kvs ∧ y = .int i ∧ getI kvs i = some j ∧ Q (.int j)
theorem pd_dget (hu : X.A.units + 1 < cLine) (ho : PD X F0 H0 o td) (hi : PD X F0 H0 e ty) (hs : NoSl e := by intro _ _; rfl) : PD X F0 H0 (.Subscript o e pos) (dDSub td ty) := by
  refine ⟨pe_imp (pe_dget hu ho.pe hi.pe hs) ?_⟩
  rintro σ H Q ⟨F, ρ, QQ, E, q, k⟩
  refine ⟨F, ρ, _, E, q, fun d v F1 H1 q1 s1 r1 => ?_⟩
  refine ⟨F1, ρ, _, E.step s1, q1, fun y w F2 H2 ⟨kvs, i, j, ed, ey, hg, q2⟩ s2 r2 => ?_⟩
  subst ed ey
  cases r2
  cases r1 with
  | dct hd =>
    have g := DGet.k (k := Sum.inl i) (s2.fs _ _ (s2.ff _ _ hd))
    rw [valV_dct, hg] at g
    exact ⟨_, _, rfl, g, k _ _ F2 H2 q2 (s1.trans s2) (.int j)⟩
end
/-! ### range with a step -/
def rngC (lo : Int) (n : Nat) (c : Int) : List D := (List.range n).map fun (i : Nat) => D.int (lo + i * c)
theorem walk_rngC {K : PySem.W.Frag} {F1 : Hp} {lo c : Int} {n : Nat} : Walk K (okS F1) (Itc lo c n) (rngC lo n c) where
  go := fun i F H _ hi => by
    show i < n
    simpa [rngC] using hi
  stop := fun F H _ => by
    show n ≤ _
    simp [rngC]
  yld := fun i d F H x H' ⟨_, b⟩ hd ⟨e1, e2⟩ => by
    subst e1 e2
    unfold rngC at hd
    rw [List.getElem?_map] at hd
    by_cases hi : i < n
    · rw [List.getElem?_range hi] at hd
      cases hd
      exact ⟨F, Stp.refl b, .int _⟩
    · rw [List.getElem?_eq_none (by simpa using hi)] at hd
      cases hd
def dRng3 (t u z : DE) : DA := fun ρ Q => t ρ fun x => u ρ fun y => z ρ fun s => ∃ (i j c : Int) (n : Nat), x = .int i ∧ y = .int j ∧ s = .int c ∧ RgC i j c n ∧ Q (rngC i n c)
section
variable {X : Cx} {F0 H0 : Hp} {a b c tg : Expr} {pos p : Pos} {t u z : DE}
theorem pid_rng3 (hg : Gl X "range") (hm : X.mg "range" = none) (h : PD X F0 H0 a t) (h2 : PD X F0 H0 b u) (h3 : PD X F0 H0 c z)
    (hs : starEach [a, b, c] X.env = (false, eval a X.env) :: starEach [b, c] X.env := by rfl) (hs2 : starEach [b, c] X.env = (false, eval b X.env) :: starEach [c] X.env := by rfl) (hs3 : starEach [c] X.env = [(false, eval c X.env)] := by rfl) (hpl : (backTo pos (starEach [b, c] X.env)).any (·.1) = false := by rfl) :
    PID X F0 H0 true tg (.Call (.Name "range" p) [a, b, c] [] pos) (dRng3 t u z) := by
  refine ⟨pi_imp (pi_range3 hg hm (pa_cons h.pe (pa_cons h2.pe (pa_cons h3.pe pa_nil hs3) hs2) hs) hs hpl) ?_⟩
  rintro σ H R ⟨F, ρ, QQ, E, q, k⟩
  refine ⟨F, ρ, _, E, q, fun d v F1 H1 q1 s1 r1 => ?_⟩
  refine ⟨F1, ρ, _, E.step s1, q1, fun d2 v2 F2 H2 q2 s2 r2 => ?_⟩
  refine ⟨F2, ρ, _, (E.step s1).step s2, q2, fun d3 v3 F' H' ⟨i, j, c, n, e1, e2, e3, hr, q'⟩ s3 r3 => ?_⟩
  subst e1 e2 e3
  cases r1; cases r2; cases r3
  exact ⟨i, j, c, n, rfl, hr, k _ _ F' H' q' ((s1.trans s2).trans s3) walk_rngC⟩
end
end DL

namespace DL
open PySem PySem.Spec PyProof.Rows L2
variable [Tb]
theorem _root_.L2H.RoomH.units {k : Nat} {A : Around} (r : L2H.RoomH k A) : A.units + 64 < cLine := by
  have := r.un
  omega
/-! ### exceptions of one's own classes -/
/-- the class that the name x stands for, at C -/
structure ExcT (K : PySem.W.Frag) (mg : Str → Option Value) (x : Str) (C : Addr) : Prop where
  g : mg x = some (.ref C)
  ex : PySem.W.excIn K C [.type "ValueError", .type "Exception", .type "BaseException", .type "object"] "ValueError.__new__" = true
  kp : PySem.W.keepIn K (.ref C) = true
  sb : PySem.W.subIn K (.ref C) (.type "BaseException") = some true
  ty : PySem.W.typeIn K (.ref C) = some (.type "type")
/-- a def's promise that may let an exception of the class at C out -/
def spX (K : PySem.W.Frag) (n : Nat) (C : Addr) (t : List D → (D → Prop) → Prop → Prop) : Sp := fun vs H Q E => ∃ F ds QQ EX, (Same F H ∧ (∀ b ps, F b ≠ some (.tbl ps)) ∧ LamX.Tabs Tb.T H) ∧ AtAll K F vs ds ∧ ds.length = n ∧ t ds QQ EX ∧
  (∀ d v F' H', QQ d → Stp F H F' H' → At K F' v d → Q v H') ∧ ∀ F' H', EX → Stp F H F' H' → E (.ref C) none H'
theorem spX_len {K : PySem.W.Frag} {n : Nat} {C : Addr} {t : List D → (D → Prop) → Prop → Prop} {vs : List V} {H : Hp} {Q : VK} {E : XK} (h : spX K n C t vs H Q E) : vs.length = n := by
  obtain ⟨F, ds, QQ, EX, _, r, hl, _⟩ := h
  rw [r.length, hl]
def HasX (P : Program) (w : World) (K : PySem.W.Frag) (mg : Str → Option Value) (base : Heap) (k : Nat) (x : Str) (n : Nat) (C : Addr) (t : List D → (D → Prop) → Prop → Prop) : Prop :=
  ∃ f fd ps, FnOk P w K mg base (L2N.CX P w) k f fd ps (spX K n C t) ∧ mg x = some (.ref f) ∧ PySem.W.keepIn K (.ref f) = true ∧ Binds K fd ps []
/-- if TEST: raise X("..") / the rest -/
def tGuard (K : PySem.W.Frag) (F0 H0 : Hp) (C : Addr) (E : XK) (tc : DT) (u : DS) : TS := fun G σ H => ∃ F ρ DD EX, EnvAt K F0 H0 F H σ ρ ∧ (tc ρ fun b => if b = true then EX else u DD ρ) ∧ Lnk K F0 H0 F G DD ∧ ∀ F' H', EX → Stp F0 H0 F' H' → E (.ref C) none H'
theorem pss_guard {X : Cx} {F0 H0 : Hp} {C : Addr} {E : XK} {x m : Str} {j : Nat} {p p2 p3 p4 p5 : Pos} {c : Expr} {rest : List Stmt} {tc : DT} {u : DS} (T : ExcT X.K X.mg x C) (hc : X.calm = true) (tk : L2N.Takes X (fun cls d _ H => E cls d H)) (ht : PTD X F0 H0 c tc) (hr : PSsD X F0 H0 rest u)
    (hg : Gl X x) (hdb : (x == ("__debug__" : Str)) = false := by decide) : PSs X (.If c [.Raise (some (.Call (.Name x p) [.Constant (.str m) j p2] [] p3)) none p4] [] p5 :: rest) (tGuard X.K F0 H0 C E tc u) := by
  refine pss_imp (pss_cons (ps_if ht.pt (pss_one (L2N.ps_raise hc tk (L2N.pmk_own PySem.F.excBase_ValueError T.ex T.g T.kp (raises_own T.sb T.ty) hg hdb))) pss_nil) hr.ps) ?_
  rintro G σ H ⟨F, ρ, DD, EX, V, q, L, k⟩
  refine ⟨F, ρ, _, V, q, fun b F1 H1 q1 s1 => ?_⟩
  cases b with
  | true => exact k F1 H1 q1 (V.st.trans s1)
  | false => exact ⟨F1, ρ, DD, V.step s1, q1, L.mono s1.ff⟩
section
variable {P : Program} {w : World} {K : PySem.W.Frag} {mg : Str → Option Value} {base : Heap}
/-- a def whose body is a guard that raises, and the rest -/
theorem Df.hasX {x y m : Str} {st : Stmt} {N ps : List Str} {k n j : Nat} {C : Addr} {p p2 p3 p4 p5 : Pos} {c : Expr} {rest : List Stmt} {tc : DT} {u : DS} {t : List D → (D → Prop) → Prop → Prop} (F : Df K mg x st ps) (S : FnScope N ps (defScope st)) (hn : ps.length = n) (T : ExcT K mg y C)
    (hs : defBody st = .If c [.Raise (some (.Call (.Name y p) [.Constant (.str m) j p2] [] p3)) none p4] [] p5 :: rest)
    (hb : ∀ (cdv : Value) (f : Addr) (A : Around) (outer : List Env) (s : Shared) (H : Hp) (E : XK) (F0 : Hp), Room k (A.deeper (envOfC x (defScope st) s.heap.objs.size f cdv)) →
      PTD (cxOf (L2N.CX P w) P w K mg base N x (defScope st) f cdv A outer s H E) F0 H c tc ∧ PSsD (cxOf (L2N.CX P w) P w K mg base N x (defScope st) f cdv A outer s H E) F0 H rest u ∧ Gl (cxOf (L2N.CX P w) P w K mg base N x (defScope st) f cdv A outer s H E) y)
    (hv : ∀ ds Q EX, ds.length = n → t ds Q EX → tc (startD N ds) fun b => if b = true then EX else u ⟨fun _ => Q .non, Q, fun _ => False, fun _ => False⟩ (startD N ds)) (hdb : (y == ("__debug__" : Str)) = false := by decide) : HasX P w K mg base (k + 1) x n C t := by
  obtain ⟨f, fd, F, hm, hb'⟩ := F
  have kp := F.kp
  obtain ⟨oc, od, kV, doc, pm, an, cdv, ct, osl, rfl, lk, hcd⟩ := F.ex
  refine ⟨f, _, ps, fn_of lk hcd S (fun vs H Q E h => by rw [spX_len h, hn]) (fun A outer s H vs Q E hr h => ?_), hm, kp, hb'⟩
  obtain ⟨F0, ds, QQ, EX, fs, r, hl, ht, kq, ke⟩ := h
  obtain ⟨h1, h2, h3⟩ := hb cdv f A outer s H E F0 hr
  have G := pss_guard (X := cxOf (L2N.CX P w) P w K mg base N x (defScope st) f cdv A outer s H E) (E := E) T rfl (L2N.takes_of rfl rfl rfl rfl) (m := m) (j := j) (p := p) (p2 := p2) (p3 := p3) (p4 := p4) (p5 := p5) h1 h2 h3 hdb
  rw [← hs] at G
  refine ⟨_, G, F0, _, _, EX, EnvAt.start fs r, hv ds QQ EX hl ht, ⟨fun ρ σ F' H' q _ E' => ?_, fun ρ σ F' H' q _ E' => q.elim, fun ρ σ F' H' q _ E' => q.elim, fun d v F' H' q _ s' r' => kq d v F' H' q s' r'⟩, ke⟩
  exact kq .non .non F' H' q E'.st .non
end

/-! ### expressions that may raise -/
def PXD (X : Cx) (F0 H0 : Hp) (C : Addr) (e : Expr) (t : Rho → (D → Prop) → Prop → Prop) : Prop := ∀ W : WX, L2N.Takes X W →
  PE X e fun σ H Q => ∃ F ρ QQ EX, EnvAt X.K F0 H0 F H σ ρ ∧ t ρ QQ EX ∧ (∀ d v F' H', QQ d → Stp F H F' H' → At X.K F' v d → Q v H') ∧ ∀ F' H', EX → Stp F H F' H' → W (.ref C) none σ H'
section
variable {X : Cx} {F0 H0 : Hp} {C : Addr} {a b c e : Expr} {pos : Pos}
def xCall (t : List D → (D → Prop) → Prop → Prop) (n : Nat) (ta : DA) : Rho → (D → Prop) → Prop → Prop := fun ρ Q EX => ta ρ fun ds => ds.length = n ∧ t ds Q EX
theorem pxd_call {k n : Nat} {x : Str} {p : Pos} {es : List Expr} {t : List D → (D → Prop) → Prop → Prop} {ta : DA} (G : HasX X.prog X.w X.K X.mg X.base k x n C t) (hr : Room k X.A) (ha : PAD X F0 H0 (a :: es) ta) (hg : Gl X x := by rfl) (hn : (a :: es).length = n := by rfl) (hdb : (x == ("__debug__" : Str)) = false := by decide)
    (he : starEach (a :: es) X.env = (false, eval a X.env) :: starEach es X.env := by rfl) (hpl : (backTo pos (starEach es X.env)).any (·.1) = false := by rfl) : PXD X F0 H0 C (.Call (.Name x p) (a :: es) [] pos) (xCall t n ta) := by
  obtain ⟨f, fd, ps, G, hm, hk, hb⟩ := G
  intro W tk
  refine pe_imp (pe_callS G hr hg hm hk hb (fun σ => L2N.passAt tk σ) ha.pa hdb he hpl) ?_
  rintro σ H Q ⟨F, ρ, QQ, EX, E, q, kq, ke⟩
  refine ⟨F, ρ, _, E, q, fun ds vs F1 H1 ⟨hl, q1⟩ s1 r1 => ?_⟩
  have E1 := E.step s1
  exact ⟨F1, ds, QQ, EX, ⟨E1.fs, E1.nt, E1.tb⟩, r1, hl, q1, fun d v F' H' q' s' r' => kq d v F' H' q' (s1.trans s') r', fun F' H' q' s' => ke F' H' q' (s1.trans s')⟩
def xIf (tc : DT) (t u : Rho → (D → Prop) → Prop → Prop) : Rho → (D → Prop) → Prop → Prop := fun ρ Q EX => tc ρ fun b => if b = true then t ρ Q EX else u ρ Q EX
theorem pxd_if {tc : DT} {t u : Rho → (D → Prop) → Prop → Prop} (hc : PTD X F0 H0 c tc) (ha : PXD X F0 H0 C a t) (hb : PXD X F0 H0 C b u) : PXD X F0 H0 C (.IfExp c a b pos) (xIf tc t u) := by
  intro W tk
  refine pe_imp (pe_ifExp hc.pt (ha W tk) (hb W tk)) ?_
  rintro σ H Q ⟨F, ρ, QQ, EX, E, q, kq, ke⟩
  refine ⟨F, ρ, _, E, q, fun b F1 H1 q1 s1 => ?_⟩
  cases b with
  | true => exact ⟨F1, ρ, QQ, EX, E.step s1, q1, fun d v F' H' q' s' r' => kq d v F' H' q' (s1.trans s') r', fun F' H' q' s' => ke F' H' q' (s1.trans s')⟩
  | false => exact ⟨F1, ρ, QQ, EX, E.step s1, q1, fun d v F' H' q' s' r' => kq d v F' H' q' (s1.trans s') r', fun F' H' q' s' => ke F' H' q' (s1.trans s')⟩
end

/-! ### a def that is handed the exception that is handled, and says a word of it -/
section
variable {P : Program} {w : World} {K : PySem.W.Frag} {mg : Str → Option Value} {base : Heap}
/-- called in a suite with the exception, of the class at C, it says the word -/
def HasW (P : Program) (w : World) (K : PySem.W.Frag) (mg : Str → Option Value) (base : Heap) (k : Nat) (x : Str) (C : Addr) (word : Str) : Prop :=
  ∃ f fd y, (∀ (A : Around) (outer : List Env) (s : Shared) (H F : Hp) (Q : VK) (p : Addr × Obj), L2H.RoomH k A → L2H.Hot1 A p → L2H.PinOk outer H s p → Env0 P w K mg base A outer s H → Zc (.ref C) none p.2 → (Same F H ∧ (∀ b ps, F b ≠ some (.tbl ps)) ∧ LamX.Tabs Tb.T H) →
      (∀ F' H', Stp F H F' H' → Q (.str word) H') → codeAny (model P w) A (.call (.ref f) ⟨[.ref p.1], []⟩) (CR CX0 outer P w H s Q E0) s) ∧ mg x = some (.ref f) ∧ PySem.W.keepIn K (.ref f) = true ∧ Binds K fd [y] []
theorem Df.hasW {x y word : Str} {st : Stmt} {N : List Str} {k : Nat} {C : Addr} {T : Addr × Obj → DS} (F : Df K mg x st [y]) (S : FnScope N [y] (defScope st))
    (hb : ∀ (cdv : Value) (f : Addr) (A : Around) (outer : List Env) (s : Shared) (H : Hp) (p : Addr × Obj) (F0 : Hp), L2H.RoomH k (A.deeper (envOfC x (defScope st) s.heap.objs.size f cdv)) → Zc (.ref C) none p.2 → (∃ vs, p.2.data = .fields vs) →
      PSsD (L2H.cxH CX0 P w K mg base N x (defScope st) f cdv A outer s H E0 p) F0 H (defBody st) (T p))
    (hv : ∀ (p : Addr × Obj) (Q : D → Prop), Q (.str word) → T p ⟨fun _ => Q .non, Q, fun _ => False, fun _ => False⟩ (startD N [.exc p.1])) : HasW P w K mg base (k + 1) x C word := by
  obtain ⟨f, fd, F, hm, hb'⟩ := F
  have kp := F.kp
  obtain ⟨oc, od, kV, doc, pm, an, cdv, ct, osl, rfl, lk, hcd⟩ := F.ex
  refine ⟨f, _, y, fun A outer s H F1 Q p hr hot hpin e0 hz fs kq => ?_, hm, kp, hb'⟩
  have KX : K.In s.heap := e0.mod.kin.keeps fun b o e => (e0.bs b o e).1
  have lim : s.heap.NoLimit := e0.mod.nolimit.keeps fun b o e => (e0.bs b o e).1
  have bn := hb' s [.ref p.1] KX rfl
  rw [List.append_nil] at bn
  have hkind : ∀ z ∈ [y].zip [Value.ref p.1], (defScope st).names.lookup z.1 = some .local ∨ ((defScope st).names.lookup z.1 = some .cell ∧ ((cellsFrom (s.heap.objs.size + 1) (defScope st).names []).lookup z.1).isSome = true) := fun ⟨n, v⟩ hy =>
    (S.par n (List.of_mem_zip hy).1).elim .inl fun q => .inr ⟨q, PySem.W.cellsFrom_some _ _ _ (.inl q)⟩
  refine codeAny_call_function hr.depth (KX _ _ lk) rfl S.co S.gen rfl (PySem.W.codeRec_of KX hcd) (bn _ _ _ _ (wpAny_newFunctionEnv_cells S.kind hkind fun env he s1 x1 => ?_))
  subst he
  refine ⟨lim.keeps x1.toInCall.keep, codeAny_func ?_⟩
  have hfl : ∃ vs, p.2.data = .fields vs := by
    obtain ⟨_, vs, e, _⟩ := hot
    exact ⟨vs, e⟩
  have I := L2H.inv_startH (CX := CX0) (E := E0) (vs := [.ref p.1]) S hpin e0 rfl (.cons rfl .nil) x1
  have G := (hb cdv f A outer s H p F1 (hr.deeper _) hz hfl).ps
  refine wpAny_mono (G.run [] s1 _ H { nx := fun _ H' => Q .non H', rt := Q } I ⟨F1, _, _, EnvAt.start fs (.cons (.exc p.1) .nil), hv p (fun d => d = .str word) rfl, ⟨fun ρ σ F' H' q _ E' => ?_, fun ρ σ F' H' q _ E' => q.elim, fun ρ σ F' H' q _ E' => q.elim, fun d v F' H' q _ s' r' => ?_⟩⟩) (fun fl s' hs => ?_) fun e s' hs => hs
  · cases q
  · subst q
    cases r'
    exact kq F' H' s'
  · have fin : ∀ {σ' : L2.St} {H' : Hp} {v : V} {u : Value}, Inv (L2H.cxH CX0 P w K mg base N x (defScope st) f cdv A outer s H E0 p) [] σ' H' s' → RelV v u → Q v H' → CE outer P w H s Q u s' :=
      fun J rv q => ⟨_, _, J.os, J.bare, J.base, J.hok, rv, q⟩
    cases fl with
    | ret u =>
      obtain ⟨v, σ', H', J, rv, q⟩ := hs
      exact fin J rv q
    | next =>
      obtain ⟨σ', H', J, q⟩ := hs
      exact fin (v := V.non) (u := Value.none) J rfl q
    | brk => exact hs.elim fun _ h => h.elim fun _ h => h.2.elim
    | cont => exact hs.elim fun _ h => h.elim fun _ h => h.2.elim
end
section
variable {X : Cx} {F0 H0 : Hp} {C : Addr} {a b c e o : Expr} {pos : Pos}
/-- isinstance(e, c), e the pinned exception -/
theorem call_isP {p : Addr × Obj} (hp : p ∈ X.pn) (EC : ExcC X.K C) (hz : Zc (.ref C) none p.2) (hf : ∃ vs, p.2.data = .fields vs) : CallR X (.builtin "isinstance") (rIsE X.K C p.1) := by
  rintro pins s σ H xs us Q I r ⟨c, cv, b, rfl, hcv, e, q⟩
  cases r with
  | cons rx rr =>
    cases rr with
    | cons rt rr =>
      cases rr
      cases rx
      obtain rfl := hcv _ rt
      have hget := (I.pin p (List.mem_append_left _ hp)).1
      obtain ⟨vs, hv⟩ := hf
      obtain ⟨pa, oc, od, oda, osl⟩ := p
      obtain ⟨h1, h2⟩ := hz
      dsimp only at h1 h2 hv hget
      subst h1 h2 hv
      have J : PySem.W.InstAt s.heap pa ⟨.ref C, none, .fields vs, osl⟩ C none := ⟨hget, rfl, rfl, trivial⟩
      exact PySem.W.kia_one (PySem.W.handS_kitx_exc EC.hg EC.hk EC.hs EC.hd EC.ha EC.hn EC.ht EC.hm) I.kIn J e (fun z => nomatch z) fun tk => ⟨.bl b, H, I.kept (t' := tk) fun _ _ z => z, rfl, q⟩
def dIsE (a : Addr) (b : Bool) (t : DE) : DE := fun ρ Q => t ρ fun d => d = .exc a ∧ Q (.bl b)
theorem pd_isE {p : Addr × Obj} {t : DE} {k : Bool} {cV : V} {cv : Value} {q : Pos} (hp : p ∈ X.pn) (EC : ExcC X.K C) (hz : Zc (.ref C) none p.2) (hf : ∃ vs, p.2.data = .fields vs) (hg : Gl X "isinstance") (hm : X.mg "isinstance" = none) (ho : PD X F0 H0 o t) (hc : PE X c (tC cV)) (hcv : ∀ u, RelV cV u → u = cv) (hk : PySem.W.kitOne X.K (.ref C) cv = some k)
    (he : starEach [o, c] X.env = (false, eval o X.env) :: starEach [c] X.env := by rfl) (he2 : starEach [c] X.env = (false, eval c X.env) :: starEach [] X.env := by rfl) (hpl : (backTo pos (starEach [c] X.env)).any (·.1) = false := by rfl) :
    PD X F0 H0 (.Call (.Name "isinstance" q) [o, c] [] pos) (dIsE p.1 k t) := by
  refine ⟨pe_imp (pe_callB (call_isP hp EC hz hf) hg hm (by decide +kernel) (pa_cons ho.pe (pa_cons hc pa_nil he2) he) (by decide) (by decide) he hpl) ?_⟩
  rintro σ H Q ⟨F, ρ, QQ, E, q, kk⟩
  refine ⟨F, ρ, _, E, q, fun d v F1 H1 ⟨e1, q1⟩ s1 r1 => ?_⟩
  subst e1
  cases r1
  exact ⟨_, cv, k, rfl, hcv, hk, kk _ _ F1 H1 q1 s1 (.bl k)⟩
/-- the class's word on another one -/
def IsCl (K : PySem.W.Frag) (mg : Str → Option Value) (C : Addr) (x : Str) (b : Bool) : Prop := ∃ A, mg x = some (.ref A) ∧ PySem.W.kitOne K (.ref C) (.ref A) = some b
theorem pd_isC {p : Addr × Obj} {t : DE} {k : Bool} {x : Str} {A : Addr} {q q2 : Pos} (hp : p ∈ X.pn) (EC : ExcC X.K C) (hz : Zc (.ref C) none p.2) (hf : ∃ vs, p.2.data = .fields vs) (hg : Gl X "isinstance") (hm : X.mg "isinstance" = none) (ho : PD X F0 H0 o t) (hgx : Gl X x) (hmx : X.mg x = some (.ref A)) (hk : PySem.W.kitOne X.K (.ref C) (.ref A) = some k) (hdb : (x == ("__debug__" : Str)) = false := by decide)
    (he : starEach [o, .Name x q2] X.env = (false, eval o X.env) :: starEach [.Name x q2] X.env := by rfl) (he2 : starEach [.Name x q2] X.env = (false, eval (.Name x q2) X.env) :: starEach [] X.env := by rfl) (hpl : (backTo pos (starEach [.Name x q2] X.env)).any (·.1) = false := by rfl) :
    PD X F0 H0 (.Call (.Name "isinstance" q) [o, .Name x q2] [] pos) (dIsE p.1 k t) :=
  pd_isE hp EC hz hf hg hm ho (pe_glob (v := .ref A) hgx hmx rfl hdb) (fun u r => r) hk he he2 hpl
theorem pd_isT {p : Addr × Obj} {t : DE} {k : Bool} {x : Str} {T : String} {q q2 : Pos} (hp : p ∈ X.pn) (EC : ExcC X.K C) (hz : Zc (.ref C) none p.2) (hf : ∃ vs, p.2.data = .fields vs) (hg : Gl X "isinstance") (hm : X.mg "isinstance" = none) (ho : PD X F0 H0 o t) (hgx : Gl X x) (hmx : X.mg x = none) (hv : bootBuiltins x = some (.type T)) (hk : PySem.W.kitOne X.K (.ref C) (.type T) = some k) (hn : x ≠ "__name__" := by decide) (hdb : (x == ("__debug__" : Str)) = false := by decide)
    (he : starEach [o, .Name x q2] X.env = (false, eval o X.env) :: starEach [.Name x q2] X.env := by rfl) (he2 : starEach [.Name x q2] X.env = (false, eval (.Name x q2) X.env) :: starEach [] X.env := by rfl) (hpl : (backTo pos (starEach [.Name x q2] X.env)).any (·.1) = false := by rfl) :
    PD X F0 H0 (.Call (.Name "isinstance" q) [o, .Name x q2] [] pos) (dIsE p.1 k t) :=
  pd_isE hp EC hz hf hg hm ho (pe_bltn (v := .ty T) hgx hmx hv rfl hn hdb) (fun u r => r) hk he he2 hpl
/-! ### xs.count(b), xs.index(b) of a list of truth values -/
def eqB (b : Bool) : Value → Bool
  | .bool c => c == b
  | _ => false
theorem eqB_count {b : Bool} : ∀ {us : List Value} {bs : List Bool}, Vals (bs.map V.bl) us → us.countP (eqB b) = bs.count b
  | _, [], .nil => rfl
  | _, c :: bs, .cons r h => by
    cases r
    rw [List.countP_cons, List.count_cons, eqB_count h]
    rfl
def dCount (tl : DA) (te : DE) : DE := fun ρ Q => tl ρ fun l => te ρ fun x => ∃ (bs : List Bool) (b : Bool), l = bs.map D.bl ∧ x = .bl b ∧ Q (.int (bs.count b : Nat))
def rCntB (K : PySem.W.Frag) : V → List V → Hp → VK → Prop := fun x xs H Q => ∃ (p : Addr) (bs : List Bool) (b : Bool), x = .ref p ∧ xs = [.bl b] ∧ SqL K H p (bs.map V.bl) ∧ Q (.int (bs.count b : Nat)) H
theorem mt_countB : MtR X "list.count" (rCntB X.K) := by
  rintro pins s σ H x xs v us Q I rx rxs ⟨p, bs, b, rfl, rfl, hs, q⟩
  cases rx
  obtain ⟨u, rfl, ru⟩ := rxs.one
  cases ru
  obtain ⟨its, rv, ⟨⟨cls, dd, data, sl⟩, n, ho, hc, hdn, hd⟩, hlen⟩ := I.list hs
  simp only at hc hd
  subst hc hd
  refine call_meets PySem.F.slot_list_count ⟨_, ho, rfl⟩ PySem.F.entry_list_count (PySem.F.args_list_count_2 _ _)
    (SeqAt.list_countAt p its.toArray n dd sl (.bool b) (eqB b)) ⟨ho, fun y hy => ?_, ?_⟩
  · obtain ⟨i, hi⟩ := List.getElem?_of_mem (show y ∈ its by simpa using hy)
    have hl : i < bs.length := by
      have := (List.getElem?_eq_some_iff.mp hi).1
      rw [← rv.length, List.length_map] at this
      exact this
    obtain ⟨u, hu, ru⟩ := rv.get (i := i) (x := V.bl bs[i]) (by rw [List.getElem?_map, List.getElem?_eq_getElem hl]; rfl)
    rw [hi] at hu
    cases hu
    cases ru
    exact eqAt_V (y := .bl bs[i]) (x := .bl b) rfl rfl rfl rfl
  · have ec : its.toArray.toList.countP (eqB b) = bs.count b := eqB_count rv
    refine ⟨.int (bs.count b : Nat), H, I.tok _, ⟨s.toks, ?_⟩, q⟩
    show Value.int ((its.toArray.toList.countP (eqB b) : Nat) : Int) s.toks = Value.int ((bs.count b : Nat) : Int) s.toks
    rw [ec]
theorem pd_count {tl : DA} {te : DE} {apos cpos : Pos} (ho : PL X F0 H0 o tl) (h : PD X F0 H0 e te)
    (hbase : attributeBase o "count" X.env (eval o X.env) = eval o X.env := by rfl)
    (hfew : ((backTo cpos (starEach [e] X.env)).all (fun x => !x.1) && (backToKw cpos (keywordEach [] X.env)).all (fun x => x.1.isSome) && decide ([e].length + ([] : List Keyword).length + (if ([] : List Keyword).isEmpty then 0 else 1) < 30)) = true := by rfl)
    (hline : (apos.endLine == cpos.line) = true := by rfl) (he : starEach [e] X.env = (false, eval e X.env) :: starEach [] X.env := by rfl) : PD X F0 H0 (.Call (.Attribute o "count" apos) [e] [] cpos) (dCount tl te) := by
  refine ⟨pe_imp (pe_bm PySem.F.plainAttrs_list PySem.F.slot_list_count PySem.F.type_list_count mt_countB ho.pe (pa_cons h.pe pa_nil he) hbase hfew hline he rfl) ?_⟩
  rintro σ H Q ⟨F, ρ, QQ, E, q, kk⟩
  refine ⟨F, ρ, _, E, q, fun l v F1 H1 q1 s1 ⟨p, xs, ev, h1, h2⟩ => ?_⟩
  subst ev
  refine ⟨.inl ⟨rfl, _, SqL.of h1⟩, F1, ρ, _, E.step s1, q1, fun x w F2 H2 ⟨bs, b, el, ex, q2⟩ s2 r2 => ?_⟩
  subst el ex
  cases r2
  obtain rfl := h2.bls
  exact ⟨p, bs, b, rfl, rfl, SqL.of (s2.hh.lst h1), kk _ _ F2 H2 q2 (s1.trans s2) (.int _)⟩
def dIndexB (tl : DA) (te : DE) : DE := fun ρ Q => tl ρ fun l => te ρ fun x => ∃ (bs : List Bool) (b : Bool) (j : Nat), l = bs.map D.bl ∧ x = .bl b ∧ bs[j]? = some b ∧ (∀ m, m < j → bs[m]? ≠ some b) ∧ Q (.int (j : Nat))
theorem pd_indexB {tl : DA} {te : DE} {apos cpos : Pos} (ho : PL X F0 H0 o tl) (h : PD X F0 H0 e te)
    (hbase : attributeBase o "index" X.env (eval o X.env) = eval o X.env := by rfl)
    (hfew : ((backTo cpos (starEach [e] X.env)).all (fun x => !x.1) && (backToKw cpos (keywordEach [] X.env)).all (fun x => x.1.isSome) && decide ([e].length + ([] : List Keyword).length + (if ([] : List Keyword).isEmpty then 0 else 1) < 30)) = true := by rfl)
    (hline : (apos.endLine == cpos.line) = true := by rfl) (he : starEach [e] X.env = (false, eval e X.env) :: starEach [] X.env := by rfl) : PD X F0 H0 (.Call (.Attribute o "index" apos) [e] [] cpos) (dIndexB tl te) := by
  refine ⟨pe_imp (pe_bm PySem.F.plainAttrs_list PySem.F.slot_list_index PySem.F.type_list_index mt_index ho.pe (pa_cons h.pe pa_nil he) hbase hfew hline he rfl) ?_⟩
  rintro σ H Q ⟨F, ρ, QQ, E, q, kk⟩
  refine ⟨F, ρ, _, E, q, fun l v F1 H1 q1 s1 ⟨p, xs, ev, h1, h2⟩ => ?_⟩
  subst ev
  refine ⟨.inl ⟨rfl, _, SqL.of h1⟩, F1, ρ, _, E.step s1, q1, fun x w F2 H2 ⟨bs, b, j, el, ex, hj, hno, q2⟩ s2 r2 => ?_⟩
  subst el ex
  cases r2
  obtain rfl := h2.bls
  refine ⟨p, _, .bl b, j, .bl b, rfl, rfl, SqL.of (s2.hh.lst h1), rfl, ?_, by rw [List.getElem?_map, hj]; rfl, by simp [eqV], fun m z hm hz => ?_, kk _ _ F2 H2 q2 (s1.trans s2) (.int _)⟩
  · rw [List.all_eq_true]
    intro z hz
    obtain ⟨c, _, rfl⟩ := List.mem_map.mp hz
    rfl
  · rw [List.getElem?_map] at hz
    cases hb : bs[m]? with
    | none => rw [hb] at hz; cases hz
    | some c =>
      rw [hb] at hz
      cases hz
      have n := hno m hm
      rw [hb] at n
      show (c == b) = false
      rw [beq_eq_false_iff_ne]
      exact fun z => n (by rw [z])
/-! ### try: return EXPR / except X as n: return WORD(n) -/
def dTry (i : Nat) (t : Rho → (D → Prop) → Prop → Prop) (word : Str) : DS := fun DD ρ => i < ρ.length ∧ t ρ DD.rt (DD.rt (.str word))
theorem psd_try {k i : Nat} {x y n word : Str} {CE : Addr} {t : Rho → (D → Prop) → Prop → Prop} {q1 q2 q3 q4 q5 q6 q7 q8 : Pos} (hs : X.stack = X.env :: X.outer) (hf : X.env.frame = some X.env.locals) (hN : X.N.Nodup) (hi : X.N[i]? = some n) (hln : X.env.kindOf n = some .local)
    (hg : Gl X x) (hm : X.mg x = some (.ref CE)) (hex : PySem.W.exmOne X.K (.ref C) (.ref CE) = some true) (hb : ∀ (pn : List (Addr × Obj)) (xe : Value → Shared → Prop), PXD (X.tr pn xe) F0 H0 C e t) (W : HasW X.prog X.w X.K X.mg X.base k y C word) (hr : Room k X.A) (hgy : Gl X y)
    (hdx : (x == ("__debug__" : Str)) = false := by decide) (hdy : (y == ("__debug__" : Str)) = false := by decide) (hdn : (n == ("__debug__" : Str)) = false := by decide) (hdc : (n == ("__classdict__" : Str)) = false := by decide)
    (hes : ∀ (en : Env), starEach [.Name n q5] en = [(false, eval (.Name n q5) en)] := by intro _; rfl) :
    PSD X F0 H0 (.Try [.Return (some e) q1] [.ExceptHandler (some (.Name x q2)) (some n) [.Return (some (.Call (.Name y q4) [.Name n q5] [] q6)) q7] q3] [] [] q8) (dTry i t word) := by
  obtain ⟨f, fd, z, run, hmf, hkf, hbf⟩ := W
  refine ⟨ps_imp (L2N.ps_try_as (i := i) (c := .ref CE) (Wout := fun _ _ _ _ => False) (tb := fun W => tRet fun σ H Q => ∃ F ρ QQ EX, EnvAt X.K F0 H0 F H σ ρ ∧ t ρ QQ EX ∧ (∀ d v F' H', QQ d → Stp F H F' H' → At X.K F' v d → Q v H') ∧ ∀ F' H', EX → Stp F H F' H' → W (.ref C) none σ H')
      (ts := fun a cls d D σ H => cls = .ref C ∧ d = none ∧ σ[i]? = some (some (.ref a)) ∧ ∃ F, (Same F H ∧ (∀ b ps, F b ≠ some (.tbl ps)) ∧ LamX.Tabs Tb.T H) ∧ ∀ F' H', Stp F H F' H' → D.rt (.str word) H')
      hs hf hN hi hln ⟨hg, hdx, .inl hm⟩ (fun u s' xx => ?_) (fun W pn xe tk _ => pss_one (ps_ret (hb pn xe W tk))) (fun a oe cls d pn hz hd => pss_one ?_)) ?_⟩
  · obtain ⟨_, _, _, _, _, _, _, _, _, _, _, _, _, _, _, _, z⟩ := xx
    exact z.elim
  · -- the suite: the word of what was caught
    refine ps_imp (ps_ret (te := fun σ H Q => cls = .ref C ∧ d = none ∧ σ[i]? = some (some (.ref a)) ∧ ∃ F, (Same F H ∧ (∀ b ps, F b ≠ some (.tbl ps)) ∧ LamX.Tabs Tb.T H) ∧ ∀ F' H', Stp F H F' H' → Q (.str word) H') ⟨fun pins s σ H Q I h => ?_⟩) fun D σ H h => h
    obtain ⟨rfl, rfl, hsl, F, fs, kq⟩ := h
    refine wpAny_Call_Name_kw (ld_glob I hgy hmf ?_ hdy)
    have hpn := I.pin (a, oe) (List.mem_append_left _ List.mem_cons_self)
    have ha : PA (X.suite a ((a, oe) :: pn)) [.Name n q5] (tCons (tVar i) tNil) := pa_cons (pe_var (i := i) hi (.inl hln) hdn hdc) pa_nil (hes _)
    refine PySem.W.callWith_K (h₀ := X.base) I.ok.mod.kin hkf (thn (ha.run q6 pins s σ H (fun vs H1 => vs = [V.ref a] ∧ H1 = H) I ⟨.ref a, hsl, rfl, rfl⟩) fun us s1 hh => ?_) (hes _) rfl
    obtain ⟨vs, H1, I1, r1, ev, eH⟩ := hh
    subst ev eH
    refine ⟨I1.kIn, ?_⟩
    obtain rfl := Vals.ref1 r1
    have P1 := I1.pin (a, oe) (List.mem_append_left _ List.mem_cons_self)
    have hfld := hd
    obtain ⟨vs0, hvs0⟩ := hd
    have hpin : L2H.PinOk (X.suite a ((a, oe) :: pn)).stack H1 s1 (a, oe) := ⟨P1.1, P1.2.1, fun hm => (List.mem_cons.mp (I1.stkSub a hm)).elim P1.2.2.1 P1.2.2.2.1, P1.2.2.2.2⟩
    refine wpAny_call (codeAny_mono (run _ _ s1 H1 F Q (a, oe) ⟨hr.dp, hr.un⟩ ⟨rfl, vs0, hvs0, hz.2.2 vs0 hvs0⟩ hpin I1.env0 hz.zc fs kq) fun r s' hq => ?_)
    cases r with
    | error e => exact (show False from hq).elim
    | ok fl =>
      cases fl with
      | ret u => exact I1.after hq
      | next => exact False.elim hq
      | brk => exact False.elim hq
      | cont => exact False.elim hq
  · rintro G σ H ⟨F, ρ, DD, E, ⟨hlen, q⟩, L⟩
    refine ⟨F, ρ, _, _, E, q, fun d v F' H' q' s' r' => L.rt d v F' H' q' s'.ff (E.st.trans s') r', fun F' H' q' s' => ⟨true, hex, fun _ a ha => ?_, fun z => nomatch z⟩⟩
    have E1 := E.step s'
    refine ⟨rfl, rfl, ?_, F', ⟨E1.fs, E1.nt, E1.tb⟩, fun F2 H2 s2 => L.rt _ _ F2 H2 q' (s'.ff.trans s2.ff) (E.st.trans (s'.trans s2)) (.str word)⟩
    exact List.getElem?_set_self (by rw [E.len]; exact hlen)
end
end DL

namespace DL
open PySem PySem.Spec PyProof.Rows L2
variable [Tb]
/-! ### t[::-1] of a tuple -/
theorem places_back (n : Nat) : Builtin.Slice.slicePlaces ((n : Int) - 1) (-1) (-1) = n := by
  unfold Builtin.Slice.slicePlaces
  rw [if_neg (by decide), Int.neg_neg, Int.ediv_one]
  split <;> omega
theorem pick_back (xs : Array Value) : ((List.range xs.size).filterMap fun (k : Nat) => xs[((xs.size : Int) - 1 + (k : Int) * (-1)).toNat]?).toArray = xs.toList.reverse.toArray := by
  congr 1
  apply List.ext_getElem?
  intro i
  have key : ∀ n, n ≤ xs.size → (List.range n).filterMap (fun (k : Nat) => xs[((xs.size : Int) - 1 + (k : Int) * (-1)).toNat]?) = (xs.toList.reverse).take n := by
    intro n hn
    induction n with
    | zero => rfl
    | succ n ih =>
      rw [List.range_succ, List.filterMap_append, ih (by omega), List.take_add_one]
      congr 1
      have e : ((xs.size : Int) - 1 + (n : Int) * (-1)).toNat = xs.size - 1 - n := by omega
      have h1 : xs[xs.size - 1 - n]? = xs.toList.reverse[n]? := by
        rw [List.getElem?_reverse (by rw [Array.length_toList]; omega), Array.length_toList, Array.getElem?_toList]
      rw [List.filterMap_cons, e, h1]
      cases xs.toList.reverse[n]? <;> rfl
  rw [key _ (Nat.le_refl _), List.take_of_length_le (by simp)]
section
variable {prog : Program} {w : World} {A : Around} {E : Value → Shared → Prop} {s : Shared}
theorem tuple_back {t sl : Addr} {items : Array Value} {k : Tok} {Q : Value → Shared → Prop} (ht : IsTup s.heap t items) (hs : s.heap.IsSliceOf sl .none .none (.int (-1) k))
    (h : Q (.ref s.heap.objs.size) { s with heap := s.heap.push { cls := .type "tuple", data := .seq items.toList.reverse.toArray } }) (hsz : items.size ≤ sizeLine) : wpAny (model prog w) A (getItem (.ref t) (.ref sl)) Q E s := by
  have hz : sizeOk (.seq items.toList.reverse.toArray) := by
    show items.toList.reverse.toArray.size ≤ sizeLine
    simpa using hsz
  obtain ⟨os, hos, hcs, hds⟩ := id hs
  have hTs : s.TypeIs (.ref sl) "slice" := ⟨os, hos, hcs⟩
  unfold getItem
  try with_reducible refine wpAny_holding ?_
  first | refine wpAny_bind (wpAny_pure ?_) | skip
  refine wpAny_bind (wpAny_sequenceKey ht.typeIs (by decide) (wpAny_bind (wpAny_callSpecial?_slot (name := Str.ofString "__getitem__") ht.typeIs PyProof.Rows.slot_tuple_getitem
    (wpAny_call_entry PyProof.Rows.slot_tuple_getitem ht.typeIs entry_tuple_getitem ?_ (args_tuple_getitem _ _)))))
  show wpAny _ _ (Builtin.Tuple.tupleItemsOf (.ref t) >>= _) _ _ s
  refine wpAny_bind (tupleItemsOf_ ht (wpAny_bind (wpAny_typeOf hTs ?_)))
  rw [if_pos (by decide)]
  refine wpAny_bind ?_
  unfold Builtin.Slice.sliceApplied Builtin.Slice.sliceFields
  refine wpAny_bind (wpAny_bind (wpAny_field hos hds (x := .none) rfl (wpAny_bind (wpAny_field hos hds (x := .none) rfl (wpAny_bind (wpAny_field hos hds (x := .int (-1) k) rfl (wpAny_pure ?_)))))))
  refine wpAny_bind (slicePart_int ?_)
  show wpAny _ _ (if ((-1 : Int) == 0) = true then _ else _) _ _ s
  rw [if_neg (by decide)]
  refine wpAny_bind (slicePart_none (wpAny_bind (slicePart_none (wpAny_bind (wpAny_pure ?_)))))
  show wpAny _ _ (pure ((items.size : Int) - 1, (-1 : Int), Builtin.Slice.slicePlaces ((items.size : Int) - 1) (-1) (-1))) _ _ s
  rw [places_back]
  refine wpAny_pure ?_
  show wpAny _ _ (if (((items.size : Int) - 1) == 0 && ((-1 : Int) == 1) && (items.size == items.size)) = true then _ else _) _ _ s
  rw [if_neg (by rw [show ((-1 : Int) == 1) = false from rfl, Bool.and_false]; exact Bool.false_ne_true), pick_back]
  first
    | exact wpAny_bind (m := Builtin.Tuple.tupleExact _) (wpAny_newObj_type (wpAny_pure ⟨_, rfl, wpAny_pure h⟩) hz)
    | exact wpAny_bind (m := Builtin.Tuple.tupleExact _) (wpAny_newObj_type (wpAny_bind (wpAny_pure (wpAny_pure ⟨_, rfl, wpAny_pure h⟩))) hz)
    | exact wpAny_bind (wpAny_bind (m := Builtin.Tuple.tupleExact _) (wpAny_newObj_type (wpAny_pure (wpAny_pure ⟨_, rfl, wpAny_pure h⟩)) hz))
    | exact wpAny_bind (wpAny_bind (m := Builtin.Tuple.tupleExact _) (wpAny_newObj_type (wpAny_pure ⟨_, rfl, wpAny_pure h⟩) hz))
end
theorem AtAll.reverse {K : PySem.W.Frag} {F : Hp} : ∀ {vs : List V} {ds : List D}, AtAll K F vs ds → AtAll K F vs.reverse ds.reverse
  | _, _, .nil => .nil
  | _, _, .cons q r => by
    rw [List.reverse_cons, List.reverse_cons]
    exact (AtAll.reverse r).append (.cons q .nil)
def dRevT (t : DE) : DE := fun ρ Q => t ρ fun x => ∃ l, x = .tup l ∧ Q (.tup l.reverse)
section
variable {X : Cx} {F0 H0 : Hp} {a b e o : Expr} {pos : Pos}
theorem pd_revT {t : DE} {k} {p1 p2 p3 : Pos} (h : PD X F0 H0 e t) : PD X F0 H0 (.Subscript e (.Slice none none (some (.UnaryOp .USub (.Constant (.int 1) k p1) p2)) p3) pos) (dRevT t) := by
  refine ⟨⟨fun pins s σ H Q I hh => ?_⟩⟩
  obtain ⟨F, ρ, QQ, E, q, kk⟩ := hh
  refine Subscript_ (thn (h.pe.run pins s σ H (fun v H1 => ∃ F1 l, v = v ∧ Stp F H F1 H1 ∧ At X.K F1 v (.tup l) ∧ QQ (.tup l.reverse)) I ⟨F, ρ, _, E, q, fun d v F1 H1 ⟨l, e1, q1⟩ s1 r1 => ⟨F1, l, rfl, s1, by rw [← e1]; exact r1, q1⟩⟩) fun v s1 ⟨x, H1, I1, r1, F1, l, _, s1', at1, q1⟩ => ?_)
  cases at1 with
  | @tup ad xs _ hx hxs =>
    cases r1
    have hst : PO X (some (.UnaryOp .USub (.Constant (.int 1) k p1) p2)) (tPart (tUn (rU fun i => .int (-i)) (tC (.int 1)))) := po_some (pe_un un_neg pe_int)
    refine wpAny_Slice (thn (po_none.run pins s1 σ H1 (fun o H2 => o = none ∧ H2 = H1) I1 ⟨rfl, rfl⟩) fun vl s2 ⟨l2, H2, I2, pl, el, e2⟩ => ?_)
    subst el e2
    refine thn (po_none.run pins s2 σ H2 (fun o H3 => o = none ∧ H3 = H2) I2 ⟨rfl, rfl⟩) fun vu s3 ⟨u, H3, I3, pu, eu, e3⟩ => ?_
    subst eu e3
    refine thn (hst.run pins s3 σ H3 (fun o H4 => o = some (-1) ∧ H4 = H3) I3 ⟨1, rfl, -1, rfl, rfl, rfl⟩) fun vs s4 ⟨o, H4, I4, ps, eo, e4⟩ => ?_
    subst eo e4
    cases pl
    cases pu
    obtain ⟨tok, rfl⟩ : ∃ t, vs = .int (-1) t := by
      cases ps
      exact ⟨_, rfl⟩
    have I5 : L2.Inv X pins σ H4 { s4 with heap := s4.heap.push { cls := .type "slice", data := .fields #[.none, .none, .int (-1) tok] } } := I4.kept (t' := s4.toks) fun b ob q => Heap.get?_push_of_some _ q
    obtain ⟨its, r, ht, hz⟩ := I5.tuple (Same.sqT s1'.fs hx)
    have hlen := r.length
    refine tail_any (ops := [.ref ad, .ref s4.heap.objs.size]) ht.typeIs (PyProof.Rows.slot_tuple_getitem.lookup) ?_ (by with_unfolding_all rfl)
    refine tuple_back ht (Heap.IsSliceOf.new _ _ _ _) ?_ (by rw [List.size_toArray, ← hlen]; exact hz)
    have hn : H4 ({ s4 with heap := s4.heap.push { cls := .type "slice", data := .fields #[.none, .none, .int (-1) tok] } } : Shared).heap.objs.size = none := I5.hok.fresh (Nat.le_refl _)
    have st := Stp.new s1'.fs hn (.tup xs.reverse)
    refine ⟨.ref _, _, I5.laid (t' := s4.toks) (o := .tup xs.reverse) (fun b ob q => Heap.get?_push_of_some _ q) (Nat.le_refl _) ?_, rfl, kk _ _ _ _ q1 (s1'.trans st) (.tup (SqT.of upd_same) (hxs.reverse.mono st.ff))⟩
    exact ⟨by rw [List.length_reverse]; exact hz, _, r.reverse, IsTup.new _ _⟩
/-! ### s * k, s.upper() -/
def repS (s : Str) (k : Nat) : Str := ⟨(List.replicate k s.cps).foldl (· ++ ·) #[]⟩
def gMulS : D → D → (D → Prop) → Prop := fun x y Q => ∃ (s : Str) (k : Int), x = .str s ∧ y = .int k ∧ 1 < k ∧ k < 1000 ∧ s.length ≤ 10000 ∧ ∀ z : Str, z.length ≤ s.length * k.toNat → Q (.str z)
theorem rep_len (c : Array Nat) : ∀ (k : Nat) (acc : Array Nat), ((List.replicate k c).foldl (· ++ ·) acc).size = acc.size + c.size * k
  | 0, acc => by simp
  | k + 1, acc => by
    rw [List.replicate_succ, List.foldl_cons, rep_len c k, Array.size_append, Nat.mul_succ]
    omega
theorem op_mulS : OpR X (binaryOp .Mult) fun x y H Q => ∃ (s : Str) (k : Int), x = .str s ∧ y = .int k ∧ 1 < k ∧ k < 1000 ∧ s.length ≤ 10000 ∧ ∀ z : Str, z.length ≤ s.length * k.toNat → Q (.str z) H := by
  rintro pins s σ H x y v u Q I rx ry ⟨z, k, rfl, rfl, h1, h2, h3, q⟩
  obtain ⟨t, rfl⟩ := rx
  obtain ⟨t', rfl⟩ := ry
  have hm : z.length * k.toNat ≤ 10000 * 1000 := Nat.mul_le_mul h3 (by omega)
  refine PySem.P.mul_str (by rw [decide_eq_false (by omega), decide_eq_false (by omega)]; rfl) (fun _ _ => ?_) (fun _ _ => ?_) ?_
  · have : (10000 : Int) ≤ (2 ^ 63 - 1) / k := by
      rw [Int.le_ediv_iff_mul_le (by omega)]
      omega
    omega
  · exact PyProof.Rows.short24 (by omega)
  · rw [if_neg (by omega)]
    split
    · exact ⟨.str z, H, I, ⟨_, rfl⟩, q z (Nat.le_mul_of_pos_right _ (by omega))⟩
    · have hs : (repS z k.toNat).length ≤ z.length * k.toNat := by
        show ((List.replicate k.toNat z.cps).foldl (· ++ ·) #[]).size ≤ _
        rw [rep_len]
        simp [Str.length]
      refine ⟨?_, ⟨.str _, H, I.tok _, ⟨_, rfl⟩, q (repS z k.toNat) hs⟩⟩
      exact Nat.le_trans hs (Nat.le_trans hm (by decide))
theorem o_mulS : OpD X (binaryOp .Mult) (RD X.K) (RD X.K) (RD X.K) gMulS := by
  refine ⟨_, op_mulS, ?_⟩
  rintro F H x y d e QQ Q fs rx ry ⟨s, k, rfl, rfl, h1, h2, h3, q⟩ kk
  cases rx
  cases ry
  exact ⟨s, k, rfl, rfl, h1, h2, h3, fun z hz => kk _ _ F H (q z hz) (Stp.refl fs) (.str _)⟩
def dUpper (t : DE) : DE := fun ρ Q => t ρ fun x => ∃ s : Str, x = .str s ∧ s.length ≤ 10000 ∧ ∀ z : Str, z.length ≤ 3 * s.length → Q (.str z)
theorem pd_upper {t : DE} {apos : Pos} (ho : PD X F0 H0 o t) (hbase : attributeBase o "upper" X.env (eval o X.env) = eval o X.env := by rfl) (hline : (apos.endLine == pos.line) = true := by rfl) : PD X F0 H0 (.Call (.Attribute o "upper" apos) [] [] pos) (dUpper t) := by
  refine ⟨pe_imp (pe_upper ho.pe hbase hline) ?_⟩
  rintro σ H Q ⟨F, ρ, QQ, E, q, k⟩
  refine ⟨F, ρ, _, E, q, fun d v F1 H1 ⟨s, e1, hz, q1⟩ s1 r1 => ?_⟩
  subst e1
  cases r1
  exact ⟨⟨_, rfl⟩, s, rfl, rfl, by omega, k _ _ F1 H1 (q1 _ (PyProof.Rows.len_upper s)) s1 (.str _)⟩
end
end DL

namespace DL
open PySem PySem.Spec PyProof.Rows L2
variable [Tb]
/-! ### texts -/
section
variable {X : Cx} {F0 H0 : Hp} {a b e o iter tg : Expr} {pos : Pos}
def gStrI : D → (D → Prop) → Prop := fun x Q => ∃ i : Int, x = .int i ∧ i.natAbs.log2 < 1920 ∧ Q (.str (toString i))
theorem c_str : ClD X (.type "str") (RD X.K) (RD X.K) gStrI := by
  refine ⟨_, call_str_int, ?_⟩
  rintro F H x d QQ Q fs rx ⟨i, rfl, hz, q⟩ k
  cases rx
  exact ⟨i, rfl, hz, k _ _ F H q (Stp.refl fs) (.str _)⟩
def gIntS : D → (D → Prop) → Prop := fun x Q => ∃ (s : Str) (n : Int), x = .str s ∧ PySem.intText? s = some n ∧ s.length ≤ 640 ∧ Q (.int n)
theorem c_intS : ClD X (.type "int") (RD X.K) (RD X.K) gIntS := by
  refine ⟨_, call_int_str, ?_⟩
  rintro F H x d QQ Q fs rx ⟨s, n, rfl, h1, h2, q⟩ k
  cases rx
  exact ⟨s, n, rfl, h1, h2, k _ _ F H q (Stp.refl fs) (.int _)⟩
def gIntB : D → (D → Prop) → Prop := fun x Q => ∃ c : Bool, x = .bl c ∧ Q (.int (if c then 1 else 0))
theorem c_intB : ClD X (.type "int") (RD X.K) (RD X.K) gIntB := by
  refine ⟨_, call_int1, ?_⟩
  rintro F H x d QQ Q fs rx ⟨c, rfl, q⟩ k
  cases rx
  exact .inr ⟨c, rfl, k _ _ F H q (Stp.refl fs) (.int _)⟩
/-- a text by a truth -/
def gMulB : D → D → (D → Prop) → Prop := fun x y Q => ∃ (s : Str) (k : Int), x = .str s ∧ y = .int k ∧ (k = 0 ∨ k = 1) ∧ s.length ≤ 10000 ∧ Q (.str (if k = 1 then s else Str.empty))
theorem op_mulB : OpR X (binaryOp .Mult) fun x y H Q => ∃ (s : Str) (k : Int), x = .str s ∧ y = .int k ∧ (k = 0 ∨ k = 1) ∧ s.length ≤ 10000 ∧ Q (.str (if k = 1 then s else Str.empty)) H := by
  rintro pins s σ H x y v u Q I rx ry ⟨z, k, rfl, rfl, h1, h3, q⟩
  obtain ⟨t, rfl⟩ := rx
  obtain ⟨t', rfl⟩ := ry
  rcases h1 with rfl | rfl
  · exact PySem.P.mul_str_none (by decide) (by decide) ⟨.str _, H, I.tok _, ⟨_, rfl⟩, q⟩
  · refine PySem.P.mul_str rfl (fun _ z => nomatch z) (fun _ z => nomatch z) ?_
    exact ⟨.str z, H, I, ⟨_, rfl⟩, q⟩
theorem o_mulB : OpD X (binaryOp .Mult) (RD X.K) (RD X.K) (RD X.K) gMulB := by
  refine ⟨_, op_mulB, ?_⟩
  rintro F H x y d e QQ Q fs rx ry ⟨s, k, rfl, rfl, h1, h3, q⟩ kk
  cases rx
  cases ry
  exact ⟨s, k, rfl, rfl, h1, h3, kk _ _ F H q (Stp.refl fs) (.str _)⟩
/-- the signs of a text -/
def sgnL (z : Str) : List D := z.cps.toList.map fun c => D.str ⟨#[c]⟩
def dSeqS (t : DE) : DA := fun ρ Q => t ρ fun d => ∃ z, d = .str z ∧ Q (sgnL z)
theorem sgn_len (z : Str) : (sgnL z).length = z.cps.size := by
  unfold sgnL
  rw [List.length_map, Array.length_toList]
theorem sgn_get {z : Str} {i : Nat} {d : D} (h : (sgnL z)[i]? = some d) : ∃ c, z.cps[i]? = some c ∧ d = .str ⟨#[c]⟩ := by
  unfold sgnL at h
  rw [List.getElem?_map, Array.getElem?_toList] at h
  cases e : z.cps[i]? with
  | none => rw [e] at h; cases h
  | some c => rw [e] at h; cases h; exact ⟨c, rfl, rfl⟩
theorem walk_sgn {K : PySem.W.Frag} {F1 : Hp} {z : Str} : Walk K (okS F1) (Its z) (sgnL z) where
  go := fun i F H _ hi => by rw [sgn_len] at hi; exact hi
  stop := fun F H _ => by rw [sgn_len]; exact Nat.le_refl _
  yld := fun i d F H x H' ⟨a, b⟩ hd ⟨e1, c, h1, e2⟩ => by
    subst e1
    subst e2
    obtain ⟨c', h2, rfl⟩ := sgn_get hd
    rw [h1] at h2
    cases h2
    exact ⟨F, Stp.refl b, .str _⟩
theorem pid_str {t : DE} (h : PD X F0 H0 iter t) : PID X F0 H0 true tg iter (dSeqS t) := by
  refine ⟨pi_imp (pi_str h.pe) ?_⟩
  rintro σ H R ⟨F, ρ, QQ, E, q, k⟩
  refine ⟨F, ρ, _, E, q, fun d v F' H' ⟨z, e1, q'⟩ s r => ?_⟩
  subst e1
  cases r
  exact ⟨z, rfl, k _ _ F' H' q' s walk_sgn⟩
/-! ### split, partition, join -/
def dSplit (t u : DE) : DA := fun ρ Q => t ρ fun x => ∃ s : Str, x = .str s ∧ u ρ fun y => ∃ p : Str, y = .str p ∧ (p.length == 0) = false ∧ s.length + 2 ≤ sizeLine ∧ Q ((Txt.split s p).map D.str)
theorem AtAll.strsI {K : PySem.W.Frag} {F : Hp} : ∀ l : List Str, AtAll K F (l.map V.str) (l.map D.str)
  | [] => .nil
  | s :: l => .cons (.str s) (AtAll.strsI l)
theorem pn_split {to te : DE} {apos : Pos} (ho : PD X F0 H0 o to) (he : PD X F0 H0 e te) (hs : starEach [e] X.env = [(false, eval e X.env)] := by rfl) (hbase : attributeBase o "split" X.env (eval o X.env) = eval o X.env := by rfl) (hline : (apos.endLine == pos.line) = true := by rfl) :
    PN X F0 H0 (.Call (.Attribute o "split" apos) [e] [] pos) (dSplit to te) := by
  refine ⟨pe_imp (pe_split ho.pe he.pe hs hbase hline) ?_⟩
  rintro σ H Q ⟨F, ρ, QQ, E, q, k⟩
  refine ⟨F, ρ, _, E, q, fun d v F1 H1 ⟨s, e1, q1⟩ s1 r1 => ?_⟩
  subst e1
  cases r1
  refine ⟨⟨_, rfl⟩, F1, ρ, _, E.step s1, q1, fun d v F2 H2 ⟨p, e2, h1, h2, q2⟩ s2 r2 => ?_⟩
  subst e2
  cases r2
  refine ⟨s, p, rfl, rfl, h1, h2, fun a ha => ?_⟩
  have s3 : Stp F H F2 H2 := s1.trans s2
  exact k _ a _ F2 _ q2 (s3.trans (Stp.own s2.fs ha _)) (s3.hh.nfree ha) upd_same (s2.fs.free ha) (AtAll.strsI _)
def dPartn (t u : DE) : DE := fun ρ Q => t ρ fun x => ∃ s : Str, x = .str s ∧ u ρ fun y => ∃ p : Str, y = .str p ∧ (p.length == 0) = false ∧ s.length ≤ sizeLine ∧ Q (.tup [.str (Txt.partition s p).1, .str (Txt.partition s p).2.1, .str (Txt.partition s p).2.2])
theorem pd_partition {to te : DE} {apos : Pos} (ho : PD X F0 H0 o to) (he : PD X F0 H0 e te) (hs : starEach [e] X.env = [(false, eval e X.env)] := by rfl) (hbase : attributeBase o "partition" X.env (eval o X.env) = eval o X.env := by rfl) (hline : (apos.endLine == pos.line) = true := by rfl) :
    PD X F0 H0 (.Call (.Attribute o "partition" apos) [e] [] pos) (dPartn to te) := by
  refine ⟨pe_imp (pe_partition ho.pe he.pe hs hbase hline) ?_⟩
  rintro σ H Q ⟨F, ρ, QQ, E, q, k⟩
  refine ⟨F, ρ, _, E, q, fun d v F1 H1 ⟨s, e1, q1⟩ s1 r1 => ?_⟩
  subst e1
  cases r1
  refine ⟨⟨_, rfl⟩, F1, ρ, _, E.step s1, q1, fun d v F2 H2 ⟨p, e2, h1, h2, q2⟩ s2 r2 => ?_⟩
  subst e2
  cases r2
  refine ⟨s, p, rfl, rfl, h1, h2, fun a ha => ?_⟩
  have st := Stp.new s2.fs ha (.tup [V.str (Txt.partition s p).1, .str (Txt.partition s p).2.1, .str (Txt.partition s p).2.2])
  exact k _ _ _ _ q2 ((s1.trans s2).trans st) (.tup (SqT.of upd_same) (.cons (.str _) (.cons (.str _) (.cons (.str _) .nil))))
def dJoin (t : DE) (u : DA) : DE := fun ρ Q => t ρ fun x => ∃ s : Str, x = .str s ∧ u ρ fun l => ∃ ys : List Str, l = ys.map D.str ∧ (ys.map (·.length)).sum + ys.length * s.length ≤ 16777216 ∧ Q (.str (Txt.join s ys))
theorem pd_join {to : DE} {te : DA} {apos : Pos} (ho : PD X F0 H0 o to) (he : PL X F0 H0 e te) (hs : starEach [e] X.env = [(false, eval e X.env)] := by rfl) (hbase : attributeBase o "join" X.env (eval o X.env) = eval o X.env := by rfl) (hline : (apos.endLine == pos.line) = true := by rfl) :
    PD X F0 H0 (.Call (.Attribute o "join" apos) [e] [] pos) (dJoin to te) := by
  refine ⟨pe_imp (pe_join ho.pe he.pe hs hbase hline) ?_⟩
  rintro σ H Q ⟨F, ρ, QQ, E, q, k⟩
  refine ⟨F, ρ, _, E, q, fun d v F1 H1 ⟨s, e1, q1⟩ s1 r1 => ?_⟩
  subst e1
  cases r1
  refine ⟨⟨_, rfl⟩, F1, ρ, _, E.step s1, q1, fun d v F2 H2 ⟨ys, e2, h1, q2⟩ s2 r2 => ?_⟩
  subst e2
  obtain ⟨p, xs, rfl, h3, h4⟩ := r2
  have e := h4.strs
  subst e
  exact ⟨s, p, ys, rfl, rfl, .inl (SqL.of h3), h1, k _ _ F2 H2 q2 (s1.trans s2) (.str _)⟩
/-! ### try, where nothing is raised -/
theorem psd_tryN {body : List Stmt} {h₀ : ExceptHandler} {hs : List ExceptHandler} {t : DS} (h : PSsD X.nox F0 H0 body t) : PSD X F0 H0 (.Try body (h₀ :: hs) [] [] pos) t :=
  ⟨ps_imp (ps_try_thru0 h.ps) fun _ _ _ q => q⟩
end
end DL

namespace DL
open PySem L2
variable [Tb]
/-! ### fractions -/
def frD (q : Rat) : D := .tup [.int q.num, .int q.den]
theorem frD_inj {p q : Rat} : (frD p = frD q) ↔ p = q := by
  constructor
  · intro h
    unfold frD at h
    simp only [D.tup.injEq, List.cons.injEq, D.int.injEq, and_true] at h
    exact Rat.ext h.1 (by omega)
  · rintro rfl; rfl
def byOf (u l : Int) : Int := if l < 0 then 0 - (Int.gcd u l : Int) else (Int.gcd u l : Int)
theorem gcd_pos {u l : Int} (h : l ≠ 0) : 0 < Int.gcd u l := Int.gcd_pos_of_ne_zero_right u h
theorem byOf_ne {u l : Int} (h : l ≠ 0) : byOf u l ≠ 0 := by
  have := gcd_pos (u := u) h
  unfold byOf
  split <;> omega
theorem byOf_abs {u l : Int} : (byOf u l).natAbs = Int.gcd u l := by
  unfold byOf
  split <;> omega
theorem fr_num {u l : Int} (h : l ≠ 0) : u.fdiv (byOf u l) = (Rat.divInt u l).num := by
  have g0 := gcd_pos (u := u) h
  have d1 : ((Int.gcd u l : Int)) ∣ u := Int.gcd_dvd_left u l
  rw [Rat.num_divInt, Int.gcd_comm l u]
  unfold byOf
  by_cases hl : l < 0
  · rw [if_pos hl, Int.sign_eq_neg_one_of_neg hl, Int.zero_sub, Int.fdiv_eq_ediv_of_dvd (Int.neg_dvd.mpr d1), Int.ediv_neg, Int.neg_one_mul, Int.neg_ediv_of_dvd d1]
  · rw [if_neg hl, Int.sign_eq_one_of_pos (by omega), Int.one_mul, Int.fdiv_eq_ediv_of_dvd d1]
theorem fr_den {u l : Int} (h : l ≠ 0) : l.fdiv (byOf u l) = ((Rat.divInt u l).den : Int) := by
  have g0 := gcd_pos (u := u) h
  have d1 : ((Int.gcd u l : Int)) ∣ l := Int.gcd_dvd_right u l
  rw [Rat.den_divInt, if_neg h, Int.gcd_comm l u, Int.natCast_ediv]
  unfold byOf
  by_cases hl : l < 0
  · rw [if_pos hl, Int.zero_sub, Int.fdiv_eq_ediv_of_dvd (Int.neg_dvd.mpr d1), Int.ediv_neg, ← Int.neg_ediv_of_dvd d1, Int.ofNat_natAbs_of_nonpos (by omega)]
  · rw [if_neg hl, Int.fdiv_eq_ediv_of_dvd d1, Int.natAbs_of_nonneg (by omega)]
/-- at most so many bits in both parts -/
def Bd (q : Rat) (n : Nat) : Prop := q.num.natAbs < 2 ^ n ∧ q.den < 2 ^ n
theorem Bd.le {q : Rat} {m n : Nat} (h : Bd q m) (i : m ≤ n) : Bd q n :=
  ⟨Nat.lt_of_lt_of_le h.1 (Nat.pow_le_pow_right (by decide) i), Nat.lt_of_lt_of_le h.2 (Nat.pow_le_pow_right (by decide) i)⟩
theorem divInt_num_le {u l : Int} (h : l ≠ 0) : (Rat.divInt u l).num.natAbs ≤ u.natAbs := by
  rw [Rat.num_divInt]
  have g0 := gcd_pos (u := u) h
  have d1 : ((Int.gcd l u : Int)) ∣ l.sign * u := Int.dvd_mul_of_dvd_right (Int.gcd_dvd_right l u)
  have e : (l.sign * u).natAbs = u.natAbs := by
    rw [Int.natAbs_mul, Int.natAbs_sign_of_ne_zero h, Nat.one_mul]
  rw [Int.natAbs_ediv_of_dvd d1, e]
  exact Nat.div_le_self _ _
theorem divInt_den_le {u l : Int} (h : l ≠ 0) : (Rat.divInt u l).den ≤ l.natAbs := by
  rw [Rat.den_divInt, if_neg h]
  exact Nat.div_le_self _ _
theorem Bd.divInt {u l : Int} {n : Nat} (h : l ≠ 0) (hu : u.natAbs < 2 ^ n) (hl : l.natAbs < 2 ^ n) : Bd (Rat.divInt u l) n :=
  ⟨Nat.lt_of_le_of_lt (divInt_num_le h) hu, Nat.lt_of_le_of_lt (divInt_den_le h) hl⟩
theorem mul_lt_pow {a b : Int} {m n : Nat} (ha : a.natAbs < 2 ^ m) (hb : b.natAbs < 2 ^ n) : (a * b).natAbs < 2 ^ (m + n) := by
  rw [Int.natAbs_mul, Nat.pow_add]
  exact Nat.mul_lt_mul'' ha hb
theorem add_lt_pow {a b : Int} {n : Nat} (ha : a.natAbs < 2 ^ n) (hb : b.natAbs < 2 ^ n) : (a + b).natAbs < 2 ^ (n + 1) := by
  have := Int.natAbs_add_le a b
  rw [Nat.pow_succ]
  omega
theorem sub_lt_pow {a b : Int} {n : Nat} (ha : a.natAbs < 2 ^ n) (hb : b.natAbs < 2 ^ n) : (a - b).natAbs < 2 ^ (n + 1) := by
  have := Int.natAbs_sub_le a b
  rw [Nat.pow_succ]
  omega
theorem lt_pow_le {a : Nat} {m n : Nat} (h : a < 2 ^ m) (i : m ≤ n) : a < 2 ^ n := Nat.lt_of_lt_of_le h (Nat.pow_le_pow_right (by decide) i)
theorem Bd.den' {q : Rat} {n : Nat} (h : Bd q n) : (q.den : Int).natAbs < 2 ^ n := by
  rw [Int.natAbs_natCast]; exact h.2
theorem den_ne {q : Rat} : (q.den : Int) ≠ 0 := by
  have := q.den_nz
  omega
theorem mul_divInt (p q : Rat) : Rat.divInt (p.num * q.num) (p.den * q.den) = p * q := by
  rw [← Rat.divInt_mul_divInt, Rat.num_divInt_den, Rat.num_divInt_den]
theorem add_divInt (p q : Rat) : Rat.divInt (p.num * q.den + q.num * p.den) (p.den * q.den) = p + q := by
  rw [← Rat.divInt_add_divInt _ _ den_ne den_ne, Rat.num_divInt_den, Rat.num_divInt_den]
theorem den_mul_ne {p q : Rat} : (p.den : Int) * (q.den : Int) ≠ 0 := Int.mul_ne_zero den_ne den_ne
theorem Bd.mul {p q : Rat} {m n : Nat} (hp : Bd p m) (hq : Bd q n) : Bd (p * q) (m + n) := by
  rw [← mul_divInt]
  exact Bd.divInt den_mul_ne (mul_lt_pow hp.1 hq.1) (mul_lt_pow hp.den' hq.den')
theorem Bd.add {p q : Rat} {m n : Nat} (hp : Bd p m) (hq : Bd q n) : Bd (p + q) (m + n + 1) := by
  rw [← add_divInt]
  refine Bd.divInt den_mul_ne (add_lt_pow (mul_lt_pow hp.1 hq.den') ?_) (lt_pow_le (mul_lt_pow hp.den' hq.den') (by omega))
  have := mul_lt_pow hq.1 hp.den'
  rw [Nat.add_comm] at this
  exact this
theorem Bd.neg {p : Rat} {m : Nat} (hp : Bd p m) : Bd (-p) m := by
  refine ⟨?_, ?_⟩
  · rw [Rat.neg_num, Int.natAbs_neg]; exact hp.1
  · rw [Rat.neg_den]; exact hp.2
theorem Bd.int {z : Int} {m : Nat} (h : z.natAbs < 2 ^ m) (h0 : 0 < m) : Bd (z : Rat) m := by
  refine ⟨?_, ?_⟩
  · rw [Rat.num_intCast]; exact h
  · rw [Rat.den_intCast]; exact Nat.one_lt_two_pow (by omega)
theorem Bd.inv {p : Rat} {m : Nat} (hp : Bd p m) (h0 : p ≠ 0) : Bd p⁻¹ m := by
  have hn : p.num ≠ 0 := fun e => h0 (Rat.num_eq_zero.mp e)
  rw [Rat.inv_def]
  exact Bd.divInt hn hp.den' hp.1
theorem Bd.div {p q : Rat} {m n : Nat} (hp : Bd p m) (hq : Bd q n) (h0 : q ≠ 0) : Bd (p / q) (m + n) := by
  rw [Rat.div_def]
  exact hp.mul (hq.inv h0)
theorem div_divInt {p q : Rat} : Rat.divInt (p.num * q.den) (p.den * q.num) = p / q := by
  rw [Rat.div_def, Rat.inv_def, ← Rat.divInt_mul_divInt, Rat.num_divInt_den]
theorem times_divInt {z : Int} {q : Rat} : Rat.divInt (z * q.num) q.den = (z : Rat) * q := by
  have := mul_divInt (z : Rat) q
  rw [Rat.num_intCast, Rat.den_intCast] at this
  simpa using this
theorem fr_int (z : Int) : (D.tup [.int z, .int 1]) = frD (z : Rat) := by
  unfold frD
  rw [Rat.num_intCast, Rat.den_intCast]
  rfl
theorem fr_neg (q : Rat) : (D.tup [.int (0 - q.num), .int q.den]) = frD (-q) := by
  unfold frD
  rw [Rat.neg_num, Rat.neg_den, Int.zero_sub]
theorem ok_fr (q : Rat) : (frD q).ok = true := rfl
theorem eqD_fr (p q : Rat) : eqD (frD p) (frD q) = decide (p = q) := by
  have e : eqD (frD p) (frD q) = ((p.num == q.num) && ((p.den : Int) == (q.den : Int))) := by
    unfold eqD frD
    simp [D.py, D.pys, PyData.eqv, PyData.eqvAll]
  rw [e]
  by_cases h : p = q
  · subst h; simp
  · have : ¬ (p.num = q.num ∧ (p.den : Int) = (q.den : Int)) := fun ⟨a, b⟩ => h (Rat.ext a (by omega))
    simp only [h, decide_false]
    rw [Bool.and_eq_false_iff]
    by_cases e : p.num = q.num
    · exact .inr (by simpa using fun z => this ⟨e, by omega⟩)
    · exact .inl (by simpa using e)
theorem ixV_fr0 {q : Rat} {z : D} : ixV (frD q) 0 z ↔ z = .int q.num := by
  show atI [D.int q.num, D.int q.den] 0 = some z ↔ _
  rw [atI_0]
  constructor
  · intro h; cases h; rfl
  · rintro rfl; rfl
theorem ixV_fr1 {q : Rat} {z : D} : ixV (frD q) 1 z ↔ z = .int q.den := by
  show atI [D.int q.num, D.int q.den] 1 = some z ↔ _
  rw [atI_1]
  constructor
  · intro h; cases h; rfl
  · rintro rfl; rfl
end DL

namespace DL
open PySem L2
variable [Tb]
/-! ### points, curves; what the laws draw -/
def ptD (x y : Rat) : D := .tup [frD x, frD y]
def crD (a b c : Int) : D := .tup [.int a, .int b, .int c]
theorem ixV_pt0 {x y : Rat} {z : D} : ixV (ptD x y) 0 z ↔ z = frD x := by
  show atI [frD x, frD y] 0 = some z ↔ _
  rw [atI_0]
  constructor
  · intro h; cases h; rfl
  · rintro rfl; rfl
theorem ixV_pt1 {x y : Rat} {z : D} : ixV (ptD x y) 1 z ↔ z = frD y := by
  show atI [frD x, frD y] 1 = some z ↔ _
  rw [atI_1]
  constructor
  · intro h; cases h; rfl
  · rintro rfl; rfl
theorem ptD_inj {x y u v : Rat} : ptD x y = ptD u v ↔ x = u ∧ y = v := by
  unfold ptD
  simp only [D.tup.injEq, List.cons.injEq, frD_inj, and_true]
theorem crD_inj {a b c d e f : Int} : crD a b c = crD d e f ↔ a = d ∧ b = e ∧ c = f := by
  unfold crD
  simp only [D.tup.injEq, List.cons.injEq, D.int.injEq, and_true]
/-- the least common lower number -/
def low (x y : Rat) : Int := (x.den * y.den : Int) / (Int.gcd x.den y.den : Int)
theorem low_dvd_left (x y : Rat) : (x.den : Int) ∣ low x y := by
  unfold low
  rw [Int.mul_ediv_assoc _ (Int.gcd_dvd_right _ _)]
  exact Int.dvd_mul_right _ _
theorem low_dvd_right (x y : Rat) : (y.den : Int) ∣ low x y := by
  unfold low
  rw [Int.mul_comm, Int.mul_ediv_assoc _ (Int.gcd_dvd_left _ _)]
  exact Int.dvd_mul_right _ _
def forOne (x y : Rat) : D := .tup [.int (low x y), .int (x.num * (low x y / x.den)), .int (y.num * (low x y / y.den))]
def up (x y : Rat) : Int := x.num * (low x y / x.den)
def up2 (x y : Rat) : Int := y.num * (low x y / y.den)
def sizeQ (x y : Rat) : Int := max (max ((low x y).natAbs : Int) ((up x y).natAbs : Int)) ((up2 x y).natAbs : Int)
theorem den_pos {q : Rat} : (0 : Int) < q.den := by
  have := q.den_nz
  omega
theorem low_pos (x y : Rat) : 0 < low x y := by
  unfold low
  have h1 : (0 : Int) < x.den * y.den := Int.mul_pos den_pos den_pos
  have h2 : ((Int.gcd x.den y.den : Int)) ∣ (x.den * y.den : Int) := Int.dvd_trans (Int.gcd_dvd_left _ _) (Int.dvd_mul_right _ _)
  have h3 : 0 < (Int.gcd (x.den : Int) y.den : Int) := by
    have := gcd_pos (u := (x.den : Int)) (l := (y.den : Int)) den_ne
    omega
  obtain ⟨k, hk⟩ := h2
  rw [hk, Int.mul_ediv_cancel_left _ (by omega)]
  rw [hk] at h1
  exact Int.pos_of_mul_pos_right h1 (by omega)
theorem low_lt {x y : Rat} {m n : Nat} (hx : Bd x m) (hy : Bd y n) : (low x y).natAbs < 2 ^ (m + n) := by
  have h := mul_lt_pow hx.den' hy.den'
  unfold low
  have h2 : ((Int.gcd x.den y.den : Int)) ∣ (x.den * y.den : Int) := Int.dvd_trans (Int.gcd_dvd_left _ _) (Int.dvd_mul_right _ _)
  rw [Int.natAbs_ediv_of_dvd h2]
  exact Nat.lt_of_le_of_lt (Nat.div_le_self _ _) h
/-- the cells of the script, and what is mixed of them -/
def cellOf (ns : List Int) (k : Nat) : Int := ns.getD k 0
def mixOf (c p m : Int) : Int := (c * 48271 % p) * (c * 48271 % p + 7) % p % m
theorem mixOf_nonneg {c p m : Int} (h : 0 < m) : 0 ≤ mixOf c p m := Int.emod_nonneg _ (by omega)
theorem mixOf_lt {c p m : Int} (h : 0 < m) : mixOf c p m < m := Int.emod_lt_of_pos _ h
def numOf (c m : Int) : Int := if mixOf c 9949 (2 * m) - m < 0 then mixOf c 9949 (2 * m) - m else mixOf c 9949 (2 * m) - m + 1
theorem numOf_ne {c m : Int} (h : 0 < m) : numOf c m ≠ 0 := by
  unfold numOf
  split <;> omega
theorem numOf_abs {c m : Int} (h : 0 < m) : (numOf c m).natAbs ≤ m.natAbs := by
  have h1 := mixOf_nonneg (c := c) (p := 9949) (m := 2 * m) (by omega)
  have h2 := mixOf_lt (c := c) (p := 9949) (m := 2 * m) (by omega)
  unfold numOf
  split <;> omega
/-- the drawn curve -/
structure Crv where
  a : Int
  b : Int
  c : Int
def Crv.ok (r : Crv) : Prop := r.a ≠ 0 ∧ r.b ≠ 0 ∧ r.c ≠ 0 ∧ r.a.natAbs ≤ 30 ∧ r.b.natAbs ≤ 30 ∧ r.c.natAbs ≤ 30
def curveOf (t : Int) : Crv :=
  if 0 < mixOf t 9941 3 then
    let a := numOf t 5
    let b := numOf (t + 3) 5
    let x := mixOf t 9931 3
    let y := mixOf t 9929 3
    let c := a * x * x + b * y * y
    ⟨a, b, if c = 0 ∨ (30 : Int) < c.natAbs then a else c⟩
  else ⟨numOf t 30, numOf (t + 3) 30, numOf (t + 5) 30⟩
theorem curveOf_ok (t : Int) : (curveOf t).ok := by
  unfold curveOf Crv.ok
  have a1 := numOf_ne (c := t) (m := 5) (by decide)
  have a2 := numOf_abs (c := t) (m := 5) (by decide)
  have b1 := numOf_ne (c := t + 3) (m := 5) (by decide)
  have b2 := numOf_abs (c := t + 3) (m := 5) (by decide)
  have c1 := numOf_ne (c := t) (m := 30) (by decide)
  have c2 := numOf_abs (c := t) (m := 30) (by decide)
  have d1 := numOf_ne (c := t + 3) (m := 30) (by decide)
  have d2 := numOf_abs (c := t + 3) (m := 30) (by decide)
  have e1 := numOf_ne (c := t + 5) (m := 30) (by decide)
  have e2 := numOf_abs (c := t + 5) (m := 30) (by decide)
  split
  · dsimp only
    refine ⟨a1, b1, ?_, by omega, by omega, ?_⟩
    · split <;> omega
    · split <;> omega
  · dsimp only
    exact ⟨c1, d1, e1, by omega, by omega, by omega⟩
def Crv.d (r : Crv) : D := crD r.a r.b r.c
end DL

namespace DL
open PySem L2
variable [Tb]
theorem num_eq (x : Rat) : (x.num : Rat) = x * ((x.den : Int) : Rat) := by
  have h : ((x.den : Int) : Rat) ≠ 0 := by
    intro e
    have := Rat.intCast_inj.mp (e.trans Rat.intCast_zero.symm)
    exact den_ne this
  have e : x = (x.num : Rat) / ((x.den : Int) : Rat) := by
    rw [← Rat.divInt_eq_div, Rat.num_divInt_den]
  have e2 : (x.num : Rat) / ((x.den : Int) : Rat) * ((x.den : Int) : Rat) = x * ((x.den : Int) : Rat) := by rw [← e]
  rw [Rat.div_mul_cancel h] at e2
  exact e2
theorem den_ne_q (x : Rat) : ((x.den : Int) : Rat) ≠ 0 := by
  intro e
  have := Rat.intCast_inj.mp (e.trans Rat.intCast_zero.symm)
  exact den_ne this
theorem on_iff (a b c : Int) (x y : Rat) : (a * x.num * x.num * y.den * y.den + b * y.num * y.num * x.den * x.den = c * x.den * x.den * y.den * y.den) ↔ (a : Rat) * (x * x) + b * (y * y) = c := by
  have h1 := num_eq x
  have h2 := num_eq y
  have d1 := den_ne_q x
  have d2 := den_ne_q y
  rw [← Rat.intCast_inj]
  simp only [Rat.intCast_add, Rat.intCast_mul]
  rw [h1, h2]
  generalize ((x.den : Int) : Rat) = p at *
  generalize ((y.den : Int) : Rat) = q at *
  generalize (a : Rat) = a' at *
  generalize (b : Rat) = b' at *
  generalize (c : Rat) = c' at *
  constructor
  · intro h
    have : (p * p * q * q) * (a' * (x * x) + b' * (y * y) - c') = 0 := by grind
    rcases Rat.mul_eq_zero.mp this with h | h
    · grind
    · grind
  · intro h
    grind
end DL

namespace DL
open PySem L2
variable [Tb]
/-! ### rings -/
def togX (d : Int) (x y u v : Rat) : Rat := x * u + ((0 - d : Int) : Rat) * (y * v)
def togY (d : Int) (x y u v : Rat) : Rat := x * v + u * y
/-- a common lower number, and the size of all three -/
def Cd (x y : Rat) (n : Nat) : Prop := ∃ X Y W : Int, W ≠ 0 ∧ x = Rat.divInt X W ∧ y = Rat.divInt Y W ∧ X.natAbs < 2 ^ n ∧ Y.natAbs < 2 ^ n ∧ W.natAbs < 2 ^ n
theorem Cd.x {x y : Rat} {n : Nat} (h : Cd x y n) : Bd x n := by
  obtain ⟨X, Y, W, h0, rfl, rfl, h1, h2, h3⟩ := h
  exact Bd.divInt h0 h1 h3
theorem Cd.y {x y : Rat} {n : Nat} (h : Cd x y n) : Bd y n := by
  obtain ⟨X, Y, W, h0, rfl, rfl, h1, h2, h3⟩ := h
  exact Bd.divInt h0 h2 h3
theorem Cd.le {x y : Rat} {m n : Nat} (h : Cd x y m) (i : m ≤ n) : Cd x y n := by
  obtain ⟨X, Y, W, h0, e1, e2, h1, h2, h3⟩ := h
  exact ⟨X, Y, W, h0, e1, e2, lt_pow_le h1 i, lt_pow_le h2 i, lt_pow_le h3 i⟩
theorem Cd.one {n : Nat} (h : 0 < n) : Cd 1 0 n := by
  have z : 1 < 2 ^ n := Nat.one_lt_two_pow (by omega)
  refine ⟨1, 0, 1, by decide, by decide +kernel, by decide +kernel, z, by simp; omega, z⟩
theorem Cd.neg {x y : Rat} {n : Nat} (h : Cd x y n) : Cd x (-y) n := by
  obtain ⟨X, Y, W, h0, e1, e2, h1, h2, h3⟩ := h
  exact ⟨X, -Y, W, h0, e1, by rw [e2, Rat.neg_divInt], h1, by rw [Int.natAbs_neg]; exact h2, h3⟩
theorem wz {W V : Int} (hW : W ≠ 0) (hV : V ≠ 0) : W * V ≠ 0 := Int.mul_ne_zero hW hV
theorem Cd.tog {d : Int} {x y u v : Rat} {m n b : Nat} (h : Cd x y m) (k : Cd u v n) (hd : d.natAbs < 2 ^ b) : Cd (togX d x y u v) (togY d x y u v) (m + n + b + 1) := by
  obtain ⟨X, Y, W, hW, rfl, rfl, h1, h2, h3⟩ := h
  obtain ⟨U, V, Z, hZ, rfl, rfl, k1, k2, k3⟩ := k
  have e1 : Rat.divInt X W * Rat.divInt U Z = Rat.divInt (X * U) (W * Z) := Rat.divInt_mul_divInt _ _
  have e2 : Rat.divInt Y W * Rat.divInt V Z = Rat.divInt (Y * V) (W * Z) := Rat.divInt_mul_divInt _ _
  have e3 : Rat.divInt X W * Rat.divInt V Z = Rat.divInt (X * V) (W * Z) := Rat.divInt_mul_divInt _ _
  have e4 : Rat.divInt U Z * Rat.divInt Y W = Rat.divInt (U * Y) (W * Z) := by rw [Rat.divInt_mul_divInt, Int.mul_comm Z W]
  have e5 : ((0 - d : Int) : Rat) * Rat.divInt (Y * V) (W * Z) = Rat.divInt ((0 - d) * (Y * V)) (W * Z) := by
    have := Rat.divInt_mul_divInt (0 - d) (Y * V) (d₁ := 1) (d₂ := W * Z)
    rw [Int.one_mul] at this
    rw [← this, ← Rat.num_divInt_den (((0 - d : Int)) : Rat), Rat.num_intCast, Rat.den_intCast]
    rfl
  have add : ∀ A B : Int, Rat.divInt A (W * Z) + Rat.divInt B (W * Z) = Rat.divInt (A + B) (W * Z) := fun A B => by
    rw [Rat.divInt_add_divInt _ _ (wz hW hZ) (wz hW hZ), ← Int.add_mul, Rat.divInt_mul_right (wz hW hZ)]
  refine ⟨X * U + (0 - d) * (Y * V), X * V + U * Y, W * Z, wz hW hZ, ?_, ?_, ?_, ?_, ?_⟩
  · unfold togX; rw [e1, e2, e5, add]
  · unfold togY; rw [e3, e4, add]
  · refine add_lt_pow (lt_pow_le (mul_lt_pow h1 k1) (by omega)) ?_
    have q := mul_lt_pow (a := 0 - d) (b := Y * V) (m := b) (n := m + n) (by omega) (mul_lt_pow h2 k2)
    rw [Nat.add_comm] at q
    exact q
  · refine lt_pow_le (add_lt_pow (mul_lt_pow h1 k2) ?_) (by omega)
    have q := mul_lt_pow k1 h2
    rw [Nat.add_comm] at q
    exact q
  · exact lt_pow_le (mul_lt_pow h3 k3) (by omega)
/-- so often together -/
def oft (d : Int) (x y : Rat) : Nat → Rat × Rat
  | 0 => (1, 0)
  | n + 1 => (togX d (oft d x y n).1 (oft d x y n).2 x y, togY d (oft d x y n).1 (oft d x y n).2 x y)
theorem oft_cd {d : Int} {x y : Rat} {m b : Nat} (h : Cd x y m) (hm : 0 < m) (hd : d.natAbs < 2 ^ b) : ∀ n, Cd (oft d x y n).1 (oft d x y n).2 ((n + 1) * (m + b + 1))
  | 0 => Cd.one (by omega)
  | n + 1 => by
    refine ((oft_cd h hm hd n).tog h hd).le ?_
    rw [Nat.add_mul (n + 1) 1]
    omega
def oftI (d : Int) (x y : Rat) (k : Int) : Rat × Rat := if k < 0 then ((oft d x y k.natAbs).1, -(oft d x y k.natAbs).2) else oft d x y k.natAbs
def turnsD (d : Int) (x y : Rat) : Option Nat := (List.range 12).find? fun i => decide (oft d x y (i + 1) = (1, 0))
def optD : Option Nat → D
  | some i => .int (i + 1)
  | none => .non
def onR (d : Int) (x y : Rat) : Prop := x * x + (d : Rat) * (y * y) = 1
theorem onR.tog {d : Int} {x y u v : Rat} (h : onR d x y) (k : onR d u v) : onR d (togX d x y u v) (togY d x y u v) := by
  unfold onR togX togY at *
  rw [Rat.intCast_sub]
  generalize (d : Rat) = e at *
  have z : ((0 : Int) : Rat) = 0 := Rat.intCast_zero
  rw [z]
  grind
end DL
namespace DL
open PySem L2
variable [Tb]
theorem eqD_pt (x y u v : Rat) : eqD (ptD x y) (ptD u v) = (decide (x = u) && decide (y = v)) := by
  have h : eqD (ptD x y) (ptD u v) = (eqD (frD x) (frD u) && (eqD (frD y) (frD v) && true)) := by
    unfold eqD ptD
    simp [D.py, D.pys, PyData.eqv, PyData.eqvAll]
  rw [h, eqD_fr, eqD_fr, Bool.and_true]
theorem ok_pt (x y : Rat) : (ptD x y).ok = true := rfl
end DL
namespace DL
open PySem L2
variable [Tb]
theorem divInt_eq {A L : Int} {q : Rat} (hL : L ≠ 0) (h : (A : Rat) = q * (L : Rat)) : Rat.divInt A L = q := by
  have hL' : (L : Rat) ≠ 0 := fun e => hL (Rat.intCast_inj.mp (e.trans Rat.intCast_zero.symm))
  rw [Rat.divInt_eq_div, h, Rat.mul_div_cancel hL']
theorem togX_div (d : Int) (x y u v : Rat) : Rat.divInt (x.num * u.num * y.den * v.den - d * y.num * v.num * x.den * u.den) (x.den * u.den * y.den * v.den) = togX d x y u v := by
  refine divInt_eq (Int.mul_ne_zero (Int.mul_ne_zero (Int.mul_ne_zero den_ne den_ne) den_ne) den_ne) ?_
  unfold togX
  simp only [Rat.intCast_mul, Rat.intCast_sub]
  rw [num_eq x, num_eq y, num_eq u, num_eq v, Rat.intCast_zero]
  grind
theorem togY_div (d : Int) (x y u v : Rat) : Rat.divInt (x.num * v.num * y.den * u.den + u.num * y.num * x.den * v.den) (x.den * v.den * y.den * u.den) = togY d x y u v := by
  refine divInt_eq (Int.mul_ne_zero (Int.mul_ne_zero (Int.mul_ne_zero den_ne den_ne) den_ne) den_ne) ?_
  unfold togY
  simp only [Rat.intCast_mul, Rat.intCast_add]
  rw [num_eq x, num_eq y, num_eq u, num_eq v]
  grind
theorem ring_pt {d m n : Int} (h : n * n + d * m * m ≠ 0) : onR d (Rat.divInt (n * n - d * m * m) (n * n + d * m * m)) (Rat.divInt (2 * m * n) (n * n + d * m * m)) := by
  have hL' : ((n * n + d * m * m : Int) : Rat) ≠ 0 := fun e => h (Rat.intCast_inj.mp (e.trans Rat.intCast_zero.symm))
  unfold onR
  rw [Rat.divInt_eq_div, Rat.divInt_eq_div]
  simp only [Rat.intCast_mul, Rat.intCast_sub, Rat.intCast_add] at hL' ⊢
  have e2 : ((2 : Int) : Rat) = 2 := rfl
  rw [e2]
  generalize (d : Rat) = a at *
  generalize (m : Rat) = b at *
  generalize (n : Rat) = c at *
  grind
/-- a fraction written by a positive divisor -/
theorem fr_pos {u l : Int} (h : 0 < l) : (D.tup [.int (u / (Int.gcd u l : Int)), .int (l / (Int.gcd u l : Int))]) = frD (Rat.divInt u l) := by
  have e1 := fr_num (u := u) (l := l) (by omega)
  have e2 := fr_den (u := u) (l := l) (by omega)
  unfold byOf at e1 e2
  rw [if_neg (by omega), Int.fdiv_eq_ediv_of_nonneg _ (by omega)] at e1 e2
  rw [e1, e2]
  rfl
theorem fr_any {u l : Int} (h : l ≠ 0) : (D.tup [.int (u.fdiv (byOf u l)), .int (l.fdiv (byOf u l))]) = frD (Rat.divInt u l) := by
  rw [fr_num h, fr_den h]
  rfl
theorem gcd_lt {u l : Int} {n : Nat} (h : l ≠ 0) (hl : l.natAbs < 2 ^ n) : (Int.gcd u l : Int).natAbs < 2 ^ n := by
  rw [Int.natAbs_natCast]
  exact Nat.lt_of_le_of_lt (Nat.le_of_dvd (by omega) (Int.gcd_dvd_natAbs_right u l)) hl
theorem gcd_posI {u l : Int} (h : l ≠ 0) : (0 : Int) < (Int.gcd u l : Int) := by
  have := gcd_pos (u := u) h
  omega
end DL
namespace DL
open PySem L2
variable [Tb]
theorem two_get {α : Type} {a b x : α} {i : Nat} (h : [a, b][i]? = some x) : (i = 0 ∧ x = a) ∨ (i = 1 ∧ x = b) := by
  match i, h with
  | 0, h => cases h; exact .inl ⟨rfl, rfl⟩
  | 1, h => cases h; exact .inr ⟨rfl, rfl⟩
theorem take2_0 {α : Type} (a b : α) : [a, b].take 0 = [] := rfl
theorem take2_1 {α : Type} (a b : α) : [a, b].take 1 = [a] := rfl
theorem take2_2 {α : Type} (a b : α) : [a, b].take 2 = [a, b] := rfl
end DL
namespace DL
open PySem L2
variable [Tb]
def homeP (d : Int) (x y : Rat) : D → Bool
  | .int n => decide (oft d x y n.toNat = (1, 0))
  | _ => false
theorem home_first (d : Int) (x y : Rat) : ∃ t, ((rng 1 13).filter (homeP d x y)).map id ++ [D.non] = optD (turnsD d x y) :: t := by
  have h : ((rng 1 13).filter (homeP d x y)).map id = ((List.range 12).filter fun i => decide (oft d x y (i + 1) = (1, 0))).map fun (i : Nat) => D.int (i + 1) := by
    unfold rng
    rw [List.filter_map, List.map_id, show (13 - 1 : Int).toNat = 12 from rfl]
    have e1 : (fun (i : Nat) => D.int (1 + (i : Int))) = fun (i : Nat) => D.int (i + 1) := funext fun i => by rw [Int.add_comm]
    have e2 : (homeP d x y ∘ fun (i : Nat) => D.int ((i : Int) + 1)) = fun (i : Nat) => decide (oft d x y (i + 1) = (1, 0)) := funext fun i => by
      show decide (oft d x y ((i : Int) + 1).toNat = (1, 0)) = _
      rw [show ((i : Int) + 1).toNat = i + 1 by omega]
    rw [e1, e2]
  rw [h]
  have hf : turnsD d x y = ((List.range 12).filter fun i => decide (oft d x y (i + 1) = (1, 0))).head? := by
    rw [List.head?_filter]
    rfl
  rw [hf]
  generalize List.filter _ _ = l
  cases l with
  | nil => exact ⟨[], rfl⟩
  | cons a l => exact ⟨_, rfl⟩
end DL

namespace DL
open PySem L2
variable [Tb]
/-! ### any things: n tells how deep, and bounds numbers, texts and rows -/
def thD : Nat → D → Bool
  | _, .non => true
  | _, .bl _ => true
  | n, .int i => decide (i.natAbs < 2 ^ (300 + n))
  | n, .str s => decide (s.length ≤ 20 * 4 ^ n)
  | n + 1, .tup l => decide (l.length ≤ 20 * (n + 1)) && l.all (thD n)
  | n + 1, .lst l => decide (l.length ≤ 20 * (n + 1)) && l.all (thD n)
  | _, _ => false
theorem thD_int {n : Nat} {i : Int} : thD n (.int i) = decide (i.natAbs < 2 ^ (300 + n)) := by cases n <;> rfl
theorem thD_str {n : Nat} {s : Str} : thD n (.str s) = decide (s.length ≤ 20 * 4 ^ n) := by cases n <;> rfl
theorem thD_non {n : Nat} : thD n .non = true := by cases n <;> rfl
theorem thD_bl {n : Nat} {b : Bool} : thD n (.bl b) = true := by cases n <;> rfl
theorem thD_tupI {n : Nat} {l : List D} (h1 : l.length ≤ 20 * (n + 1)) (h2 : ∀ d ∈ l, thD n d = true) : thD (n + 1) (.tup l) = true := by
  show (decide (l.length ≤ 20 * (n + 1)) && l.all (thD n)) = true
  rw [decide_eq_true h1, List.all_eq_true.mpr h2]
  rfl
theorem thD_lstI {n : Nat} {l : List D} (h1 : l.length ≤ 20 * (n + 1)) (h2 : ∀ d ∈ l, thD n d = true) : thD (n + 1) (.lst l) = true := by
  show (decide (l.length ≤ 20 * (n + 1)) && l.all (thD n)) = true
  rw [decide_eq_true h1, List.all_eq_true.mpr h2]
  rfl
theorem thD_tup {n : Nat} {l : List D} (h : thD n (.tup l) = true) : l.length ≤ 20 * n ∧ ∀ d ∈ l, thD (n - 1) d = true := by
  cases n with
  | zero => simp [thD] at h
  | succ n =>
    have h : (decide (l.length ≤ 20 * (n + 1)) && l.all (thD n)) = true := h
    rw [Bool.and_eq_true, decide_eq_true_eq, List.all_eq_true] at h
    exact h
theorem thD_lst {n : Nat} {l : List D} (h : thD n (.lst l) = true) : l.length ≤ 20 * n ∧ ∀ d ∈ l, thD (n - 1) d = true := by
  cases n with
  | zero => simp [thD] at h
  | succ n =>
    have h : (decide (l.length ≤ 20 * (n + 1)) && l.all (thD n)) = true := h
    rw [Bool.and_eq_true, decide_eq_true_eq, List.all_eq_true] at h
    exact h
theorem thD_up1 : ∀ {n : Nat} {d : D}, thD n d = true → thD (n + 1) d = true
  | _, .non, _ => rfl
  | _, .bl _, _ => rfl
  | n, .int i, h => by
    rw [thD_int, decide_eq_true_eq] at *
    exact lt_pow_le h (by omega)
  | n, .str s, h => by
    rw [thD_str, decide_eq_true_eq] at *
    rw [Nat.pow_succ]
    omega
  | n + 1, .tup l, h => by
    obtain ⟨h1, h2⟩ := thD_tup h
    exact thD_tupI (by omega) fun d hd => thD_up1 (h2 d hd)
  | n + 1, .lst l, h => by
    obtain ⟨h1, h2⟩ := thD_lst h
    exact thD_lstI (by omega) fun d hd => thD_up1 (h2 d hd)
  | 0, .tup l, h => by simp [thD] at h
  | 0, .lst l, h => by simp [thD] at h
  | _, .dct _, h => by simp [thD] at h
  | _, .scr _, h => by simp [thD] at h
  | _, .exc _, h => by simp [thD] at h
theorem thD_up {n m : Nat} {d : D} (h : thD n d = true) (hm : n ≤ m) : thD m d = true := by
  obtain ⟨k, rfl⟩ := Nat.exists_eq_add_of_le hm
  clear hm
  induction k with
  | zero => exact h
  | succ k ih => exact thD_up1 ih
theorem pys_plain : ∀ {l : List D}, (∀ d ∈ l, d.py.plain = true) → PyData.plainAll (D.pys l) = true
  | [], _ => rfl
  | d :: l, h => by
    rw [D.pys, PyData.plainAll, h d List.mem_cons_self, pys_plain fun e he => h e (List.mem_cons_of_mem _ he)]
    rfl
theorem pys_depth {n : Nat} : ∀ {l : List D}, (∀ d ∈ l, d.py.depth ≤ n) → PyData.depthAll (D.pys l) ≤ n
  | [], _ => Nat.zero_le _
  | d :: l, h => by
    have h1 := h d List.mem_cons_self
    have h2 := pys_depth fun e he => h e (List.mem_cons_of_mem (a := e) _ he)
    rw [D.pys, PyData.depthAll]
    omega
theorem thD_py : ∀ {n : Nat} {d : D}, thD n d = true → d.py.plain = true ∧ d.py.depth ≤ n
  | _, .non, _ => ⟨rfl, Nat.zero_le _⟩
  | _, .bl _, _ => ⟨rfl, Nat.zero_le _⟩
  | _, .int _, _ => ⟨rfl, Nat.zero_le _⟩
  | _, .str _, _ => ⟨rfl, Nat.zero_le _⟩
  | n + 1, .tup l, h => by
    have hl := (thD_tup h).2
    refine ⟨?_, ?_⟩
    · rw [D.py, PyData.plain]
      exact pys_plain fun d hd => (thD_py (hl d hd)).1
    · rw [D.py, PyData.depth]
      have := pys_depth (n := n) fun d hd => (thD_py (hl d hd)).2
      omega
  | n + 1, .lst l, h => by
    have hl := (thD_lst h).2
    refine ⟨?_, ?_⟩
    · rw [D.py, PyData.plain]
      exact pys_plain fun d hd => (thD_py (hl d hd)).1
    · rw [D.py, PyData.depth]
      have := pys_depth (n := n) fun d hd => (thD_py (hl d hd)).2
      omega
  | 0, .tup l, h => by simp [thD] at h
  | 0, .lst l, h => by simp [thD] at h
  | _, .dct _, h => by simp [thD] at h
  | _, .scr _, h => by simp [thD] at h
  | _, .exc _, h => by simp [thD] at h
theorem thD_ok {n : Nat} {d : D} (h : thD n d = true) (hn : n ≤ 64 := by decide) : d.ok = true := by
  have := thD_py h
  unfold D.ok
  rw [this.1, decide_eq_true (by omega)]
  rfl
theorem ok_lst {n : Nat} {l : List D} (h : ∀ d ∈ l, thD n d = true) (hn : n ≤ 60 := by decide) : (D.lst l).ok = true := by
  have h1 : (D.lst l).py.plain = true := by
    rw [D.py, PyData.plain]
    exact pys_plain fun d hd => (thD_py (h d hd)).1
  have h2 : (D.lst l).py.depth ≤ n + 1 := by
    rw [D.py, PyData.depth]
    have := pys_depth (n := n) fun d hd => (thD_py (h d hd)).2
    omega
  unfold D.ok
  rw [h1, decide_eq_true (by omega)]
  rfl
/-- a whole number that is no truth -/
def isWh : D → Bool
  | .int _ => true
  | _ => false
def isFrB : D → Bool
  | .tup [.int a, .int b] => decide (0 < b) && (Int.gcd a b == 1)
  | _ => false
theorem isFrB_fr (q : Rat) : isFrB (frD q) = true := by
  have h1 := den_pos (q := q)
  have h2 : Int.gcd q.num q.den = 1 := q.reduced
  show (decide (0 < (q.den : Int)) && (Int.gcd q.num q.den == 1)) = true
  rw [decide_eq_true h1, h2]
  rfl
theorem isFrB_len {l : List D} (h : l.length ≠ 2) : isFrB (.tup l) = false := by
  unfold isFrB
  split
  · rename_i e
    cases e
    exact absurd rfl h
  · rfl
theorem eqD_nilL (l : List D) : eqD (.lst l) (.lst []) = l.isEmpty := by
  unfold eqD
  cases l with
  | nil => rfl
  | cons d l => simp [D.py, D.pys, PyData.eqv, PyData.eqvAll]
theorem len2 {l : List D} (h : l.length = 2) : ∃ x y, l = [x, y] := by
  match l, h with
  | [x, y], _ => exact ⟨x, y, rfl⟩
theorem len3 {l : List D} (h : l.length = 3) : ∃ x y z, l = [x, y, z] := by
  match l, h with
  | [x, y, z], _ => exact ⟨x, y, z, rfl⟩
/-- no truths in it -/
def nobl : Nat → D → Bool
  | _, .non => true
  | _, .int _ => true
  | _, .str _ => true
  | n + 1, .tup l => l.all (nobl n)
  | _, _ => false
/-! ### slices -/
theorem sIx_le' (n d : Nat) (h : d ≤ n) : ∀ o : Option Int, HT.sIx n d o ≤ n
  | none => h
  | some v => by
    show (if v < 0 then (v + (n : Int)).toNat else min v.toNat n) ≤ n
    split <;> omega
theorem cut_mem {l : List D} {lo hi : Option Int} {d : D} (h : d ∈ cutL l lo hi) : d ∈ l := List.mem_of_mem_drop (List.mem_of_mem_take h)
theorem cut_len (l : List D) (lo hi : Option Int) : (cutL l lo hi).length ≤ l.length := by
  unfold cutL
  rw [List.length_take, List.length_drop]
  omega
theorem cut_to {l : List D} {i : Int} (h : 0 ≤ i) (h2 : i ≤ l.length) : (cutL l none (some i)).length = i.toNat := by
  unfold cutL
  have e1 : HT.sIx l.length 0 none = 0 := rfl
  have e2 : HT.sIx l.length l.length (some i) = i.toNat := by
    show (if i < 0 then (i + (l.length : Int)).toNat else min i.toNat l.length) = _
    rw [if_neg (by omega)]
    omega
  rw [e1, e2, List.length_take, List.length_drop]
  omega
theorem cut_from {l : List D} {i : Int} (h : 0 ≤ i) : (cutL l (some i) none).length = l.length - i.toNat := by
  unfold cutL
  have e1 : HT.sIx l.length l.length none = l.length := rfl
  have e2 : HT.sIx l.length 0 (some i) = min i.toNat l.length := by
    show (if i < 0 then (i + (l.length : Int)).toNat else min i.toNat l.length) = _
    rw [if_neg (by omega)]
  rw [e1, e2, List.length_take, List.length_drop]
  omega
theorem cut_last (l : List D) : (cutL l (some (-1)) none).length ≤ 1 := by
  unfold cutL
  have e1 : HT.sIx l.length l.length none = l.length := rfl
  have e2 : HT.sIx l.length 0 (some (-1)) = (-1 + (l.length : Int)).toNat := rfl
  rw [e1, e2, List.length_take, List.length_drop]
  omega
theorem eqD_tnil (l : List D) : eqD (.tup l) (.tup []) = l.isEmpty := by
  unfold eqD
  cases l with
  | nil => rfl
  | cons d l => simp [D.py, D.pys, PyData.eqv, PyData.eqvAll]
theorem cutS_len (z : Str) (lo hi : Option Int) : (cutS z lo hi).length ≤ z.length := by
  unfold cutS Str.length
  rw [List.size_toArray, List.length_take, List.length_drop, Array.length_toList]
  omega
/-- the things that stand ready -/
def odd16 : List D := [.non, .bl true, .bl false, .int 0, .int 1, .int (-1), .int 2, .int 7, .int 10, .int 1000, .str "", .str "a", .str "A", .tup [], .tup [.str "a"], .lst [.int 1]]
theorem odd16_th {d : D} (h : d ∈ odd16) : thD 2 d = true := by
  have e : odd16.all (thD 2) = true := by decide +kernel
  exact List.all_eq_true.mp e d h
theorem app_len (s t : Str) : (s ++ t).length = s.length + t.length := by
  show (s.cps ++ t.cps).size = _
  rw [Array.size_append]
  rfl
theorem th6 {n : Nat} {a b c d e f : D} (ha : thD n a = true) (hb : thD n b = true) (hc : thD n c = true) (hd : thD n d = true) (he : thD n e = true) (hf : thD n f = true) : ∀ x ∈ [a, b, c, d, e, f], thD n x = true := fun x hx => by
  simp only [List.mem_cons, List.not_mem_nil, or_false] at hx
  rcases hx with rfl | rfl | rfl | rfl | rfl | rfl <;> assumption
theorem th7 {n : Nat} {a b c d e f g : D} (ha : thD n a = true) (hb : thD n b = true) (hc : thD n c = true) (hd : thD n d = true) (he : thD n e = true) (hf : thD n f = true) (hg : thD n g = true) : ∀ x ∈ [a, b, c, d, e, f, g], thD n x = true := fun x hx => by
  simp only [List.mem_cons, List.not_mem_nil, or_false] at hx
  rcases hx with rfl | rfl | rfl | rfl | rfl | rfl | rfl <;> assumption
theorem th_one {n : Nat} {a : D} (h : thD n a = true) : thD (n + 1) (.tup [a]) = true := thD_tupI (by simp; omega) fun d hd => by rw [List.mem_singleton.mp hd]; exact h
theorem th_oneL {n : Nat} {a : D} (h : thD n a = true) : thD (n + 1) (.lst [a]) = true := thD_lstI (by simp; omega) fun d hd => by rw [List.mem_singleton.mp hd]; exact h
theorem th_i {n : Nat} {i j : Int} (h : thD n (.int i) = true) (hj : j.natAbs ≤ 2 * i.natAbs + 2) : thD (n + 2) (.int j) = true := by
  rw [thD_int, decide_eq_true_eq] at *
  have e : 2 ^ (300 + (n + 2)) = 4 * 2 ^ (300 + n) := by rw [show 300 + (n + 2) = (300 + n) + 2 by omega, Nat.pow_add]; omega
  rw [e]
  have := Nat.one_lt_two_pow (n := 300 + n) (by omega)
  omega
theorem th_s {n : Nat} {s t : Str} (h : thD n (.str s) = true) (ht : t.length ≤ 3 * s.length + 2) : thD (n + 2) (.str t) = true := by
  rw [thD_str, decide_eq_true_eq] at *
  have e : 4 ^ (n + 2) = 16 * 4 ^ n := by rw [Nat.pow_add]; omega
  have := Nat.one_le_pow n 4 (by decide)
  rw [e]
  omega
theorem th_slen {n : Nat} {s : Str} (h : thD n (.str s) = true) (hn : n ≤ 4) : s.length ≤ 6000 := by
  rw [thD_str, decide_eq_true_eq] at h
  have := Nat.pow_le_pow_right (show 0 < 4 by decide) hn
  omega
theorem th_cut {n : Nat} {l : List D} {lo hi : Option Int} (h1 : l.length ≤ 20 * n) (h2 : ∀ d ∈ l, thD (n - 1) d = true) : thD (n + 2) (.tup (cutL l lo hi)) = true :=
  thD_tupI (Nat.le_trans (cut_len l lo hi) (by omega)) fun d hd => thD_up (h2 d (cut_mem hd)) (by omega)
/-! ### curves -/
def cvE : D → Bool
  | .int i => decide (i ≠ 0 ∧ i.natAbs ≤ 30)
  | _ => false
def isCvB : D → Bool
  | .tup l => l.length == 3 && l.all cvE
  | _ => false
theorem allbl (f : D → Bool) (l : List D) : (l.map fun d => D.bl (f d)) = (l.map f).map D.bl := by rw [List.map_map]; rfl
theorem filter_not_empty (f : D → Bool) (l : List D) : (l.filter fun z => !f z).isEmpty = l.all f := by
  induction l with
  | nil => rfl
  | cons d l ih =>
    rw [List.all_cons]
    cases h : f d with
    | true => rw [List.filter_cons_of_neg (by simp [h]), ih]; rfl
    | false => rw [List.filter_cons_of_pos (by simp [h])]; rfl
end DL

namespace DL
open PySem PySem.W L2 TL
variable [Tb]
/-! ### numbers as texts -/
def strZ (z : Int) : Str := Str.ofString (toString z)
theorem tlZ_nn (n : Nat) : tl (strZ (n : Int)) = numL n := tl_num n
theorem tlZ_neg (k : Nat) : tl (strZ (Int.negSucc k)) = 45 :: numL (k + 1) := by
  have e : toString (Int.negSucc k) = "-" ++ toString (((k + 1 : Nat) : Int)) := rfl
  unfold strZ
  rw [e, tl_ofString, String.toList_append, List.map_append, ← tl_ofString, ← tl_ofString, tl_num]
  rfl
theorem z_cases (z : Int) : (∃ n : Nat, z = n ∧ tl (strZ z) = numL n) ∨ ∃ k : Nat, z = Int.negSucc k ∧ tl (strZ z) = 45 :: numL (k + 1) := by
  cases z with
  | ofNat n => exact .inl ⟨n, rfl, tlZ_nn n⟩
  | negSucc k => exact .inr ⟨k, rfl, tlZ_neg k⟩
theorem strZ_free {z : Int} {s : Nat} (h : (s < 48 ∨ 57 < s) ∧ s ≠ 45) : s ∉ tl (strZ z) := by
  rcases z_cases z with ⟨n, _, e⟩ | ⟨k, _, e⟩ <;> rw [e]
  · exact numL_free h.1
  · rw [List.mem_cons, not_or]
    exact ⟨h.2, numL_free h.1⟩
theorem strZ_len {z : Int} (h : z.natAbs < 10 ^ 6) : (strZ z).length ≤ 7 := by
  rw [len_tl]
  rcases z_cases z with ⟨n, rfl, e⟩ | ⟨k, rfl, e⟩ <;> rw [e]
  · have := numL_len (n := n) (k := 6) (by decide) (by simpa using h)
    omega
  · have := numL_len (n := k + 1) (k := 6) (by decide) (by simpa using h)
    rw [List.length_cons]
    omega
theorem intText_Z {z : Int} (h : z.natAbs < 10 ^ 6) : PySem.intText? (strZ z) = some z := by
  have hl := strZ_len h
  rcases z_cases z with ⟨n, rfl, e⟩ | ⟨k, rfl, e⟩
  · rw [len_tl, e] at hl
    exact int_num (by omega)
  · have e2 := intText_neg (x := strZ (Int.negSucc k)) (cs := numL (k + 1)) e (numL_digits _) (numL_ne _) (by omega)
    rw [e2, numL_val]
    rfl
theorem log_Z {z : Int} (h : z.natAbs < 10 ^ 6) : z.natAbs.log2 < 1920 := by
  by_cases h0 : z.natAbs = 0
  · rw [h0]
    decide
  · have := (Nat.log2_lt (n := z.natAbs) (k := 30) h0).mpr (Nat.lt_of_lt_of_le h (by decide))
    omega
/-- the fraction's text -/
def frT (q : Rat) : Str := if q.den = 1 then strZ q.num else strZ q.num ++ Str.ofString "/" ++ strZ q.den
theorem frT_free {q : Rat} : 32 ∉ tl (frT q) := by
  unfold frT
  split
  · exact strZ_free (by decide)
  · rw [tl_append, tl_append, List.mem_append, List.mem_append]
    rintro ((h | h) | h)
    · exact strZ_free (by decide) h
    · exact absurd h (by decide +kernel)
    · exact strZ_free (by decide) h
theorem frT_len {q : Rat} (h1 : q.num.natAbs < 10 ^ 6) (h2 : q.den < 10 ^ 6) : (frT q).length ≤ 15 := by
  have a := strZ_len h1
  have b := strZ_len (z := (q.den : Int)) (by simpa using h2)
  have c : (Str.ofString "/").length = 1 := by decide +kernel
  unfold frT
  split
  · omega
  · rw [len_tl, tl_append, tl_append, List.length_append, List.length_append, ← len_tl, ← len_tl, ← len_tl]
    omega
def ptT (p q : Rat) : Str := frT p ++ Str.ofString " " ++ frT q
def crT (a b c : Int) : Str := strZ a ++ Str.ofString " " ++ strZ b ++ Str.ofString " " ++ strZ c
theorem tl_sp : tl (Str.ofString " ") = [32] := by decide +kernel
theorem tl_sl : tl (Str.ofString "/") = [47] := by decide +kernel
theorem join3 (x y z : Str) : Txt.join (Str.ofString " ") [x, y, z] = x ++ Str.ofString " " ++ y ++ Str.ofString " " ++ z := by
  rw [join_eq]
  apply ext_tl
  rw [tl_join]
  simp only [tl_append, List.map_cons, List.map_nil, joinL, List.append_assoc]
theorem join2 (x y : Str) : Txt.join (Str.ofString " ") [x, y] = x ++ Str.ofString " " ++ y := by
  rw [join_eq]
  apply ext_tl
  rw [tl_join]
  simp only [tl_append, List.map_cons, List.map_nil, joinL, List.append_assoc]
theorem split_crT (a b c : Int) : Txt.split (crT a b c) (Str.ofString " ") = [strZ a, strZ b, strZ c] := by
  unfold crT
  rw [← join3]
  exact split_join (parts := [strZ a, strZ b, strZ c]) tl_sp (by decide +kernel) (by simp) fun p hp => by
    simp only [List.mem_cons, List.not_mem_nil, or_false] at hp
    rcases hp with rfl | rfl | rfl <;> exact strZ_free (by decide)
theorem split_ptT (p q : Rat) : Txt.split (ptT p q) (Str.ofString " ") = [frT p, frT q] := by
  unfold ptT
  rw [← join2]
  exact split_join (parts := [frT p, frT q]) tl_sp (by decide +kernel) (by simp) fun x hx => by
    simp only [List.mem_cons, List.not_mem_nil, or_false] at hx
    rcases hx with rfl | rfl <;> exact frT_free
theorem part_one {q : Rat} (h : q.den = 1) : Txt.partition (frT q) (Str.ofString "/") = (strZ q.num, Str.empty, Str.empty) := by
  unfold frT
  rw [if_pos h]
  exact partition_none tl_sl (strZ_free (by decide))
theorem part_two {q : Rat} (h : q.den ≠ 1) : Txt.partition (frT q) (Str.ofString "/") = (strZ q.num, Str.ofString "/", strZ q.den) := by
  unfold frT
  rw [if_neg h]
  exact partition_app tl_sl (strZ_free (by decide))
theorem cut_one {w : Str} {c : Nat} {r : List Nat} (h : tl w = c :: r) : cutS w none (some 1) = ⟨#[c]⟩ ∧ cutS w (some 1) none = ⟨r.toArray⟩ := by
  have hl : w.length = r.length + 1 := by rw [len_tl, h, List.length_cons]
  have hc : w.cps.toList = c :: r := h
  have m : min 1 (r.length + 1) = 1 := by omega
  constructor
  · apply ext_tl
    unfold cutS
    rw [tl_mk, hc, hl]
    simp [HT.sIx, m, tl]
  · apply ext_tl
    unfold cutS
    rw [tl_mk, hc, hl]
    simp [HT.sIx, m, tl]
theorem fig_mem {c : Nat} (h : 48 ≤ c ∧ c ≤ 57) : c ∈ (Str.ofString "0123456789").cps.toList := by
  have e : (Str.ofString "0123456789").cps.toList = [48, 49, 50, 51, 52, 53, 54, 55, 56, 57] := by decide +kernel
  rw [e]
  simp only [List.mem_cons, List.not_mem_nil, or_false]
  omega
theorem lenA (x y : Str) : (x ++ y).length = x.length + y.length := by
  rw [len_tl, tl_append, List.length_append, ← len_tl, ← len_tl]
theorem len_sp : (Str.ofString " ").length = 1 := by decide +kernel
theorem len_sl : (Str.ofString "/").length = 1 := by decide +kernel
theorem small_line {n : Nat} (h : n ≤ 1000) : n ≤ sizeLine := Nat.le_trans h (by decide)
/-- figures alone -/
def figs (w : Str) : Prop := w ≠ Str.ofString "" ∧ ∀ c ∈ w.cps.toList, 48 ≤ c ∧ c ≤ 57
theorem figs_mk {l : List Nat} (h : NumText.AllDigits l) (hne : l ≠ []) {w : Str} (e : tl w = l) : figs w := by
  refine ⟨fun z => hne ?_, fun c hc => ?_⟩
  · rw [← e, z]
    decide +kernel
  · have hc : c ∈ tl w := hc
    rw [e] at hc
    exact h c hc
theorem tl_minus : tl (Str.ofString "-") = [45] := by decide +kernel
theorem dash_no {c : Nat} (h : c ≠ 45) : ((⟨#[c]⟩ : Str) == Str.ofString "-") = false := by
  rw [beq_eq_false_iff_ne]
  intro e
  have : tl (⟨#[c]⟩ : Str) = [45] := by rw [e, tl_minus]
  exact h (by simpa [tl] using this)
theorem dash_yes : ((⟨#[45]⟩ : Str) == Str.ofString "-") = true := by decide +kernel
theorem sgn_mem {w : Str} {d : D} (h : d ∈ sgnL w) : ∃ c, c ∈ w.cps.toList ∧ d = .str ⟨#[c]⟩ := by
  obtain ⟨c, hc, rfl⟩ := List.mem_map.mp h
  exact ⟨c, hc, rfl⟩
theorem th_small {z : Int} (h : z.natAbs < 10 ^ 6) : thD 0 (.int z) = true := by
  rw [thD_int, decide_eq_true_eq]
  exact Nat.lt_of_lt_of_le (Nat.lt_of_lt_of_le h (show 10 ^ 6 ≤ 2 ^ 20 by decide)) (Nat.pow_le_pow_right (by decide) (by decide))
theorem th_frQ {q : Rat} (h1 : q.num.natAbs < 10 ^ 6) (h2 : q.den < 10 ^ 6) : thD 1 (frD q) = true := thD_tupI (by simp) fun d hd => by
  simp only [List.mem_cons, List.not_mem_nil, or_false] at hd
  rcases hd with rfl | rfl
  · exact th_small h1
  · exact th_small (by simpa using h2)
theorem th_crQ {a b c : Int} (ha : a.natAbs ≤ 30) (hb : b.natAbs ≤ 30) (hc : c.natAbs ≤ 30) : thD 1 (crD a b c) = true := thD_tupI (by simp) fun d hd => by
  simp only [List.mem_cons, List.not_mem_nil, or_false] at hd
  rcases hd with rfl | rfl | rfl <;> exact th_small (by omega)
theorem cv_ok {a b c : Int} (h1 : a ≠ 0) (h2 : b ≠ 0) (h3 : c ≠ 0) (ha : a.natAbs ≤ 30) (hb : b.natAbs ≤ 30) (hc : c.natAbs ≤ 30) : isCvB (crD a b c) = true := by
  show (true && (decide (a ≠ 0 ∧ a.natAbs ≤ 30) && (decide (b ≠ 0 ∧ b.natAbs ≤ 30) && (decide (c ≠ 0 ∧ c.natAbs ≤ 30) && true)))) = true
  rw [decide_eq_true ⟨h1, ha⟩, decide_eq_true ⟨h2, hb⟩, decide_eq_true ⟨h3, hc⟩]
  rfl
theorem pt_a : ptT (Rat.divInt (-3) 5) 4 = Str.ofString "-3/5 4" := by decide +kernel
theorem pt_b : ptT 0 (Rat.divInt (-1) 2) = Str.ofString "0 -1/2" := by decide +kernel
theorem fr_a : (D.tup [.tup [.int (-3), .int 5], .tup [.int 4, .int 1]]) = .tup [frD (Rat.divInt (-3) 5), frD 4] := by
  have e1 : (Rat.divInt (-3) 5).num = -3 := by decide +kernel
  have e2 : (Rat.divInt (-3) 5).den = 5 := by decide +kernel
  have e3 : (4 : Rat).num = 4 := by decide +kernel
  have e4 : (4 : Rat).den = 1 := by decide +kernel
  unfold frD
  rw [e1, e2, e3, e4]
  rfl
theorem fr_b : (D.tup [.tup [.int 0, .int 1], .tup [.int (-1), .int 2]]) = .tup [frD 0, frD (Rat.divInt (-1) 2)] := by
  have e1 : (Rat.divInt (-1) 2).num = -1 := by decide +kernel
  have e2 : (Rat.divInt (-1) 2).den = 2 := by decide +kernel
  have e3 : (0 : Rat).num = 0 := by decide +kernel
  have e4 : (0 : Rat).den = 1 := by decide +kernel
  unfold frD
  rw [e1, e2, e3, e4]
  rfl
end DL

namespace DL
open PySem L2
variable [Tb]
local macro_rules | `(tactic| walk_at "dl") => `(tactic| simp only [dVar, dOwn, dC, dOp, dTst, dNeg, dTru, dTruL, dAnd, dOr, dNot, dIf, dAndV, dOrV, dNotV, dOrT, dChain, dNil, dCons, dTup, dLs, dCall, dC1, dIsi, dIsi2, dZipT, dZipL, dPart, dNoPart, dSl, dNext, dSeq, dBrk, dCnt, dRet, dDrop, dIfS, dSet, dSetO, dPar, dAsg, dApp, dExt, dPop, dFrz, dSetAt, dSeqL, dSeqT, dRng1, dRng2, gN, dGNil, dGCons, gTp, dFz, dLst, dYes,
  gI, gIC, gIB, gEq, gNe, gIsN, gNotN, gIsB, gNotB, gAbs, gLen, gLenL, gTupL, gAll, gAny, gMaxL, gMinL, gIx, gIxL, gSlT, gCatT, gCat, gRep, gAddS, gLstT, gIn, gInS, gEqL, gNeL, gMaxT, gMinT, gDict, dGet, dDIn, dDSub, dRng3, gSort, gSetI, gSortI, dSub, dTry, dIsE, dCount, dIndexB, xCall, xIf, dRevT, gMulS, dUpper, gSlS, gStrI, gIntS, gIntB, gMulB, dSeqS, dSplit, dPartn, dJoin,
  startD, wipeD, List.map_cons, List.map_nil, List.cons_append, List.nil_append, List.length_cons, List.length_nil, List.replicate_succ, List.replicate_zero, Nat.reduceAdd, Nat.reduceSub, Nat.zero_add, Nat.add_zero, Nat.sub_self, Nat.add_one_sub_one,
  List.getElem?_cons_zero, List.getElem?_cons_succ, List.set_cons_zero, List.set_cons_succ, Option.some.injEq, Sl.d.injEq, Sl.own.injEq, D.int.injEq, D.bl.injEq, D.str.injEq, D.tup.injEq, D.lst.injEq, List.cons.injEq, reduceCtorEq,
  and_assoc, exists_eq_left, exists_eq_left', exists_eq_right, exists_eq_right', exists_and_left, exists_and_right, and_true, true_and, false_and, and_false, exists_false, or_false, false_or, true_or, or_true, if_true, if_false, decide_eq_true_eq, Bool.not_eq_true', decide_eq_false_iff_not, Bool.false_eq_true, Bool.not_true, Bool.not_false, not_true_eq_false, not_false_eq_true, forall_const, ne_eq,
  ixV_tup, ixV_lst, ixV_scr, ixV_fr0, ixV_fr1, ixV_pt0, ixV_pt1, atI_0, atI_1, atI_2, lenV_tup, lenV_lst, lenV_scr, truV_non, truV_bl, truV_int, truV_tup, truV_lst, tyD_int, tyD_bl, tyD_str, tyD_tup, tyD_lst, tyD_non, kb_NoneType_int, kb_NoneType_bool, kb_NoneType_str, kb_NoneType_tuple, kb_NoneType_list, kb_bool_int, kb_bool_bool, kb_bool_str, kb_bool_tuple, kb_bool_list, kb_int_int, kb_int_bool, kb_int_str, kb_int_tuple, kb_int_list, kb_str_int, kb_str_bool, kb_str_str, kb_str_tuple, kb_str_list, kb_tuple_int, kb_tuple_bool, kb_tuple_str, kb_tuple_tuple, kb_tuple_list, kb_list_int, kb_list_bool, kb_list_str, kb_list_tuple, kb_list_list, eqD_int, eqD_bl, eqD_str, ok_int, ok_bl, ok_str, D.isNon, Bool.or_true, Bool.or_false, Bool.true_or, Bool.false_or, sz0, sz1, sz2, sz3, sz4, sz5, sz6, sz7, sz8, sz9, sz10, sz11, sz12, sz13, sz14, sz15, sz16, sz17, sz18, sz19, sz20, sz24, sz30, sz32])
local macro_rules | `(tactic| walk_at "st") => `(tactic| simp only [dSeq, List.set_cons_zero, List.set_cons_succ, startD, List.map_cons, List.map_nil, List.cons_append, List.nil_append, List.length_cons, List.length_nil, List.replicate_succ, List.replicate_zero, Nat.reduceAdd, Nat.reduceSub, Nat.zero_add, Nat.add_zero, Nat.sub_self, Nat.add_one_sub_one])

def topS (i : Nat) : Stmt := PySem.Challenge.pw_curvefracs_k17_texts.main.body.getD i (.Pass ⟨0, 0, 0, 0⟩)
abbrev s_fraction_text : Stmt := topS 1
abbrev s_curve_text : Stmt := topS 2
abbrev s_point_text : Stmt := topS 3
abbrev s_is_whole : Stmt := topS 8
abbrev s_common : Stmt := topS 9
abbrev s_is_fraction : Stmt := topS 10
abbrev s_is_curve : Stmt := topS 13
abbrev s_must : Stmt := topS 16
abbrev s_number_in : Stmt := topS 17
abbrev s_fraction_in : Stmt := topS 18
abbrev s_read_curve : Stmt := topS 19
abbrev s_read_point : Stmt := topS 20
abbrev s__law_cell : Stmt := topS 22
abbrev s__law_mix : Stmt := topS 23
abbrev s__law_same : Stmt := topS 24
abbrev s__law_common : Stmt := topS 25
abbrev s__law_fraction : Stmt := topS 26
abbrev s__law_number : Stmt := topS 27
abbrev s__law_curve : Stmt := topS 28
abbrev s__law_fraction_text : Stmt := topS 29
abbrev s__law_point_text : Stmt := topS 30
abbrev s__law_curve_text : Stmt := topS 31
abbrev s__law_read : Stmt := topS 32
abbrev s_law : Stmt := topS 33
/-- what stands at the top -/
structure Top (K : PySem.W.Frag) (mg : Str → Option Value) (base : Heap) : Prop where
  f_fraction_text : Df K mg "fraction_text" s_fraction_text ["one"]
  f_curve_text : Df K mg "curve_text" s_curve_text ["curve"]
  f_point_text : Df K mg "point_text" s_point_text ["point"]
  f_is_whole : Df K mg "is_whole" s_is_whole ["thing"]
  f_common : Df K mg "common" s_common ["one", "other"]
  f_is_fraction : Df K mg "is_fraction" s_is_fraction ["thing"]
  f_is_curve : Df K mg "is_curve" s_is_curve ["thing"]
  f_must : Df K mg "must" s_must ["truth"]
  f_number_in : Df K mg "number_in" s_number_in ["word"]
  f_fraction_in : Df K mg "fraction_in" s_fraction_in ["word"]
  f_read_curve : Df K mg "read_curve" s_read_curve ["text"]
  f_read_point : Df K mg "read_point" s_read_point ["text"]
  f__law_cell : Df K mg "_law_cell" s__law_cell ["_law_script", "_law_k"]
  f__law_mix : Df K mg "_law_mix" s__law_mix ["_law_cell_here", "_law_prime", "_law_many"]
  f__law_same : Df K mg "_law_same" s__law_same ["_law_found", "_law_due"]
  f__law_common : Df K mg "_law_common" s__law_common ["_law_one", "_law_other"]
  f__law_fraction : Df K mg "_law_fraction" s__law_fraction ["_law_cell_here", "_law_most"]
  f__law_number : Df K mg "_law_number" s__law_number ["_law_cell_here", "_law_most"]
  f__law_curve : Df K mg "_law_curve" s__law_curve ["_law_cell_here"]
  f__law_fraction_text : Df K mg "_law_fraction_text" s__law_fraction_text ["_law_one"]
  f__law_point_text : Df K mg "_law_point_text" s__law_point_text ["_law_point"]
  f__law_curve_text : Df K mg "_law_curve_text" s__law_curve_text ["_law_curve_here"]
  f__law_read : Df K mg "_law_read" s__law_read ["_law_kind", "_law_here"]
  f_law : Df K mg "law" s_law ["_law_script"]
  z_abs : mg "abs" = none
  z_all : mg "all" = none
  z_bool : mg "bool" = none
  z_int : mg "int" = none
  z_isinstance : mg "isinstance" = none
  z_len : mg "len" = none
  z_range : mg "range" = none
  z_str : mg "str" = none
  z_tuple : mg "tuple" = none
  z_zip : mg "zip" = none
  c_GREATEST : ∃ t, mg "GREATEST" = some (.int 30 t)
  c_FIGURES : ∃ t, mg "FIGURES" = some (.str "0123456789" t)

theorem Top.g_GREATEST {X : Cx} {F0 H0 : Hp} {pos : Pos} (T : Top X.K X.mg X.base) (hg : Gl X "GREATEST") : PD X F0 H0 (.Name "GREATEST" pos) (dC (.int 30)) := by
  obtain ⟨t, h⟩ := T.c_GREATEST
  exact pd_glob (v := .int 30) hg h ⟨t, rfl⟩ fun _ => .int _
theorem Top.g_FIGURES {X : Cx} {F0 H0 : Hp} {pos : Pos} (T : Top X.K X.mg X.base) (hg : Gl X "FIGURES") : PD X F0 H0 (.Name "FIGURES" pos) (dC (.str "0123456789")) := by
  obtain ⟨t, h⟩ := T.c_FIGURES
  exact pd_glob (v := .str "0123456789") hg h ⟨t, rfl⟩ fun _ => .str _

section
variable {P : Program} {w : World} {K : PySem.W.Frag} {mg : Str → Option Value} {base : Heap}

abbrev N_fraction_text : List Str := ["one"]
theorem sc_fraction_text : FnScope N_fraction_text ["one"] (defScope s_fraction_text) := ⟨rfl, rfl, rfl, by decide +kernel, rfl, by decide +kernel, by decide +kernel⟩


def t_fraction_text : List D → (D → Prop) → Prop := fun ds Q => ∃ q : Rat, ds = [frD q] ∧ q.num.natAbs < 10 ^ 6 ∧ q.den < 10 ^ 6 ∧ Q (.str (frT q))
theorem C_fraction_text (T : Top K mg base) : Has P w K mg base 1 "fraction_text" 1 t_fraction_text := by
  refine Df.has T.f_fraction_text sc_fraction_text rfl (fun cdv f A outer s H E F0 hr => (pssd_cons (psd_if (ptd_cmp (o_eq hr.units) (pj_ix o_ix (dv 0) pd_int) pd_int) (pssd_one (psd_ret (pj_callTy c_str rfl T.z_str (by decide +kernel) (pj_ix o_ix (dv 0) pd_int)))) pssd_nil)
  ((pssd_one (psd_ret (pj_op o_addS (pj_op o_addS (pj_callTy c_str rfl T.z_str (by decide +kernel) (pj_ix o_ix (dv 0) pd_int)) pd_str) (pj_callTy c_str rfl T.z_str (by decide +kernel) (pj_ix o_ix (dv 0) pd_int)))))))) ?_
  rintro ds Q hl ⟨r, rfl, h1, h2, q⟩
  have l1 := strZ_len h1
  have h2' : (r.den : Int).natAbs < 10 ^ 6 := by simpa using h2
  have l2 := strZ_len h2'
  walk_at "dl"
  rw [show Str.ofString (toString r.num) = strZ r.num from rfl, show Str.ofString (toString (r.den : Int)) = strZ r.den from rfl]
  unfold frT at q
  by_cases hd : r.den = 1
  · rw [if_pos hd] at q
    rw [if_pos (by simp [hd])]
    exact ⟨log_Z h1, q⟩
  · rw [if_neg hd] at q
    rw [if_neg (by simpa using fun e => hd (by omega))]
    exact ⟨log_Z h1, small_line (by rw [len_sl]; omega), log_Z h2', small_line (by rw [lenA, len_sl]; omega), q⟩

abbrev N_curve_text : List Str := ["curve", "one"]
theorem sc_curve_text : FnScope N_curve_text ["curve"] (defScope s_curve_text) := ⟨rfl, rfl, rfl, by decide +kernel, rfl, by decide +kernel, by decide +kernel⟩


def t_curve_text : List D → (D → Prop) → Prop := fun ds Q => ∃ a b c : Int, ds = [crD a b c] ∧ a.natAbs < 10 ^ 6 ∧ b.natAbs < 10 ^ 6 ∧ c.natAbs < 10 ^ 6 ∧ Q (.str (crT a b c))
theorem C_curve_text (T : Top K mg base) : Has P w K mg base 1 "curve_text" 1 t_curve_text := by
  refine Df.has T.f_curve_text sc_curve_text rfl (fun cdv f A outer s H E F0 hr => (pssd_one (psd_ret (pd_join pd_str (PN.pl (pn_lc (own := [("one", 1)]) rfl sc_curve_text.nd (PID.weak (pid_tup (dv 0))) (blkOk_by (N := N_curve_text) (sc := defScope s_curve_text) (by decide +kernel)) (fun _ _ _ _ _ => (pgd_name (vs := ([("one", 1)].map (·.2))) (i := 1) sc_curve_text.nd rfl (by first | exact Or.inl rfl | exact Or.inr rfl))) (fun _ _ _ _ _ => ptsd_nil) (fun _ _ _ _ _ => (pj_callTy c_str rfl T.z_str (by decide +kernel) (dv 1))))))))) ?_
  rintro ds Q hl ⟨a, b, c, rfl, ha, hb, hc, q⟩
  have la := strZ_len ha
  have lb := strZ_len hb
  have lc := strZ_len hc
  unfold crD
  unfold dLc
  walk_at "dl"
  refine lcGo_map (f := fun d => match d with | .int i => .str (strZ i) | d => d) _ [] (fun z hz R hR => ?_) ?_
  · simp only [List.mem_cons, List.not_mem_nil, or_false] at hz
    rcases hz with rfl | rfl | rfl
    · walk_at "dl"
      exact ⟨log_Z ha, hR⟩
    · walk_at "dl"
      exact ⟨log_Z hb, hR⟩
    · walk_at "dl"
      exact ⟨log_Z hc, hR⟩
  · refine ⟨[strZ a, strZ b, strZ c], rfl, ?_, ?_⟩
    · simp only [List.map_cons, List.map_nil, List.sum_cons, List.sum_nil, List.length_cons, List.length_nil, len_sp]
      omega
    · rw [join3]
      exact q

abbrev N_point_text : List Str := ["point"]
theorem sc_point_text : FnScope N_point_text ["point"] (defScope s_point_text) := ⟨rfl, rfl, rfl, by decide +kernel, rfl, by decide +kernel, by decide +kernel⟩


def t_point_text : List D → (D → Prop) → Prop := fun ds Q => ∃ p q : Rat, ds = [.tup [frD p, frD q]] ∧ p.num.natAbs < 10 ^ 6 ∧ p.den < 10 ^ 6 ∧ q.num.natAbs < 10 ^ 6 ∧ q.den < 10 ^ 6 ∧ Q (.str (ptT p q))
theorem C_point_text (T : Top K mg base) : Has P w K mg base 2 "point_text" 1 t_point_text := by
  refine Df.has T.f_point_text sc_point_text rfl (fun cdv f A outer s H E F0 hr => (pssd_one (psd_ret (pj_op o_addS (pj_op o_addS (pd_fn (C_fraction_text T) (hr.mono (by decide)) (pad_cons (pj_ix o_ix (dv 0) pd_int) pad_nil)) pd_str) (pd_fn (C_fraction_text T) (hr.mono (by decide)) (pad_cons (pj_ix o_ix (dv 0) pd_int) pad_nil)))))) ?_
  rintro ds Q hl ⟨p, r, rfl, h1, h2, h3, h4, q⟩
  have l1 := frT_len h1 h2
  have l2 := frT_len h3 h4
  walk_at "dl"
  refine ⟨p, rfl, h1, h2, _, rfl, small_line (by rw [len_sp]; omega), r, rfl, h3, h4, _, rfl, small_line (by rw [lenA, len_sp]; omega), ?_⟩
  exact q

abbrev N_is_whole : List Str := ["thing"]
theorem sc_is_whole : FnScope N_is_whole ["thing"] (defScope s_is_whole) := ⟨rfl, rfl, rfl, by decide +kernel, rfl, by decide +kernel, by decide +kernel⟩


def t_is_whole : List D → (D → Prop) → Prop := fun ds Q => ∃ (n : Nat) (d : D), ds = [d] ∧ thD n d = true ∧ Q (.bl (isWh d))
theorem C_is_whole (T : Top K mg base) : Has P w K mg base 1 "is_whole" 1 t_is_whole := by
  refine Df.has T.f_is_whole sc_is_whole rfl (fun cdv f A outer s H E F0 hr => (pssd_one (psd_ret (pd_and (pd_isi (T := "int") rfl T.z_isinstance rfl T.z_int (by decide +kernel) (dv 0)) (pd_one (pd_not (pd_isi (T := "bool") rfl T.z_isinstance rfl T.z_bool (by decide +kernel) (dv 0)))))))) ?_
  rintro ds Q hl ⟨n, d, rfl, hd, q⟩
  cases d with
  | dct l => simp [thD] at hd
  | scr l => simp [thD] at hd
  | exc l => simp [thD] at hd
  | _ =>
    walk_at "dl"
    exact q

abbrev N_common : List Str := ["one", "other"]
theorem sc_common : FnScope N_common ["one", "other"] (defScope s_common) := ⟨rfl, rfl, rfl, by decide +kernel, rfl, by decide +kernel, by decide +kernel⟩


def t_common : List D → (D → Prop) → Prop := fun ds Q => ∃ a b : Int, ds = [.int a, .int b] ∧ Q (.int (Int.gcd a b))
theorem C_common (T : Top K mg base) : Has P w K mg base 1 "common" 2 t_common := by
  refine Df.has T.f_common sc_common rfl (fun cdv f A outer s H E F0 hr => (pssd_cons (psd_par (i := 0) (j := 1) rfl sc_common.nd rfl rfl (by decide) rfl rfl (pad_cons (pj_callB c_abs rfl T.z_abs (by decide +kernel) (dv 0)) (pad_cons (pj_callB c_abs rfl T.z_abs (by decide +kernel) (dv 1)) pad_nil)))
  ((pssd_cons (psd_while PassesOwn.never (ptd_tru (dv 1)) (pssd_one (psd_par (i := 0) (j := 1) rfl sc_common.nd rfl rfl (by decide) rfl rfl (pad_cons (dv 1) (pad_cons (pj_op o_mod (dv 0) (dv 1)) pad_nil)))))
  ((pssd_one (psd_ret (dv 0)))))))) ?_
  rintro ds Q hl ⟨a, b, rfl, q⟩
  walk_at "dl"
  refine dWhile_st (fun (p : Nat × Nat) => [some (.d (.int p.1)), some (.d (.int p.2))]) (fun p => Nat.gcd p.1 p.2 = Int.gcd a b) (fun p => p.2) (a.natAbs, b.natAbs) rfl rfl ?_
  rintro ⟨x, y⟩ hg
  walk_at "dl"
  dsimp only at hg
  by_cases h : y = 0
  · subst h
    rw [Nat.gcd_zero_right] at hg
    subst hg
    simpa using q
  · rw [if_pos (by first | omega | (simp; omega))]
    refine ⟨by omega, x % y, Nat.mod_lt _ (by omega), (y, x % y), rfl, Int.natCast_emod x y |>.symm, ?_, rfl⟩
    rw [← hg, Nat.gcd_comm x y, Nat.gcd_rec y x, Nat.gcd_comm]

abbrev N_is_fraction : List Str := ["thing", "one"]
theorem sc_is_fraction : FnScope N_is_fraction ["thing"] (defScope s_is_fraction) := ⟨rfl, rfl, rfl, by decide +kernel, rfl, by decide +kernel, by decide +kernel⟩


def t_is_fraction : List D → (D → Prop) → Prop := fun ds Q => ∃ (n : Nat) (d : D), ds = [d] ∧ thD n d = true ∧ Q (.bl (isFrB d))
theorem C_is_fraction (T : Top K mg base) : Has P w K mg base 2 "is_fraction" 1 t_is_fraction := by
  refine Df.has T.f_is_fraction sc_is_fraction rfl (fun cdv f A outer s H E F0 hr => (pssd_cons (psd_if (PWD.pt (pwd_or (ptd_not (ptd_val (pd_isi (T := "tuple") rfl T.z_isinstance rfl T.z_tuple (by decide +kernel) (dv 0)))) (pwd_or (ptd_cmp (o_ne hr.units) (pj_callB c_len rfl T.z_len (by decide +kernel) (dv 0)) pd_int) (pwd_or1 (ptd_not (ptd_val (pj_callB (c_all rfl) rfl T.z_all (by decide +kernel) (PN.pl (pn_lc (own := [("one", 1)]) rfl sc_is_fraction.nd (PID.weak (pid_tup (dv 0))) (blkOk_by (N := N_is_fraction) (sc := defScope s_is_fraction) (by decide +kernel)) (fun _ _ _ _ _ => (pgd_name (vs := ([("one", 1)].map (·.2))) (i := 1) sc_is_fraction.nd rfl (by first | exact Or.inl rfl | exact Or.inr rfl))) (fun _ _ _ _ _ => ptsd_nil) (fun _ _ _ _ _ => (pd_fn (C_is_whole T) (hr.mono (by decide)) (pad_cons (dv 1) pad_nil)))))))))))) (pssd_one (psd_ret pd_bl)) pssd_nil)
  ((pssd_one (psd_ret (pd_and (pd_cmp o_gt (pj_ix o_ix (dv 0) pd_int) pd_int) (pd_one (pd_cmp (o_eq hr.units) (pd_fn (C_common T) (hr.mono (by decide)) (pad_cons (pj_ix o_ix (dv 0) pd_int) (pad_cons (pj_ix o_ix (dv 0) pd_int) pad_nil))) pd_int)))))))) ?_
  rintro ds Q hl ⟨n, d, rfl, hd, q⟩
  cases d with
  | dct l => simp [thD] at hd
  | scr l => simp [thD] at hd
  | exc l => simp [thD] at hd
  | tup l =>
    obtain ⟨h1, h2⟩ := thD_tup hd
    walk_at "dl"
    by_cases hl2 : l.length = 2
    · obtain ⟨x, y, rfl⟩ := len2 hl2
      rw [if_neg (by simp)]
      unfold dLc
      walk_at "dl"
      refine lcGo_map (f := fun d => .bl (isWh d)) _ [] ?_ ?_
      · intro z hz R hR
        walk_at "dl"
        exact ⟨n - 1, z, rfl, h2 z hz, hR⟩
      · refine ⟨[isWh x, isWh y], rfl, ?_⟩
        rw [show ([isWh x, isWh y].all id) = (isWh x && isWh y) by simp]
        cases hx : isWh x with
        | false =>
          have e : isFrB (.tup [x, y]) = false := by
            cases x <;> first | rfl | cases hx
          rw [e] at q
          exact q
        | true =>
          cases hy : isWh y with
          | false =>
            have e : isFrB (.tup [x, y]) = false := by
              cases y <;> first | (cases x <;> rfl) | cases hy
            rw [e] at q
            exact q
          | true =>
            cases x <;> first | cases hx | skip
            cases y <;> first | cases hy | skip
            rename_i a b
            rw [if_neg (by decide)]
            walk_at "dl"
            have e : isFrB (.tup [.int a, .int b]) = (decide (0 < b) && (Int.gcd a b == 1)) := rfl
            rw [e] at q
            by_cases hb : 0 < b
            · rw [if_pos hb]
              rw [decide_eq_true hb, Bool.true_and] at q
              refine ⟨a, b, rfl, rfl, ?_⟩
              rw [eqD_int]
              have e2 : ((Int.gcd a b : Int) == 1) = (Int.gcd a b == 1) := by
                rw [Bool.beq_eq_decide_eq, Bool.beq_eq_decide_eq]
                exact decide_eq_decide.mpr (by omega)
              rw [e2]
              exact q
            · rw [decide_eq_false hb] at q
              rw [if_neg hb]
              exact q
    · rw [isFrB_len hl2] at q
      rw [if_pos (by simp; omega)]
      exact q
  | _ =>
    walk_at "dl"
    exact q

abbrev N_is_curve : List Str := ["thing", "one"]
theorem sc_is_curve : FnScope N_is_curve ["thing"] (defScope s_is_curve) := ⟨rfl, rfl, rfl, by decide +kernel, rfl, by decide +kernel, by decide +kernel⟩


def t_is_curve : List D → (D → Prop) → Prop := fun ds Q => ∃ (n : Nat) (d : D), ds = [d] ∧ thD n d = true ∧ n ≤ 60 ∧ Q (.bl (isCvB d))
theorem C_is_curve (T : Top K mg base) : Has P w K mg base 2 "is_curve" 1 t_is_curve := by
  refine Df.has T.f_is_curve sc_is_curve rfl (fun cdv f A outer s H E F0 hr => (pssd_cons (psd_if (PWD.pt (pwd_or (ptd_not (ptd_val (pd_isi (T := "tuple") rfl T.z_isinstance rfl T.z_tuple (by decide +kernel) (dv 0)))) (pwd_or1 (ptd_cmp (o_ne hr.units) (pj_callB c_len rfl T.z_len (by decide +kernel) (dv 0)) pd_int)))) (pssd_one (psd_ret pd_bl)) pssd_nil)
  ((pssd_one (psd_ret (pj_callB (c_all rfl) rfl T.z_all (by decide +kernel) (PN.pl (pn_lc (own := [("one", 1)]) rfl sc_is_curve.nd (PID.weak (pid_tup (dv 0))) (blkOk_by (N := N_is_curve) (sc := defScope s_is_curve) (by decide +kernel)) (fun _ _ _ _ _ => (pgd_name (vs := ([("one", 1)].map (·.2))) (i := 1) sc_is_curve.nd rfl (by first | exact Or.inl rfl | exact Or.inr rfl))) (fun _ _ _ _ _ => ptsd_nil) (fun _ _ _ _ _ => (pd_and (pd_fn (C_is_whole T) (hr.mono (by decide)) (pad_cons (dv 1) pad_nil)) (pd_and (pd_cmp (o_ne hr.units) (dv 1) pd_int) (pd_one (pd_cmp o_le (pj_callB c_abs rfl T.z_abs (by decide +kernel) (dv 1)) (T.g_GREATEST rfl)))))))))))))) ?_
  rintro ds Q hl ⟨n, d, rfl, hd, hn60, q⟩
  cases d with
  | dct l => simp [thD] at hd
  | scr l => simp [thD] at hd
  | exc l => simp [thD] at hd
  | tup l =>
    obtain ⟨h1, h2⟩ := thD_tup hd
    have e : isCvB (.tup l) = (l.length == 3 && l.all cvE) := rfl
    rw [e] at q
    walk_at "dl"
    by_cases hl3 : l.length = 3
    · rw [if_neg (by simp; omega)]
      unfold dLc
      walk_at "dl"
      refine ⟨Nat.le_trans (show _ ≤ 1200 by omega) (by decide), lcGo_map (f := fun d => .bl (cvE d)) _ [] ?_ ?_⟩
      · intro z hz R hR
        walk_at "dl"
        refine ⟨n - 1, z, rfl, h2 z hz, ?_⟩
        have hz' := h2 z hz
        cases z with
        | dct l => simp [thD] at hz'
        | scr l => simp [thD] at hz'
        | exc l => simp [thD] at hz'
        | int i =>
          refine ⟨true, rfl, ?_⟩
          rw [if_pos rfl]
          refine ⟨rfl, ?_⟩
          rw [eqD_int]
          have e : cvE (.int i) = decide (i ≠ 0 ∧ i.natAbs ≤ 30) := rfl
          rw [e] at hR
          by_cases hi : i = 0
          · rw [if_neg (by simpa using hi)]
            rw [decide_eq_false (by omega)] at hR
            exact hR
          · rw [if_pos (by simpa using hi)]
            refine ⟨_, rfl, ?_⟩
            have e3 : decide ((i.natAbs : Int) ≤ 30) = decide (i ≠ 0 ∧ i.natAbs ≤ 30) := decide_eq_decide.mpr (by omega)
            rw [e3]
            exact hR
        | _ =>
          refine ⟨false, rfl, ?_⟩
          rw [if_neg (by decide)]
          exact hR
      · rw [List.nil_append]
        refine ⟨l.map cvE, allbl cvE l, ?_⟩
        rw [List.all_map]
        rw [show (l.length == 3) = true by simp [hl3], Bool.true_and] at q
        exact q
    · rw [if_pos (by simp; omega)]
      rw [show (l.length == 3) = false by simp [hl3], Bool.false_and] at q
      exact q
  | _ =>
    walk_at "dl"
    exact q

abbrev N_must : List Str := ["truth"]
theorem sc_must : FnScope N_must ["truth"] (defScope s_must) := ⟨rfl, rfl, rfl, by decide +kernel, rfl, by decide +kernel, by decide +kernel⟩


def t_must : List D → (D → Prop) → Prop := fun ds Q => ds = [.bl true] ∧ Q .non
theorem C_must (T : Top K mg base) : Has P w K mg base 1 "must" 1 t_must := by
  refine Df.has T.f_must sc_must rfl (fun cdv f A outer s H E F0 hr => (pssd_one (psd_if (ptd_not (ptd_val (dv 0))) (pssd_one psd_never) pssd_nil))) ?_
  rintro ds Q hl ⟨rfl, q⟩
  walk_at "dl"
  exact q

abbrev N_number_in : List Str := ["word", "figures", "sign"]
theorem sc_number_in : FnScope N_number_in ["word"] (defScope s_number_in) := ⟨rfl, rfl, rfl, by decide +kernel, rfl, by decide +kernel, by decide +kernel⟩


def t_number_in : List D → (D → Prop) → Prop := fun ds Q => ∃ z : Int, ds = [.str (strZ z)] ∧ z.natAbs < 10 ^ 6 ∧ Q (.int z)
theorem C_number_in (T : Top K mg base) : Has P w K mg base 2 "number_in" 1 t_number_in := by
  refine Df.has T.f_number_in sc_number_in rfl (fun cdv f A outer s H E F0 hr => (pssd_cons (psd_set (i := 1) sc_number_in.nd rfl (by first | exact Or.inl rfl | exact Or.inr rfl) (dv 0))
  ((pssd_cut (psd_if (ptd_cmp (o_eq hr.units) (pd_slS (dv 0) pod_none (pod_some pd_int)) pd_str) (pssd_one (psd_set (i := 1) sc_number_in.nd rfl (by first | exact Or.inl rfl | exact Or.inr rfl) (pd_slS (dv 0) (pod_some pd_int) pod_none))) pssd_nil)
  ((pssd_cons (psd_expr (pd_fn (C_must T) (hr.mono (by decide)) (pad_cons (pd_and (pd_cmp (o_ne hr.units) (dv 1) pd_str) (pd_one (pj_callB (c_all rfl) rfl T.z_all (by decide +kernel) (PN.pl (pn_lc (own := [("sign", 2)]) rfl sc_number_in.nd (PID.weak (pid_str (dv 1))) (blkOk_by (N := N_number_in) (sc := defScope s_number_in) (by decide +kernel)) (fun _ _ _ _ _ => (pgd_name (vs := ([("sign", 2)].map (·.2))) (i := 2) sc_number_in.nd rfl (by first | exact Or.inl rfl | exact Or.inr rfl))) (fun _ _ _ _ _ => ptsd_nil) (fun _ _ _ _ _ => (pd_cmp o_inS (dv 2) (T.g_FIGURES rfl)))))))) pad_nil)))
  ((pssd_one (psd_ret (pj_callTy c_intS rfl T.z_int (by decide +kernel) (dv 0))))))))))) ?_
  rintro ds Q hl ⟨z, rfl, h1, q⟩
  have lz := strZ_len h1
  walk_at "dl"
  refine ⟨fun ρ => ∃ w, ρ = [some (.d (.str (strZ z))), some (.d (.str w)), none] ∧ figs w ∧ w.length ≤ 1000, ?_, ?_⟩
  · walk_at "dl"
    refine ⟨small_line (by omega), ?_⟩
    rcases z_cases z with ⟨n, hz, e⟩ | ⟨k, hz, e⟩
    · have hne := TL.numL_ne n
      cases e2 : TL.numL n with
      | nil => exact absurd e2 hne
      | cons c r =>
        rw [e2] at e
        have hd := TL.numL_digits n
        rw [e2] at hd
        have hc := hd c List.mem_cons_self
        rw [(cut_one e).1, dash_no (by omega), if_neg (by decide)]
        exact ⟨figs_mk hd (by simp) e, by omega⟩
    · rw [(cut_one e).1, dash_yes, if_pos rfl, (cut_one e).2]
      refine ⟨small_line (by omega), figs_mk (TL.numL_digits _) (TL.numL_ne _) rfl, ?_⟩
      have hl2 : (strZ z).length = (TL.numL (k + 1)).length + 1 := by rw [TL.len_tl, e, List.length_cons]
      show (TL.numL (k + 1)).toArray.size ≤ 1000
      rw [List.size_toArray]
      omega
  · rintro ρ ⟨w, rfl, ⟨hw1, hw2⟩, hw3⟩
    unfold dLc
    walk_at "dl"
    rw [if_pos (beq_eq_false_iff_ne.mpr hw1)]
    refine ⟨by rw [sgn_len]; exact small_line hw3, lcGo_map (f := fun _ => .bl true) _ [] (fun d hd R hR => ?_) ?_⟩
    · obtain ⟨c, hc, rfl⟩ := sgn_mem hd
      walk_at "dl"
      refine ⟨c, rfl, ?_⟩
      rw [decide_eq_true (fig_mem (hw2 c hc))]
      exact hR
    · refine ⟨(sgnL w).map fun _ => true, by rw [List.map_map]; rfl, ?_⟩
      have e : ((sgnL w).map fun _ => true).all id = true := by rw [List.all_map]; exact List.all_eq_true.mpr fun _ _ => rfl
      rw [e]
      exact ⟨rfl, z, intText_Z h1, by omega, q⟩

abbrev N_fraction_in : List Str := ["word", "upper", "between", "lower"]
theorem sc_fraction_in : FnScope N_fraction_in ["word"] (defScope s_fraction_in) := ⟨rfl, rfl, rfl, by decide +kernel, rfl, by decide +kernel, by decide +kernel⟩


def t_fraction_in : List D → (D → Prop) → Prop := fun ds Q => ∃ q : Rat, ds = [.str (frT q)] ∧ q.num.natAbs < 10 ^ 6 ∧ q.den < 10 ^ 6 ∧ Q (frD q)
theorem C_fraction_in (T : Top K mg base) : Has P w K mg base 3 "fraction_in" 1 t_fraction_in := by
  refine Df.has T.f_fraction_in sc_fraction_in rfl (fun cdv f A outer s H E F0 hr => (pssd_cons (psd_asg (pd_partition (dv 0) pd_str) (pgd_tup (n := 3) rfl (pgsd_cons (pgd_name (vs := allV) (i := 1) sc_fraction_in.nd rfl (by first | exact Or.inl rfl | exact Or.inr rfl)) (pgsd_cons (pgd_name (vs := allV) (i := 2) sc_fraction_in.nd rfl (by first | exact Or.inl rfl | exact Or.inr rfl)) (pgsd_cons (pgd_name (vs := allV) (i := 3) sc_fraction_in.nd rfl (by first | exact Or.inl rfl | exact Or.inr rfl)) pgsd_nil)))))
  ((pssd_cons (psd_if (ptd_cmp (o_eq hr.units) (dv 2) pd_str) (pssd_one (psd_ret (pd_tup (pad_cons (pd_fn (C_number_in T) (hr.mono (by decide)) (pad_cons (dv 1) pad_nil)) (pad_cons pd_int pad_nil))))) pssd_nil)
  ((pssd_one (psd_ret (pd_tup (pad_cons (pd_fn (C_number_in T) (hr.mono (by decide)) (pad_cons (dv 1) pad_nil)) (pad_cons (pd_fn (C_number_in T) (hr.mono (by decide)) (pad_cons (dv 3) pad_nil)) pad_nil)))))))))) ?_
  rintro ds Q hl ⟨r, rfl, h1, h2, q⟩
  have l1 := frT_len h1 h2
  have h2' : (r.den : Int).natAbs < 10 ^ 6 := by simpa using h2
  walk_at "dl"
  refine ⟨by decide +kernel, small_line (by omega), ?_⟩
  by_cases hd : r.den = 1
  · rw [part_one hd]
    dsimp only
    rw [if_pos (by decide +kernel)]
    refine ⟨r.num, rfl, h1, ?_⟩
    have e : frD r = .tup [.int r.num, .int 1] := by
      unfold frD
      rw [hd]
      rfl
    rw [e] at q
    exact q
  · rw [part_two hd]
    dsimp only
    rw [if_neg (by decide +kernel)]
    exact ⟨r.num, rfl, h1, r.den, rfl, h2', q⟩

abbrev N_read_curve : List Str := ["text", "found", "word"]
theorem sc_read_curve : FnScope N_read_curve ["text"] (defScope s_read_curve) := ⟨rfl, rfl, rfl, by decide +kernel, rfl, by decide +kernel, by decide +kernel⟩


def t_read_curve : List D → (D → Prop) → Prop := fun ds Q => ∃ a b c : Int, ds = [.str (crT a b c)] ∧ a ≠ 0 ∧ b ≠ 0 ∧ c ≠ 0 ∧ a.natAbs ≤ 30 ∧ b.natAbs ≤ 30 ∧ c.natAbs ≤ 30 ∧ Q (crD a b c)
theorem C_read_curve (T : Top K mg base) : Has P w K mg base 3 "read_curve" 1 t_read_curve := by
  refine Df.has T.f_read_curve sc_read_curve rfl (fun cdv f A outer s H E F0 hr => (pssd_cons (psd_set (i := 1) sc_read_curve.nd rfl (by first | exact Or.inl rfl | exact Or.inr rfl) (pj_callTy c_tupL rfl T.z_tuple (by decide +kernel) (PN.pl (pn_lc (own := [("word", 2)]) rfl sc_read_curve.nd (PID.weak (pid_lst (PN.pd (pn_split (dv 0) pd_str)))) (blkOk_by (N := N_read_curve) (sc := defScope s_read_curve) (by decide +kernel)) (fun _ _ _ _ _ => (pgd_name (vs := ([("word", 2)].map (·.2))) (i := 2) sc_read_curve.nd rfl (by first | exact Or.inl rfl | exact Or.inr rfl))) (fun _ _ _ _ _ => ptsd_nil) (fun _ _ _ _ _ => (pd_fn (C_number_in T) (hr.mono (by decide)) (pad_cons (dv 2) pad_nil)))))))
  ((pssd_cons (psd_expr (pd_fn (C_must T) (hr.mono (by decide)) (pad_cons (pd_and (pd_fn (C_is_curve T) (hr.mono (by decide)) (pad_cons (dv 1) pad_nil)) (pd_one (pd_cmp (o_eq hr.units) (pd_fn (C_curve_text T) (hr.mono (by decide)) (pad_cons (dv 1) pad_nil)) (dv 0)))) pad_nil)))
  ((pssd_one (psd_ret (dv 1)))))))) ?_
  rintro ds Q hl ⟨a, b, c, rfl, h1, h2, h3, h4, h5, h6, q⟩
  have la := strZ_len (z := a) (by omega)
  have lb := strZ_len (z := b) (by omega)
  have lc := strZ_len (z := c) (by omega)
  have lt : (crT a b c).length ≤ 30 := by
    unfold crT
    rw [lenA, lenA, lenA, lenA, len_sp]
    omega
  unfold dLc
  walk_at "dl"
  rw [split_crT]
  refine ⟨by decide +kernel, small_line (by omega), by rw [List.length_map]; exact small_line (by simp), ?_⟩
  simp only [List.map_cons, List.map_nil, lcGo]
  walk_at "dl"
  refine ⟨a, rfl, by omega, b, rfl, by omega, c, rfl, by omega, ?_⟩
  refine ⟨1, _, rfl, th_crQ h4 h5 h6, by decide, true, congrArg D.bl (cv_ok h1 h2 h3 h4 h5 h6), ?_⟩
  rw [if_pos rfl]
  refine ⟨a, b, c, rfl, by omega, by omega, by omega, rfl, ?_⟩
  rw [eqD_str, beq_self_eq_true]
  exact ⟨rfl, q⟩

abbrev N_read_point : List Str := ["text", "found", "word", "one"]
theorem sc_read_point : FnScope N_read_point ["text"] (defScope s_read_point) := ⟨rfl, rfl, rfl, by decide +kernel, rfl, by decide +kernel, by decide +kernel⟩


def t_read_point : List D → (D → Prop) → Prop := fun ds Q => ∃ p q : Rat, ds = [.str (ptT p q)] ∧ p.num.natAbs < 10 ^ 6 ∧ p.den < 10 ^ 6 ∧ q.num.natAbs < 10 ^ 6 ∧ q.den < 10 ^ 6 ∧ Q (.tup [frD p, frD q])
theorem C_read_point (T : Top K mg base) : Has P w K mg base 4 "read_point" 1 t_read_point := by
  refine Df.has T.f_read_point sc_read_point rfl (fun cdv f A outer s H E F0 hr => (pssd_cons (psd_set (i := 1) sc_read_point.nd rfl (by first | exact Or.inl rfl | exact Or.inr rfl) (pj_callTy c_tupL rfl T.z_tuple (by decide +kernel) (PN.pl (pn_lc (own := [("word", 2)]) rfl sc_read_point.nd (PID.weak (pid_lst (PN.pd (pn_split (dv 0) pd_str)))) (blkOk_by (N := N_read_point) (sc := defScope s_read_point) (by decide +kernel)) (fun _ _ _ _ _ => (pgd_name (vs := ([("word", 2)].map (·.2))) (i := 2) sc_read_point.nd rfl (by first | exact Or.inl rfl | exact Or.inr rfl))) (fun _ _ _ _ _ => ptsd_nil) (fun _ _ _ _ _ => (pd_fn (C_fraction_in T) (hr.mono (by decide)) (pad_cons (dv 2) pad_nil)))))))
  ((pssd_cons (psd_expr (pd_fn (C_must T) (hr.mono (by decide)) (pad_cons (pd_and (pd_cmp (o_eq hr.units) (pj_callB c_len rfl T.z_len (by decide +kernel) (dv 1)) pd_int) (pd_one (pj_callB (c_all rfl) rfl T.z_all (by decide +kernel) (PN.pl (pn_lc (own := [("one", 3)]) rfl sc_read_point.nd (PID.weak (pid_tup (dv 1))) (blkOk_by (N := N_read_point) (sc := defScope s_read_point) (by decide +kernel)) (fun _ _ _ _ _ => (pgd_name (vs := ([("one", 3)].map (·.2))) (i := 3) sc_read_point.nd rfl (by first | exact Or.inl rfl | exact Or.inr rfl))) (fun _ _ _ _ _ => ptsd_nil) (fun _ _ _ _ _ => (pd_fn (C_is_fraction T) (hr.mono (by decide)) (pad_cons (dv 3) pad_nil)))))))) pad_nil)))
  ((pssd_cons (psd_expr (pd_fn (C_must T) (hr.mono (by decide)) (pad_cons (pd_cmp (o_eq hr.units) (pd_fn (C_point_text T) (hr.mono (by decide)) (pad_cons (dv 1) pad_nil)) (dv 0)) pad_nil)))
  ((pssd_one (psd_ret (dv 1)))))))))) ?_
  rintro ds Q hl ⟨p, r, rfl, h1, h2, h3, h4, q⟩
  have l1 := frT_len h1 h2
  have l2 := frT_len h3 h4
  have lt : (ptT p r).length ≤ 40 := by
    unfold ptT
    rw [lenA, lenA, len_sp]
    omega
  unfold dLc
  walk_at "dl"
  rw [split_ptT]
  refine ⟨by decide +kernel, small_line (by omega), by rw [List.length_map]; exact small_line (by simp), ?_⟩
  simp only [List.map_cons, List.map_nil, lcGo]
  walk_at "dl"
  refine ⟨p, rfl, h1, h2, r, rfl, h3, h4, ?_⟩
  dsimp only
  rw [if_pos (by decide)]
  simp only [lcGo]
  walk_at "dl"
  refine ⟨1, _, rfl, th_frQ h1 h2, 1, _, rfl, th_frQ h3 h4, [isFrB (frD p), isFrB (frD r)], rfl, ?_⟩
  rw [isFrB_fr, isFrB_fr]
  refine ⟨rfl, p, r, rfl, h1, h2, h3, h4, rfl, ?_⟩
  rw [eqD_str, beq_self_eq_true]
  exact ⟨rfl, q⟩

abbrev N__law_cell : List Str := ["_law_script", "_law_k"]
theorem sc__law_cell : FnScope N__law_cell ["_law_script", "_law_k"] (defScope s__law_cell) := ⟨rfl, rfl, rfl, by decide +kernel, rfl, by decide +kernel, by decide +kernel⟩


def t__law_cell : List D → (D → Prop) → Prop := fun ds Q => ∃ (ns : List Int) (k : Int), ds = [.scr ns, .int k] ∧ 0 ≤ k ∧ ns.length ≤ 63 ∧ Q (.int (cellOf ns k.toNat))
theorem C__law_cell (T : Top K mg base) : Has P w K mg base 1 "_law_cell" 2 t__law_cell := by
  refine Df.has T.f__law_cell sc__law_cell rfl (fun cdv f A outer s H E F0 hr => (pssd_cons (psd_if (ptd_cmp o_lt (dv 1) (pj_callB c_len rfl T.z_len (by decide +kernel) (dv 0))) (pssd_one (psd_ret (pj_ix o_ix (dv 0) (dv 1)))) pssd_nil)
  ((pssd_one (psd_ret pd_int))))) ?_
  rintro ds Q hl ⟨ns, k, rfl, h0, hn, q⟩
  walk_at "dl"
  unfold cellOf at q
  by_cases h : k < ns.length
  · rw [if_pos h]
    have hk : k.toNat < ns.length := by omega
    have ek : k = ((k.toNat : Nat) : Int) := by omega
    refine ⟨_, ⟨_, by rw [ek]; exact atI_nat (List.getElem?_eq_getElem hk), rfl⟩, ?_⟩
    rw [List.getD_eq_getElem?_getD, List.getElem?_eq_getElem hk] at q
    exact q
  · rw [if_neg h]
    rw [List.getD_eq_getElem?_getD, List.getElem?_eq_none (by omega)] at q
    exact q

abbrev N__law_mix : List Str := ["_law_cell_here", "_law_prime", "_law_many", "_law_blend"]
theorem sc__law_mix : FnScope N__law_mix ["_law_cell_here", "_law_prime", "_law_many"] (defScope s__law_mix) := ⟨rfl, rfl, rfl, by decide +kernel, rfl, by decide +kernel, by decide +kernel⟩


def t__law_mix : List D → (D → Prop) → Prop := fun ds Q => ∃ c p m : Int, ds = [.int c, .int p, .int m] ∧ 0 < p ∧ p < 2 ^ 60 ∧ 0 < m ∧ Q (.int (mixOf c p m))
theorem C__law_mix (T : Top K mg base) : Has P w K mg base 1 "_law_mix" 3 t__law_mix := by
  refine Df.has T.f__law_mix sc__law_mix rfl (fun cdv f A outer s H E F0 hr => (pssd_cons (psd_set (i := 3) sc__law_mix.nd rfl (by first | exact Or.inl rfl | exact Or.inr rfl) (pj_op o_mod (pj_op o_mul (dv 0) pd_int) (dv 1)))
  ((pssd_one (psd_ret (pj_op o_mod (pj_op o_mod (pj_op o_mul (dv 3) (pj_op o_add (dv 3) pd_int)) (dv 1)) (dv 2))))))) ?_
  rintro ds Q hl ⟨c, p, m, rfl, hp, hp2, hm, q⟩
  walk_at "dl"
  have h1 := Int.emod_nonneg (c * 48271) (show p ≠ 0 by omega)
  have h2 := Int.emod_lt_of_pos (c * 48271) hp
  exact ⟨.inr (.inl (by decide)), hp, .inl (by omega), hp, hm, q⟩

abbrev N__law_same : List Str := ["_law_found", "_law_due", "_law_one", "_law_other"]
theorem sc__law_same : FnScope N__law_same ["_law_found", "_law_due"] (defScope s__law_same) := ⟨rfl, rfl, rfl, by decide +kernel, rfl, by decide +kernel, by decide +kernel⟩


def t__law_same : Nat → List D → (D → Prop) → Prop
  | 0 => fun _ _ => False
  | n + 1 => fun ds Q => ∃ d, ds = [d, d] ∧ simD n d = true ∧ Q (.bl true)
theorem C__law_same (T : Top K mg base) : ∀ n, Has P w K mg base n "_law_same" 2 (t__law_same n)
  | 0 => T.f__law_same.never
  | n + 1 => by
    have C_rec := C__law_same T n
    refine Df.has T.f__law_same sc__law_same rfl (fun cdv f A outer s H E F0 hr => (pssd_cons (psd_if (ptd_val (pd_isi (T := "tuple") rfl T.z_isinstance rfl T.z_tuple (by decide +kernel) (dv 1))) (pssd_cons (psd_if (PWD.pt (pwd_or (ptd_not (ptd_val (pd_isi (T := "tuple") rfl T.z_isinstance rfl T.z_tuple (by decide +kernel) (dv 0)))) (pwd_or1 (ptd_cmp (o_ne hr.units) (pj_callB c_len rfl T.z_len (by decide +kernel) (dv 0)) (pj_callB c_len rfl T.z_len (by decide +kernel) (dv 1)))))) (pssd_one (psd_ret pd_bl)) pssd_nil)
  ((pssd_one (psd_ret (pj_callB (c_all rfl) rfl T.z_all (by decide +kernel) (PN.pl (pn_lc (own := [("_law_one", 2), ("_law_other", 3)]) rfl sc__law_same.nd (PID.weak (pid_zipT rfl T.z_zip (dv 0) (dv 1))) (blkOk_by (N := N__law_same) (sc := defScope s__law_same) (by decide +kernel)) (fun _ _ _ _ _ => (pgd_tup (n := 2) rfl (pgsd_cons (pgd_name (vs := ([("_law_one", 2), ("_law_other", 3)].map (·.2))) (i := 2) sc__law_same.nd rfl (by first | exact Or.inl rfl | exact Or.inr rfl)) (pgsd_cons (pgd_name (vs := ([("_law_one", 2), ("_law_other", 3)].map (·.2))) (i := 3) sc__law_same.nd rfl (by first | exact Or.inl rfl | exact Or.inr rfl)) pgsd_nil)))) (fun _ _ _ _ _ => ptsd_nil) (fun _ _ _ _ _ => (pd_fn C_rec hr (pad_cons (dv 2) (pad_cons (dv 3) pad_nil))))))))))) pssd_nil)
  ((pssd_cons (psd_if (ptd_cmp o_isN (dv 1) pd_non) (pssd_one (psd_ret (pd_cmp o_isN (dv 0) pd_non))) pssd_nil)
  ((pssd_cons (psd_if (PWD.pt (pwd_or (ptd_val (pd_isi (T := "bool") rfl T.z_isinstance rfl T.z_bool (by decide +kernel) (dv 1))) (pwd_or1 (ptd_val (pd_isi (T := "bool") rfl T.z_isinstance rfl T.z_bool (by decide +kernel) (dv 0)))))) (pssd_one (psd_ret (pd_and (pd_isi (T := "bool") rfl T.z_isinstance rfl T.z_bool (by decide +kernel) (dv 1)) (pd_and (pd_isi (T := "bool") rfl T.z_isinstance rfl T.z_bool (by decide +kernel) (dv 0)) (pd_one (pd_cmp (o_eq hr.units) (dv 0) (dv 1))))))) pssd_nil)
  ((pssd_one (psd_ret (pd_and (pd_isi2 (S := "int") (T := "str") rfl T.z_isinstance rfl T.z_int (by decide +kernel) rfl T.z_str (by decide +kernel) (dv 0)) (pd_one (pd_cmp (o_eq hr.units) (dv 0) (dv 1))))))))))))) ?_
    rintro ds Q hl ⟨d, rfl, hs, q⟩
    cases d with
    | tup l =>
      cases n with
      | zero => simp [simD] at hs
      | succ n =>
        have hs : (decide (l.length ≤ 100000) && l.all (simD n)) = true := hs
        rw [Bool.and_eq_true, decide_eq_true_eq, List.all_eq_true] at hs
        walk_at "dl"
        rw [if_neg (by simp)]
        unfold dLc
        walk_at "dl"
        refine ⟨by rw [zipD_len]; exact Nat.le_trans (by omega) (show 100000 ≤ sizeLine by decide), ?_⟩
        refine lcGo_map (f := fun _ => .bl true) _ [] ?_ ?_
        · intro x hx R hR
          obtain ⟨i, hi⟩ := List.getElem?_of_mem hx
          obtain ⟨d, e, h1, h2, rfl⟩ := zipD_get hi
          rw [h1] at h2
          cases h2
          walk_at "dl"
          exact ⟨d, rfl, hs.2 d (List.mem_of_getElem? h1), hR⟩
        · refine ⟨List.replicate (zipD l l).length true, ?_, ?_⟩
          · rw [List.nil_append, List.map_replicate, List.map_const']
          · rw [List.all_replicate]
            simpa using q
    | non => walk_at "dl"; exact q
    | bl b => walk_at "dl"; simpa using q
    | int b => walk_at "dl"; simpa using q
    | str b => walk_at "dl"; simpa using q
    | lst l => simp [simD] at hs
    | dct l => simp [simD] at hs
    | scr l => simp [simD] at hs
    | exc l => simp [simD] at hs

abbrev N__law_common : List Str := ["_law_one", "_law_other"]
theorem sc__law_common : FnScope N__law_common ["_law_one", "_law_other"] (defScope s__law_common) := ⟨rfl, rfl, rfl, by decide +kernel, rfl, by decide +kernel, by decide +kernel⟩


def t__law_common : List D → (D → Prop) → Prop := fun ds Q => ∃ a b : Int, ds = [.int a, .int b] ∧ Q (.int (Int.gcd a b))
theorem C__law_common (T : Top K mg base) : Has P w K mg base 1 "_law_common" 2 t__law_common := by
  refine Df.has T.f__law_common sc__law_common rfl (fun cdv f A outer s H E F0 hr => (pssd_cons (psd_par (i := 0) (j := 1) rfl sc__law_common.nd rfl rfl (by decide) rfl rfl (pad_cons (pj_callB c_abs rfl T.z_abs (by decide +kernel) (dv 0)) (pad_cons (pj_callB c_abs rfl T.z_abs (by decide +kernel) (dv 1)) pad_nil)))
  ((pssd_cons (psd_while PassesOwn.never (ptd_cmp o_gt (dv 1) pd_int) (pssd_one (psd_par (i := 0) (j := 1) rfl sc__law_common.nd rfl rfl (by decide) rfl rfl (pad_cons (dv 1) (pad_cons (pj_op o_mod (dv 0) (dv 1)) pad_nil)))))
  ((pssd_one (psd_ret (dv 0)))))))) ?_
  rintro ds Q hl ⟨a, b, rfl, q⟩
  walk_at "dl"
  refine dWhile_st (fun (p : Nat × Nat) => [some (.d (.int p.1)), some (.d (.int p.2))]) (fun p => Nat.gcd p.1 p.2 = Int.gcd a b) (fun p => p.2) (a.natAbs, b.natAbs) rfl rfl ?_
  rintro ⟨x, y⟩ hg
  walk_at "dl"
  dsimp only at hg
  by_cases h : y = 0
  · subst h
    rw [Nat.gcd_zero_right] at hg
    subst hg
    simpa using q
  · rw [if_pos (by first | omega | (simp; omega))]
    refine ⟨by omega, x % y, Nat.mod_lt _ (by omega), (y, x % y), rfl, Int.natCast_emod x y |>.symm, ?_, rfl⟩
    rw [← hg, Nat.gcd_comm x y, Nat.gcd_rec y x, Nat.gcd_comm]

abbrev N__law_fraction : List Str := ["_law_cell_here", "_law_most", "_law_upper", "_law_lower", "_law_by"]
theorem sc__law_fraction : FnScope N__law_fraction ["_law_cell_here", "_law_most"] (defScope s__law_fraction) := ⟨rfl, rfl, rfl, by decide +kernel, rfl, by decide +kernel, by decide +kernel⟩


def t__law_fraction : List D → (D → Prop) → Prop := fun ds Q => ∃ (c : Int) (m : Nat), ds = [.int c, .int m] ∧ 0 < m ∧ m < 1000 ∧ ∀ q : Rat, q.num.natAbs ≤ m → q.den ≤ m → Q (frD q)
theorem C__law_fraction (T : Top K mg base) : Has P w K mg base 2 "_law_fraction" 2 t__law_fraction := by
  refine Df.has T.f__law_fraction sc__law_fraction rfl (fun cdv f A outer s H E F0 hr => (pssd_cons (psd_par (i := 2) (j := 3) rfl sc__law_fraction.nd rfl rfl (by decide) rfl rfl (pad_cons (pj_op o_sub (pd_fn (C__law_mix T) (hr.mono (by decide)) (pad_cons (dv 0) (pad_cons pd_int (pad_cons (pj_op o_add (pj_op o_mul pd_int (dv 1)) pd_int) pad_nil)))) (dv 1)) (pad_cons (pj_op o_add pd_int (pd_fn (C__law_mix T) (hr.mono (by decide)) (pad_cons (dv 0) (pad_cons pd_int (pad_cons (dv 1) pad_nil))))) pad_nil)))
  ((pssd_cons (psd_set (i := 4) sc__law_fraction.nd rfl (by first | exact Or.inl rfl | exact Or.inr rfl) (pd_fn (C__law_common T) (hr.mono (by decide)) (pad_cons (dv 2) (pad_cons (dv 3) pad_nil))))
  ((pssd_one (psd_ret (pd_tup (pad_cons (pj_op o_div (dv 2) (dv 4)) (pad_cons (pj_op o_div (dv 3) (dv 4)) pad_nil)))))))))) ?_
  rintro ds Q hl ⟨c, m, rfl, hm, hm2, q⟩
  walk_at "dl"
  refine ⟨.inl (by decide), _, _, _, rfl, by decide, by decide, by omega, ?_⟩
  walk_at "dl"
  refine ⟨_, _, _, rfl, by decide, by decide, by omega, ?_⟩
  walk_at "dl"
  have a1 := mixOf_nonneg (c := c) (p := 9973) (m := 2 * m + 1) (by omega)
  have a2 := mixOf_lt (c := c) (p := 9973) (m := 2 * m + 1) (by omega)
  have b1 := mixOf_nonneg (c := c) (p := 9967) (m := m) (by omega)
  have b2 := mixOf_lt (c := c) (p := 9967) (m := m) (by omega)
  generalize mixOf c 9973 (2 * m + 1) = u at a1 a2 ⊢
  generalize mixOf c 9967 m = l at b1 b2 ⊢
  refine ⟨_, _, rfl, ?_⟩
  walk_at "dl"
  have hl0 : (1 : Int) + l ≠ 0 := by omega
  have g0 := gcd_pos (u := u - m) hl0
  have g1 : (Int.gcd (u - m) (1 + l) : Int).natAbs < 2 ^ 64 := by
    rw [Int.natAbs_natCast]
    have := Nat.le_of_dvd (by omega) (Int.gcd_dvd_natAbs_right (u - m) (1 + l))
    omega
  refine ⟨by omega, divok (by omega) 64 g1, by omega, divok (by omega) 64 g1, ?_⟩
  have e := q (Rat.divInt (u - m) (1 + l)) (Nat.le_trans (divInt_num_le hl0) (by omega)) (Nat.le_trans (divInt_den_le hl0) (by omega))
  have e1 := fr_num (u := u - m) hl0
  have e2 := fr_den (u := u - m) hl0
  unfold byOf at e1 e2
  rw [if_neg (by omega), Int.fdiv_eq_ediv_of_nonneg _ (by omega)] at e1 e2
  rw [e1, e2]
  exact e

abbrev N__law_number : List Str := ["_law_cell_here", "_law_most", "_law_found"]
theorem sc__law_number : FnScope N__law_number ["_law_cell_here", "_law_most"] (defScope s__law_number) := ⟨rfl, rfl, rfl, by decide +kernel, rfl, by decide +kernel, by decide +kernel⟩


def t__law_number : List D → (D → Prop) → Prop := fun ds Q => ∃ c m : Int, ds = [.int c, .int m] ∧ 0 < m ∧ m < 2 ^ 50 ∧ Q (.int (numOf c m))
theorem C__law_number (T : Top K mg base) : Has P w K mg base 2 "_law_number" 2 t__law_number := by
  refine Df.has T.f__law_number sc__law_number rfl (fun cdv f A outer s H E F0 hr => (pssd_cons (psd_set (i := 2) sc__law_number.nd rfl (by first | exact Or.inl rfl | exact Or.inr rfl) (pj_op o_sub (pd_fn (C__law_mix T) (hr.mono (by decide)) (pad_cons (dv 0) (pad_cons pd_int (pad_cons (pj_op o_mul pd_int (dv 1)) pad_nil)))) (dv 1)))
  ((pssd_one (psd_ret (pd_if (ptd_cmp o_lt (dv 2) pd_int) (dv 2) (pj_op o_add (dv 2) pd_int))))))) ?_
  rintro ds Q hl ⟨c, m, rfl, hm, hm2, q⟩
  walk_at "dl"
  refine ⟨.inl (by decide), _, _, _, rfl, by decide, by decide, by omega, ?_⟩
  walk_at "dl"
  unfold numOf at q
  split <;> rename_i h
  · rw [if_pos h] at q; exact q
  · rw [if_neg h] at q; exact q

abbrev N__law_curve : List Str := ["_law_cell_here", "_law_a", "_law_b", "_law_c", "_law_x", "_law_y"]
theorem sc__law_curve : FnScope N__law_curve ["_law_cell_here"] (defScope s__law_curve) := ⟨rfl, rfl, rfl, by decide +kernel, rfl, by decide +kernel, by decide +kernel⟩


def t__law_curve : List D → (D → Prop) → Prop := fun ds Q => ∃ c : Int, ds = [.int c] ∧ Q (curveOf c).d
theorem C__law_curve (T : Top K mg base) : Has P w K mg base 3 "_law_curve" 1 t__law_curve := by
  refine Df.has T.f__law_curve sc__law_curve rfl (fun cdv f A outer s H E F0 hr => (pssd_cons (psd_par (i := 1) (j := 2) rfl sc__law_curve.nd rfl rfl (by decide) rfl rfl (pad_cons (pd_fn (C__law_number T) (hr.mono (by decide)) (pad_cons (dv 0) (pad_cons pd_int pad_nil))) (pad_cons (pd_fn (C__law_number T) (hr.mono (by decide)) (pad_cons (pj_op o_add (dv 0) pd_int) (pad_cons pd_int pad_nil))) pad_nil)))
  ((pssd_cons (psd_set (i := 3) sc__law_curve.nd rfl (by first | exact Or.inl rfl | exact Or.inr rfl) (pd_fn (C__law_number T) (hr.mono (by decide)) (pad_cons (pj_op o_add (dv 0) pd_int) (pad_cons pd_int pad_nil))))
  ((pssd_cons (psd_if (ptd_cmp o_gt (pd_fn (C__law_mix T) (hr.mono (by decide)) (pad_cons (dv 0) (pad_cons pd_int (pad_cons pd_int pad_nil)))) pd_int) (pssd_cons (psd_par (i := 1) (j := 2) rfl sc__law_curve.nd rfl rfl (by decide) rfl rfl (pad_cons (pd_fn (C__law_number T) (hr.mono (by decide)) (pad_cons (dv 0) (pad_cons pd_int pad_nil))) (pad_cons (pd_fn (C__law_number T) (hr.mono (by decide)) (pad_cons (pj_op o_add (dv 0) pd_int) (pad_cons pd_int pad_nil))) pad_nil)))
  ((pssd_cons (psd_par (i := 4) (j := 5) rfl sc__law_curve.nd rfl rfl (by decide) rfl rfl (pad_cons (pd_fn (C__law_mix T) (hr.mono (by decide)) (pad_cons (dv 0) (pad_cons pd_int (pad_cons pd_int pad_nil)))) (pad_cons (pd_fn (C__law_mix T) (hr.mono (by decide)) (pad_cons (dv 0) (pad_cons pd_int (pad_cons pd_int pad_nil)))) pad_nil)))
  ((pssd_cons (psd_set (i := 3) sc__law_curve.nd rfl (by first | exact Or.inl rfl | exact Or.inr rfl) (pj_op o_add (pj_op o_mul (pj_op o_mul (dv 1) (dv 4)) (dv 4)) (pj_op o_mul (pj_op o_mul (dv 2) (dv 5)) (dv 5))))
  ((pssd_one (psd_if (PWD.pt (pwd_or (ptd_cmp (o_eq hr.units) (dv 3) pd_int) (pwd_or1 (ptd_cmp o_gt (pj_callB c_abs rfl T.z_abs (by decide +kernel) (dv 3)) pd_int)))) (pssd_one (psd_set (i := 3) sc__law_curve.nd rfl (by first | exact Or.inl rfl | exact Or.inr rfl) (dv 1))) pssd_nil)))))))) pssd_nil)
  ((pssd_one (psd_ret (pd_tup (pad_cons (dv 1) (pad_cons (dv 2) (pad_cons (dv 3) pad_nil))))))))))))) ?_
  rintro ds Q hl ⟨t, rfl, q⟩
  unfold curveOf Crv.d crD at q
  walk_at "dl"
  refine ⟨_, _, rfl, by decide, by decide, ?_⟩
  refine ⟨_, _, rfl, by decide, by decide, ?_⟩
  refine ⟨_, _, rfl, by decide, by decide, ?_⟩
  refine ⟨_, _, _, rfl, by decide, by decide, by decide, ?_⟩
  walk_at "dl"
  split <;> rename_i h
  · rw [if_pos h] at q
    refine ⟨_, _, rfl, by decide, by decide, ?_⟩
    refine ⟨_, _, rfl, by decide, by decide, ?_⟩
    refine ⟨_, _, _, rfl, by decide, by decide, by decide, ?_⟩
    refine ⟨_, _, _, rfl, by decide, by decide, by decide, ?_⟩
    walk_at "dl"
    have a2 := numOf_abs (c := t) (m := 5) (by decide)
    have b2 := numOf_abs (c := t + 3) (m := 5) (by decide)
    have x1 := mixOf_nonneg (c := t) (p := 9931) (m := 3) (by decide)
    have x2 := mixOf_lt (c := t) (p := 9931) (m := 3) (by decide)
    have y1 := mixOf_nonneg (c := t) (p := 9929) (m := 3) (by decide)
    have y2 := mixOf_lt (c := t) (p := 9929) (m := 3) (by decide)
    refine ⟨.inl (by omega), .inr (.inl (by omega)), .inl (by omega), .inr (.inl (by omega)), ?_⟩
    dsimp only at q
    simp only [beq_iff_eq]
    split <;> rename_i h2
    · rw [if_pos (.inl h2)] at q; exact q
    · split <;> rename_i h3
      · rw [if_pos (.inr h3)] at q; exact q
      · rw [if_neg (by rintro (z | z) <;> contradiction)] at q; exact q
  · rw [if_neg h] at q
    exact q

abbrev N__law_fraction_text : List Str := ["_law_one"]
theorem sc__law_fraction_text : FnScope N__law_fraction_text ["_law_one"] (defScope s__law_fraction_text) := ⟨rfl, rfl, rfl, by decide +kernel, rfl, by decide +kernel, by decide +kernel⟩


def t__law_fraction_text : List D → (D → Prop) → Prop := fun ds Q => ∃ q : Rat, ds = [frD q] ∧ q.num.natAbs < 10 ^ 6 ∧ q.den < 10 ^ 6 ∧ Q (.str (frT q))
theorem C__law_fraction_text (T : Top K mg base) : Has P w K mg base 1 "_law_fraction_text" 1 t__law_fraction_text := by
  refine Df.has T.f__law_fraction_text sc__law_fraction_text rfl (fun cdv f A outer s H E F0 hr => (pssd_one (psd_ret (pj_op o_addS (pj_callTy c_str rfl T.z_str (by decide +kernel) (pj_ix o_ix (dv 0) pd_int)) (pj_op o_mulB (pj_op o_addS pd_str (pj_callTy c_str rfl T.z_str (by decide +kernel) (pj_ix o_ix (dv 0) pd_int))) (pj_callTy c_intB rfl T.z_int (by decide +kernel) (pd_cmp (o_ne hr.units) (pj_ix o_ix (dv 0) pd_int) pd_int))))))) ?_
  rintro ds Q hl ⟨r, rfl, h1, h2, q⟩
  have l1 := strZ_len h1
  have h2' : (r.den : Int).natAbs < 10 ^ 6 := by simpa using h2
  have l2 := strZ_len h2'
  walk_at "dl"
  rw [show Str.ofString (toString r.num) = strZ r.num from rfl, show Str.ofString (toString (r.den : Int)) = strZ r.den from rfl]
  unfold frT at q
  refine ⟨log_Z h1, log_Z h2', small_line (by rw [len_sl]; omega), ?_⟩
  by_cases hd : r.den = 1
  · rw [if_pos hd] at q
    have e : (((r.den : Int) == 1) = false) = False := by simp [hd]
    simp only [e, if_false]
    refine ⟨.inl trivial, by rw [lenA, len_sl]; omega, ?_⟩
    rw [if_neg (by decide)]
    have e2 : strZ r.num ++ Str.empty = strZ r.num := TL.ext_tl (by rw [TL.tl_append]; exact List.append_nil _)
    rw [e2]
    exact ⟨small_line (by show (strZ r.num).length + 0 ≤ 1000; omega), q⟩
  · rw [if_neg hd] at q
    have e : (((r.den : Int) == 1) = false) = True := by simpa using fun e => hd (by omega)
    simp only [e, if_true]
    refine ⟨.inr trivial, by rw [lenA, len_sl]; omega, ?_⟩
    rw [lenA, len_sl]
    have e2 : strZ r.num ++ (Str.ofString "/" ++ strZ r.den) = strZ r.num ++ Str.ofString "/" ++ strZ r.den := TL.ext_tl (by rw [TL.tl_append, TL.tl_append, TL.tl_append, TL.tl_append, List.append_assoc])
    rw [e2]
    exact ⟨small_line (by omega), q⟩

abbrev N__law_point_text : List Str := ["_law_point"]
theorem sc__law_point_text : FnScope N__law_point_text ["_law_point"] (defScope s__law_point_text) := ⟨rfl, rfl, rfl, by decide +kernel, rfl, by decide +kernel, by decide +kernel⟩


def t__law_point_text : List D → (D → Prop) → Prop := fun ds Q => ∃ p q : Rat, ds = [.tup [frD p, frD q]] ∧ p.num.natAbs < 10 ^ 6 ∧ p.den < 10 ^ 6 ∧ q.num.natAbs < 10 ^ 6 ∧ q.den < 10 ^ 6 ∧ Q (.str (ptT p q))
theorem C__law_point_text (T : Top K mg base) : Has P w K mg base 2 "_law_point_text" 1 t__law_point_text := by
  refine Df.has T.f__law_point_text sc__law_point_text rfl (fun cdv f A outer s H E F0 hr => (pssd_one (psd_ret (pj_op o_addS (pj_op o_addS (pd_fn (C__law_fraction_text T) (hr.mono (by decide)) (pad_cons (pj_ix o_ix (dv 0) pd_int) pad_nil)) pd_str) (pd_fn (C__law_fraction_text T) (hr.mono (by decide)) (pad_cons (pj_ix o_ix (dv 0) pd_int) pad_nil)))))) ?_
  rintro ds Q hl ⟨p, r, rfl, h1, h2, h3, h4, q⟩
  have l1 := frT_len h1 h2
  have l2 := frT_len h3 h4
  walk_at "dl"
  refine ⟨p, rfl, h1, h2, _, rfl, small_line (by rw [len_sp]; omega), r, rfl, h3, h4, _, rfl, small_line (by rw [lenA, len_sp]; omega), ?_⟩
  exact q

abbrev N__law_curve_text : List Str := ["_law_curve_here"]
theorem sc__law_curve_text : FnScope N__law_curve_text ["_law_curve_here"] (defScope s__law_curve_text) := ⟨rfl, rfl, rfl, by decide +kernel, rfl, by decide +kernel, by decide +kernel⟩


def t__law_curve_text : List D → (D → Prop) → Prop := fun ds Q => ∃ a b c : Int, ds = [crD a b c] ∧ a.natAbs < 10 ^ 6 ∧ b.natAbs < 10 ^ 6 ∧ c.natAbs < 10 ^ 6 ∧ Q (.str (crT a b c))
theorem C__law_curve_text (T : Top K mg base) : Has P w K mg base 1 "_law_curve_text" 1 t__law_curve_text := by
  refine Df.has T.f__law_curve_text sc__law_curve_text rfl (fun cdv f A outer s H E F0 hr => (pssd_one (psd_ret (pj_op o_addS (pj_op o_addS (pj_op o_addS (pj_op o_addS (pj_callTy c_str rfl T.z_str (by decide +kernel) (pj_ix o_ix (dv 0) pd_int)) pd_str) (pj_callTy c_str rfl T.z_str (by decide +kernel) (pj_ix o_ix (dv 0) pd_int))) pd_str) (pj_callTy c_str rfl T.z_str (by decide +kernel) (pj_ix o_ix (dv 0) pd_int)))))) ?_
  rintro ds Q hl ⟨a, b, c, rfl, ha, hb, hc, q⟩
  have la := strZ_len ha
  have lb := strZ_len hb
  have lc := strZ_len hc
  unfold crD
  walk_at "dl"
  rw [show Str.ofString (toString a) = strZ a from rfl, show Str.ofString (toString b) = strZ b from rfl, show Str.ofString (toString c) = strZ c from rfl]
  exact ⟨log_Z ha, small_line (by rw [len_sp]; omega), log_Z hb, small_line (by rw [lenA, len_sp]; omega), small_line (by rw [lenA, lenA, len_sp]; omega), log_Z hc, small_line (by rw [lenA, lenA, lenA, len_sp]; omega), q⟩

abbrev N__law_read : List Str := ["_law_kind", "_law_here"]
theorem sc__law_read : FnScope N__law_read ["_law_kind", "_law_here"] (defScope s__law_read) := ⟨rfl, rfl, rfl, by decide +kernel, rfl, by decide +kernel, by decide +kernel⟩


def t__law_read : List D → (D → Prop) → Prop := fun ds Q => (∃ a b c : Int, ds = [.str "curve", .str (crT a b c)] ∧ a ≠ 0 ∧ b ≠ 0 ∧ c ≠ 0 ∧ a.natAbs ≤ 30 ∧ b.natAbs ≤ 30 ∧ c.natAbs ≤ 30 ∧ Q (crD a b c)) ∨
  ∃ p q : Rat, ds = [.str "point", .str (ptT p q)] ∧ p.num.natAbs < 10 ^ 6 ∧ p.den < 10 ^ 6 ∧ q.num.natAbs < 10 ^ 6 ∧ q.den < 10 ^ 6 ∧ Q (.tup [frD p, frD q])
theorem C__law_read (T : Top K mg base) : Has P w K mg base 5 "_law_read" 2 t__law_read := by
  refine Df.has T.f__law_read sc__law_read rfl (fun cdv f A outer s H E F0 hr => (pssd_one (psd_tryN (pssd_one (psd_ret (pd_if (ptd_cmp (o_eq hr.units) (dv 0) pd_str) (pd_fn (C_read_curve T) (hr.mono (by decide)) (pad_cons (dv 1) pad_nil)) (pd_fn (C_read_point T) (hr.mono (by decide)) (pad_cons (dv 1) pad_nil)))))))) ?_
  rintro ds Q hl (⟨a, b, c, rfl, h1, h2, h3, h4, h5, h6, q⟩ | ⟨p, r, rfl, h1, h2, h3, h4, q⟩)
  · walk_at "dl"
    rw [if_pos (by decide +kernel)]
    exact ⟨a, b, c, rfl, h1, h2, h3, h4, h5, h6, q⟩
  · walk_at "dl"
    rw [if_neg (by decide +kernel)]
    exact ⟨p, r, rfl, h1, h2, h3, h4, q⟩

abbrev N_law : List Str := ["_law_script", "_law_k", "_law_cell_here", "_law_curve_here", "_law_point", "_law_texts"]
theorem sc_law : FnScope N_law ["_law_script"] (defScope s_law) := ⟨rfl, rfl, rfl, by decide +kernel, rfl, by decide +kernel, by decide +kernel⟩


def t_law : List D → (D → Prop) → Prop := fun ds Q => ∃ ns : List Int, ds = [.scr ns] ∧ ns.length ≤ 63 ∧ Q (.bl true)
theorem ok_law (T : Top K mg base) {f : Addr} {fd : FuncData} (F : Fun K "law" "law" s_law f fd) : FnOk P w K mg base CX0 7 f fd ["_law_script"] (spD K 1 t_law) := by
  refine fnD F sc_law rfl (fun cdv A outer s H E F0 hr => (pssd_cons (psd_for PassesOwn.never rfl (pid_rng1 rfl T.z_range pd_int) (pgd_name (vs := allV) (i := 1) sc_law.nd rfl (by first | exact Or.inl rfl | exact Or.inr rfl)) (pssd_cons (psd_set (i := 2) sc_law.nd rfl (by first | exact Or.inl rfl | exact Or.inr rfl) (pj_op o_add (pd_fn (C__law_cell T) (hr.mono (by decide)) (pad_cons (dv 0) (pad_cons (pj_op o_mod (dv 1) pd_int) pad_nil))) (pj_op o_mul pd_int (dv 1))))
  ((pssd_cons (psd_set (i := 3) sc_law.nd rfl (by first | exact Or.inl rfl | exact Or.inr rfl) (pd_fn (C__law_curve T) (hr.mono (by decide)) (pad_cons (dv 2) pad_nil)))
  ((pssd_cons (psd_set (i := 4) sc_law.nd rfl (by first | exact Or.inl rfl | exact Or.inr rfl) (pd_tup (pad_cons (pd_fn (C__law_fraction T) (hr.mono (by decide)) (pad_cons (pj_op o_add (dv 2) pd_int) (pad_cons pd_int pad_nil))) (pad_cons (pd_fn (C__law_fraction T) (hr.mono (by decide)) (pad_cons (pj_op o_add (pd_fn (C__law_cell T) (hr.mono (by decide)) (pad_cons (dv 0) (pad_cons pd_int pad_nil))) (pj_op o_mul pd_int (dv 1))) (pad_cons pd_int pad_nil))) pad_nil))))
  ((pssd_cons (psd_set (i := 5) sc_law.nd rfl (by first | exact Or.inl rfl | exact Or.inr rfl) (pd_tup (pad_cons (pd_fn (C__law_curve_text T) (hr.mono (by decide)) (pad_cons (dv 3) pad_nil)) (pad_cons (pd_fn (C__law_point_text T) (hr.mono (by decide)) (pad_cons (dv 4) pad_nil)) pad_nil))))
  ((pssd_cons (psd_if (ptd_not (ptd_val (pd_fn (C__law_same T 6) (hr.mono (by decide)) (pad_cons (pd_tup (pad_cons (pd_fn (C_curve_text T) (hr.mono (by decide)) (pad_cons (dv 3) pad_nil)) (pad_cons (pd_fn (C_point_text T) (hr.mono (by decide)) (pad_cons (dv 4) pad_nil)) pad_nil))) (pad_cons (dv 5) pad_nil))))) (pssd_one (psd_ret pd_bl)) pssd_nil)
  ((pssd_one (psd_if (ptd_not (ptd_val (pd_fn (C__law_same T 6) (hr.mono (by decide)) (pad_cons (pd_tup (pad_cons (pd_fn (C__law_read T) (hr.mono (by decide)) (pad_cons pd_str (pad_cons (pj_ix o_ix (dv 5) pd_int) pad_nil))) (pad_cons (pd_fn (C__law_read T) (hr.mono (by decide)) (pad_cons pd_str (pad_cons (pj_ix o_ix (dv 5) pd_int) pad_nil))) pad_nil))) (pad_cons (pd_tup (pad_cons (dv 3) (pad_cons (dv 4) pad_nil))) pad_nil))))) (pssd_one (psd_ret pd_bl)) pssd_nil)))))))))))))
  ((pssd_one (psd_ret (pd_and (pd_cmp (o_eq hr.units) (pd_fn (C_point_text T) (hr.mono (by decide)) (pad_cons (pd_tup (pad_cons (pd_tup (pad_cons (pd_neg pd_int) (pad_cons pd_int pad_nil))) (pad_cons (pd_tup (pad_cons pd_int (pad_cons pd_int pad_nil))) pad_nil))) pad_nil)) pd_str) (pd_one (pd_cmp (o_eq hr.units) (pd_fn (C__law_read T) (hr.mono (by decide)) (pad_cons pd_str (pad_cons pd_str pad_nil))) (pd_tup (pad_cons (pd_tup (pad_cons pd_int (pad_cons pd_int pad_nil))) (pad_cons (pd_tup (pad_cons (pd_neg pd_int) (pad_cons pd_int pad_nil))) pad_nil))))))))))) ?_
  rintro ds Q hl ⟨ns, rfl, hn, q⟩
  walk_at "st"
  refine dFor_i (rng 0 16) (fun Q h => ?_) (fun _ ρ => ∃ o1 o2 o3 o4 o5, ρ = [some (.d (.scr ns)), o1, o2, o3, o4, o5]) ⟨_, _, _, _, _, rfl⟩ ?_ ?_
  · walk_at "dl"
    exact ⟨by decide, by decide, h⟩
  · rintro i x ρ hx ⟨o1, o2, o3, o4, o5, rfl⟩
    obtain ⟨rfl, hi⟩ := rng_get hx
    simp only [gN]
    walk_at "st"
    refine dSet_cut (fun d => ∃ c, d = .int c) (fun Q h => ?_) ?_
    · walk_at "dl"
      refine ⟨by decide, _, _, rfl, by omega, hn, ?_⟩
      walk_at "dl"
      exact ⟨.inl (by decide), h _ ⟨_, rfl⟩⟩
    rintro _ ⟨c0, rfl⟩
    walk_at "st"
    refine dSet_cut (fun d => ∃ a b c : Int, d = crD a b c ∧ a ≠ 0 ∧ b ≠ 0 ∧ c ≠ 0 ∧ a.natAbs ≤ 30 ∧ b.natAbs ≤ 30 ∧ c.natAbs ≤ 30) (fun Q h => ?_) ?_
    · walk_at "dl"
      obtain ⟨h1, h2, h3, h4, h5, h6⟩ := curveOf_ok c0
      exact ⟨_, rfl, h _ ⟨_, _, _, rfl, h1, h2, h3, h4, h5, h6⟩⟩
    rintro _ ⟨a, b, c, rfl, h1, h2, h3, h4, h5, h6⟩
    walk_at "st"
    refine dSet_cut (fun d => ∃ p r : Rat, d = .tup [frD p, frD r] ∧ p.num.natAbs < 10 ^ 6 ∧ p.den < 10 ^ 6 ∧ r.num.natAbs < 10 ^ 6 ∧ r.den < 10 ^ 6) (fun Q h => ?_) ?_
    · walk_at "dl"
      refine ⟨c0 + 1, 300, rfl, by decide, by decide, fun p hp1 hp2 => ?_⟩
      refine ⟨_, _, rfl, by decide, hn, .inl (by decide), _, rfl, _, 5, rfl, by decide, by decide, fun r hr1 hr2 => ?_⟩
      exact h _ ⟨p, r, rfl, by omega, by omega, by omega, by omega⟩
    rintro _ ⟨p, r, rfl, k1, k2, k3, k4⟩
    walk_at "dl"
    refine ⟨a, b, c, rfl, by omega, by omega, by omega, p, r, rfl, k1, k2, k3, k4, a, b, c, rfl, by omega, by omega, by omega, p, r, rfl, k1, k2, k3, k4, ?_⟩
    refine ⟨_, rfl, rfl, true, rfl, ?_⟩
    rw [if_neg (by decide)]
    refine .inl ⟨a, b, c, rfl, h1, h2, h3, h4, h5, h6, .inr ⟨p, r, rfl, k1, k2, k3, k4, ?_⟩⟩
    refine ⟨_, rfl, rfl, true, rfl, ?_⟩
    rw [if_neg (by decide)]
    exact ⟨_, rfl⟩
  · rintro ρ ⟨o1, o2, o3, o4, o5, rfl⟩
    walk_at "dl"
    rw [fr_a, fr_b, ← pt_a, ← pt_b]
    refine ⟨_, _, rfl, by decide +kernel, by decide +kernel, by decide +kernel, by decide +kernel, rfl, ?_⟩
    rw [eqD_str, beq_self_eq_true, if_pos rfl]
    refine .inr ⟨_, _, rfl, by decide +kernel, by decide +kernel, by decide +kernel, by decide +kernel, rfl, rfl, ?_⟩
    rw [← fr_b]
    exact q

end
end DL
open PySem PySem.W PyProof.Rows
set_option maxHeartbeats 0 in
theorem PySem.Challenge.cw_curvefracs_k17_texts_holds : PySem.Challenge.rw_curvefracs_k17_texts.Holds := by
  w_on; o_law; k_head; (case hw => w_witness2)
  k_fill
  letI tbl : DL.Tb := ⟨[]⟩
  refine DL.walk_end0 (l := PySem.Challenge.rw_curvefracs_k17_texts) (st := DL.s_law) (k := 7) rfl rfl rfl (fun w h Y => PySem.W.kIn_of Y) ⟨rfl, by decide, by decide⟩ (fun _ _ _ _ _ _ s v => .of_eq rfl) rfl ?F
  case F =>
    intro w mg h KX G
    refine (fun (T : ∀ base, DL.Top _ mg base) => ⟨(T default).f_law, fun f fd base F => DL.law_of (DL.ok_law (T base) F)⟩) (fun base => ?_)
    refine' ⟨?x0, ?x1, ?x2, ?x3, ?x4, ?x5, ?x6, ?x7, ?x8, ?x9, ?x10, ?x11, ?x12, ?x13, ?x14, ?x15, ?x16, ?x17, ?x18, ?x19, ?x20, ?x21, ?x22, ?x23, ?x24, ?x25, ?x26, ?x27, ?x28, ?x29, ?x30, ?x31, ?x32, ?x33, ?x34, ?x35⟩
    case x0 => (refine' DL.Df_mk (st := DL.s_fraction_text) KX G ?a ?l ?c ?k (fun _ _ _ _ _ _ us hl => match us, hl with | [_], _ => rfl); (case a => k_is); (case l => k_is); (case c => k_is); (case k => k_is))
    case x1 => (refine' DL.Df_mk (st := DL.s_curve_text) KX G ?a ?l ?c ?k (fun _ _ _ _ _ _ us hl => match us, hl with | [_], _ => rfl); (case a => k_is); (case l => k_is); (case c => k_is); (case k => k_is))
    case x2 => (refine' DL.Df_mk (st := DL.s_point_text) KX G ?a ?l ?c ?k (fun _ _ _ _ _ _ us hl => match us, hl with | [_], _ => rfl); (case a => k_is); (case l => k_is); (case c => k_is); (case k => k_is))
    case x3 => (refine' DL.Df_mk (st := DL.s_is_whole) KX G ?a ?l ?c ?k (fun _ _ _ _ _ _ us hl => match us, hl with | [_], _ => rfl); (case a => k_is); (case l => k_is); (case c => k_is); (case k => k_is))
    case x4 => (refine' DL.Df_mk (st := DL.s_common) KX G ?a ?l ?c ?k (fun _ _ _ _ _ _ us hl => match us, hl with | [_, _], _ => rfl); (case a => k_is); (case l => k_is); (case c => k_is); (case k => k_is))
    case x5 => (refine' DL.Df_mk (st := DL.s_is_fraction) KX G ?a ?l ?c ?k (fun _ _ _ _ _ _ us hl => match us, hl with | [_], _ => rfl); (case a => k_is); (case l => k_is); (case c => k_is); (case k => k_is))
    case x6 => (refine' DL.Df_mk (st := DL.s_is_curve) KX G ?a ?l ?c ?k (fun _ _ _ _ _ _ us hl => match us, hl with | [_], _ => rfl); (case a => k_is); (case l => k_is); (case c => k_is); (case k => k_is))
    case x7 => (refine' DL.Df_mk (st := DL.s_must) KX G ?a ?l ?c ?k (fun _ _ _ _ _ _ us hl => match us, hl with | [_], _ => rfl); (case a => k_is); (case l => k_is); (case c => k_is); (case k => k_is))
    case x8 => (refine' DL.Df_mk (st := DL.s_number_in) KX G ?a ?l ?c ?k (fun _ _ _ _ _ _ us hl => match us, hl with | [_], _ => rfl); (case a => k_is); (case l => k_is); (case c => k_is); (case k => k_is))
    case x9 => (refine' DL.Df_mk (st := DL.s_fraction_in) KX G ?a ?l ?c ?k (fun _ _ _ _ _ _ us hl => match us, hl with | [_], _ => rfl); (case a => k_is); (case l => k_is); (case c => k_is); (case k => k_is))
    case x10 => (refine' DL.Df_mk (st := DL.s_read_curve) KX G ?a ?l ?c ?k (fun _ _ _ _ _ _ us hl => match us, hl with | [_], _ => rfl); (case a => k_is); (case l => k_is); (case c => k_is); (case k => k_is))
    case x11 => (refine' DL.Df_mk (st := DL.s_read_point) KX G ?a ?l ?c ?k (fun _ _ _ _ _ _ us hl => match us, hl with | [_], _ => rfl); (case a => k_is); (case l => k_is); (case c => k_is); (case k => k_is))
    case x12 => (refine' DL.Df_mk (st := DL.s__law_cell) KX G ?a ?l ?c ?k (fun _ _ _ _ _ _ us hl => match us, hl with | [_, _], _ => rfl); (case a => k_is); (case l => k_is); (case c => k_is); (case k => k_is))
    case x13 => (refine' DL.Df_mk (st := DL.s__law_mix) KX G ?a ?l ?c ?k (fun _ _ _ _ _ _ us hl => match us, hl with | [_, _, _], _ => rfl); (case a => k_is); (case l => k_is); (case c => k_is); (case k => k_is))
    case x14 => (refine' DL.Df_mk (st := DL.s__law_same) KX G ?a ?l ?c ?k (fun _ _ _ _ _ _ us hl => match us, hl with | [_, _], _ => rfl); (case a => k_is); (case l => k_is); (case c => k_is); (case k => k_is))
    case x15 => (refine' DL.Df_mk (st := DL.s__law_common) KX G ?a ?l ?c ?k (fun _ _ _ _ _ _ us hl => match us, hl with | [_, _], _ => rfl); (case a => k_is); (case l => k_is); (case c => k_is); (case k => k_is))
    case x16 => (refine' DL.Df_mk (st := DL.s__law_fraction) KX G ?a ?l ?c ?k (fun _ _ _ _ _ _ us hl => match us, hl with | [_, _], _ => rfl); (case a => k_is); (case l => k_is); (case c => k_is); (case k => k_is))
    case x17 => (refine' DL.Df_mk (st := DL.s__law_number) KX G ?a ?l ?c ?k (fun _ _ _ _ _ _ us hl => match us, hl with | [_, _], _ => rfl); (case a => k_is); (case l => k_is); (case c => k_is); (case k => k_is))
    case x18 => (refine' DL.Df_mk (st := DL.s__law_curve) KX G ?a ?l ?c ?k (fun _ _ _ _ _ _ us hl => match us, hl with | [_], _ => rfl); (case a => k_is); (case l => k_is); (case c => k_is); (case k => k_is))
    case x19 => (refine' DL.Df_mk (st := DL.s__law_fraction_text) KX G ?a ?l ?c ?k (fun _ _ _ _ _ _ us hl => match us, hl with | [_], _ => rfl); (case a => k_is); (case l => k_is); (case c => k_is); (case k => k_is))
    case x20 => (refine' DL.Df_mk (st := DL.s__law_point_text) KX G ?a ?l ?c ?k (fun _ _ _ _ _ _ us hl => match us, hl with | [_], _ => rfl); (case a => k_is); (case l => k_is); (case c => k_is); (case k => k_is))
    case x21 => (refine' DL.Df_mk (st := DL.s__law_curve_text) KX G ?a ?l ?c ?k (fun _ _ _ _ _ _ us hl => match us, hl with | [_], _ => rfl); (case a => k_is); (case l => k_is); (case c => k_is); (case k => k_is))
    case x22 => (refine' DL.Df_mk (st := DL.s__law_read) KX G ?a ?l ?c ?k (fun _ _ _ _ _ _ us hl => match us, hl with | [_, _], _ => rfl); (case a => k_is); (case l => k_is); (case c => k_is); (case k => k_is))
    case x23 => (refine' DL.Df_mk (st := DL.s_law) KX G ?a ?l ?c ?k (fun _ _ _ _ _ _ us hl => match us, hl with | [_], _ => rfl); (case a => k_is); (case l => k_is); (case c => k_is); (case k => k_is))
    case x24 => (refine' PySem.W.mg_none_of KX G ?z; (case z => k_is))
    case x25 => (refine' PySem.W.mg_none_of KX G ?z; (case z => k_is))
    case x26 => (refine' PySem.W.mg_none_of KX G ?z; (case z => k_is))
    case x27 => (refine' PySem.W.mg_none_of KX G ?z; (case z => k_is))
    case x28 => (refine' PySem.W.mg_none_of KX G ?z; (case z => k_is))
    case x29 => (refine' PySem.W.mg_none_of KX G ?z; (case z => k_is))
    case x30 => (refine' PySem.W.mg_none_of KX G ?z; (case z => k_is))
    case x31 => (refine' PySem.W.mg_none_of KX G ?z; (case z => k_is))
    case x32 => (refine' PySem.W.mg_none_of KX G ?z; (case z => k_is))
    case x33 => (refine' PySem.W.mg_none_of KX G ?z; (case z => k_is))
    case x34 => (refine' DL.c_int (PySem.W.mg_of KX G ?cz34); (case cz34 => k_is))
    case x35 => (refine' DL.c_strg (PySem.W.mg_of KX G ?cz35); (case cz35 => k_is))
#print axioms PySem.Challenge.cw_curvefracs_k17_texts_holds
