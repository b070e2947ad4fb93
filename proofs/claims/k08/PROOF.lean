import PyProof.Rows.All
import Wide.All
import OpenK.AllK
import Wide.FinOn
import HandS.ForExc
import HandS.ForMost
import HandS.Wide
import HandS.IsInst
import HandS.Lambda
import HandS.EndTab
import KE.SortData
import KE.SortKeyHeap
import KE.DataEq
import HandS.TupAny
import HandS.TupLe
import HandS.Flow
import HandS.Zip
import HandS.Ends
import HandS.SortInts
import HandS.Strs
import HandS.TupSets
import HandS.HotCalls
import HandS.ExcIs
import HandS.Style
import PyProof.StrOps2
import HandS.Text
import HandS.Iter
import PyProof.MaxThree
import PySem.Challenge.RW_curvefracs_k08_points_by_size
set_option Elab.async false
set_option maxRecDepth 100000
set_option linter.all false
set_option maxHeartbeats 4000000
set_option exponentiation.threshold 20000

namespace DL
open PySem L2

/-! ### data without a heap -/
inductive D where
  | non | bl (b : Bool) | int (i : Int) | str (s : Str) | tup (l : List D) | lst (l : List D) | dct (kvs : List (Int × Int)) | scr (ns : List Int) | exc (a : Addr)

def dctV (kvs : List (Int × Int)) : List (Key × V) := kvs.map fun p => (Sum.inl p.1, V.int p.2)
mutual
inductive At (K : PySem.W.Frag) (F : Hp) : V → D → Prop
  | non : At K F .non .non
  | bl (b : Bool) : At K F (.bl b) (.bl b)
  | int (i : Int) : At K F (.int i) (.int i)
  | str (x : Str) : At K F (.str x) (.str x)
  | lst {a : Addr} {xs : List V} {ds : List D} : F a = some (.lst xs) → AtAll K F xs ds → At K F (.ref a) (.lst ds)
  | tup {a : Addr} {xs : List V} {ds : List D} : SqT K F a xs → AtAll K F xs ds → At K F (.ref a) (.tup ds)
  | dct {a : Addr} {kvs : List (Int × Int)} : F a = some (.dK (dctV kvs)) → At K F (.ref a) (.dct kvs)
  | scr {a : Addr} {ns : List Int} : SqL K F a (ns.map V.int) → At K F (.ref a) (.scr ns)
  | exc (a : Addr) : At K F (.ref a) (.exc a)
inductive AtAll (K : PySem.W.Frag) (F : Hp) : List V → List D → Prop
  | nil : AtAll K F [] []
  | cons {v : V} {vs : List V} {d : D} {ds : List D} : At K F v d → AtAll K F vs ds → AtAll K F (v :: vs) (d :: ds)
end
theorem Same.sqT {K : PySem.W.Frag} {H H' : Hp} {a : Addr} {xs : List V} (e : Same H H') (h : SqT K H a xs) : SqT K H' a xs := by
  rcases h with (h | ⟨o, h⟩) | h
  · exact .inl (.inl (e _ _ h))
  · exact .inl (.inr ⟨o, e _ _ h⟩)
  · exact .inr h
section
variable {K : PySem.W.Frag} {F F' : Hp}
mutual
theorem At.mono (h : Same F F') : ∀ {v : V} {d : D}, At K F v d → At K F' v d
  | _, _, .non => .non
  | _, _, .bl b => .bl b
  | _, _, .int i => .int i
  | _, _, .str x => .str x
  | _, _, .lst q r => .lst (h _ _ q) (AtAll.mono h r)
  | _, _, .tup q r => .tup (Same.sqT h q) (AtAll.mono h r)
  | _, _, .dct q => .dct (h _ _ q)
  | _, _, .scr q => .scr (h.seq q)
  | _, _, .exc a => .exc a
theorem AtAll.mono (h : Same F F') : ∀ {vs : List V} {ds : List D}, AtAll K F vs ds → AtAll K F' vs ds
  | _, _, .nil => .nil
  | _, _, .cons q r => .cons (At.mono h q) (AtAll.mono h r)
end
theorem AtAll.length : ∀ {vs : List V} {ds : List D}, AtAll K F vs ds → vs.length = ds.length
  | _, _, .nil => rfl
  | _, _, .cons _ r => congrArg (· + 1) (AtAll.length r)
theorem AtAll.get : ∀ {vs : List V} {ds : List D} {i : Nat} {d : D}, AtAll K F vs ds → ds[i]? = some d → ∃ v, vs[i]? = some v ∧ At K F v d
  | _, _, _, _, .nil, e => by simp at e
  | _, _, 0, _, .cons q _, e => by simp at e; subst e; exact ⟨_, rfl, q⟩
  | _, _, i + 1, d, .cons _ r, e => by
    obtain ⟨v, h1, h2⟩ := AtAll.get (i := i) (d := d) r (by simpa using e)
    exact ⟨v, by simpa using h1, h2⟩
theorem AtAll.append : ∀ {vs ws : List V} {ds es : List D}, AtAll K F vs ds → AtAll K F ws es → AtAll K F (vs ++ ws) (ds ++ es)
  | _, _, _, _, .nil, s => s
  | _, _, _, _, .cons q r, s => .cons q (AtAll.append r s)
theorem AtAll.take : ∀ {vs : List V} {ds : List D} (n : Nat), AtAll K F vs ds → AtAll K F (vs.take n) (ds.take n)
  | _, _, 0, _ => .nil
  | _, _, _ + 1, .nil => .nil
  | _, _, n + 1, .cons q r => .cons q (AtAll.take n r)
theorem AtAll.drop : ∀ {vs : List V} {ds : List D} (n : Nat), AtAll K F vs ds → AtAll K F (vs.drop n) (ds.drop n)
  | _, _, 0, r => r
  | _, _, _ + 1, .nil => .nil
  | _, _, n + 1, .cons _ r => AtAll.drop n r
theorem AtAll.set {v : V} {d : D} (q : At K F v d) : ∀ {vs : List V} {ds : List D} (i : Nat), AtAll K F vs ds → AtAll K F (vs.set i v) (ds.set i d)
  | _, _, _, .nil => .nil
  | _, _, 0, .cons _ r => .cons q r
  | _, _, i + 1, .cons p r => .cons p (AtAll.set q i r)
theorem AtAll.ints : ∀ {vs : List V} {ns : List Int}, AtAll K F vs (ns.map D.int) → vs = ns.map V.int
  | _, [], h => by cases h; rfl
  | _, n :: ns, h => by
    cases h with
    | cons q r => cases q; rw [AtAll.ints r]; rfl
theorem AtAll.of_ints : ∀ (ns : List Int), AtAll K F (ns.map V.int) (ns.map D.int)
  | [] => .nil
  | _ :: ns => .cons (.int _) (AtAll.of_ints ns)
theorem AtAll.strs : ∀ {vs : List V} {ns : List Str}, AtAll K F vs (ns.map D.str) → vs = ns.map V.str
  | _, [], h => by cases h; rfl
  | _, n :: ns, h => by
    cases h with
    | cons q r => cases q; rw [AtAll.strs r]; rfl
theorem AtAll.of_strs : ∀ (ns : List Str), AtAll K F (ns.map V.str) (ns.map D.str)
  | [] => .nil
  | _ :: ns => .cons (.str _) (AtAll.of_strs ns)
theorem AtAll.bls : ∀ {vs : List V} {ns : List Bool}, AtAll K F vs (ns.map D.bl) → vs = ns.map V.bl
  | _, [], h => by cases h; rfl
  | _, n :: ns, h => by
    cases h with
    | cons q r => cases q; rw [AtAll.bls r]; rfl
end

/-! ### what python's == makes of it -/
mutual
def D.py : D → PyData
  | .non => .none | .bl b => .bool b | .int i => .int i | .str s => .str s
  | .tup l => .tuple (D.pys l) | .lst l => .list (D.pys l) | .dct _ => .dict [] | .scr _ => .dict [] | .exc _ => .dict []
def D.pys : List D → List PyData
  | [] => []
  | d :: ds => D.py d :: D.pys ds
end
section
variable {K : PySem.W.Frag} {F : Hp}
mutual
theorem At.dp : ∀ {v : V} {d : D}, At K F v d → d.py.plain = true → Dp K F v d.py
  | _, _, .non, _ => .non
  | _, _, .bl b, _ => .bl b
  | _, _, .int i, _ => .int i
  | _, _, .str x, _ => .str x
  | _, _, .lst q r, h => .lst (SqL.of q) (AtAll.dp r (by simpa [D.py, PyData.plain] using h))
  | _, _, .tup q r, h => .tup q (AtAll.dp r (by simpa [D.py, PyData.plain] using h))
  | _, _, .dct q, h => by simp [D.py, PyData.plain] at h
  | _, _, .scr q, h => by simp [D.py, PyData.plain] at h
  | _, _, .exc q, h => by simp [D.py, PyData.plain] at h
theorem AtAll.dp : ∀ {vs : List V} {ds : List D}, AtAll K F vs ds → PyData.plainAll (D.pys ds) = true → DpAll K F vs (D.pys ds)
  | _, _, .nil, _ => .nil
  | _, _, .cons q r, h => by
    simp [D.pys, PyData.plainAll] at h
    exact .cons (At.dp q h.1) (AtAll.dp r h.2)
end
mutual
theorem Dp.mono' {H H' : Hp} (h : Same H H') : ∀ {v : V} {d : PyData}, Dp K H v d → Dp K H' v d
  | _, _, .non => .non
  | _, _, .bl b => .bl b
  | _, _, .int i => .int i
  | _, _, .str x => .str x
  | _, _, .lst q r => .lst (h.seq q) (DpAll.mono' h r)
  | _, _, .tup q r => .tup (Same.sqT h q) (DpAll.mono' h r)
theorem DpAll.mono' {H H' : Hp} (h : Same H H') : ∀ {vs : List V} {ds : List PyData}, DpAll K H vs ds → DpAll K H' vs ds
  | _, _, .nil => .nil
  | _, _, .cons q r => .cons (Dp.mono' h q) (DpAll.mono' h r)
end
end

/-! ### the heap in two: F is what nobody changes any more -/
/-- the tables of code objects, each with the name that its code objects bear -/
class Tb where
  T : List (Addr × Str)
section
variable [Tb]
/-- all but those tables stays -/
structure Ex (H H' : Hp) : Prop where
  ob : LamX.ExtN H H'
  tb : LamX.Tabs Tb.T H → LamX.Tabs Tb.T H'
/-- free, or a table's -/
def NF (H : Hp) (p : Addr) : Prop := ∀ u, H p = some u → ∃ ps, u = .tbl ps
theorem Same.ex {H H' : Hp} (s : Same H H') : Ex H H' := ⟨LamX.ExtN.of s, fun t => t.ext s⟩
theorem Ex.refl (H : Hp) : Ex H H := ⟨LamX.ExtN.refl H, fun t => t⟩
theorem Ex.trans {H H1 H2 : Hp} (a : Ex H H1) (b : Ex H1 H2) : Ex H H2 := ⟨a.ob.trans b.ob, fun t => b.tb (a.tb t)⟩
theorem Ex.lst {H H' : Hp} (e : Ex H H') {p : Addr} {xs : List V} (h : H p = some (.lst xs)) : H' p = some (.lst xs) := e.ob _ _ h fun _ z => HO.noConfusion z
theorem Ex.nf {H H' : Hp} (e : Ex H H') {p : Addr} (h : NF H' p) : NF H p := fun u hu => Classical.byContradiction fun n => n (h u (e.ob _ _ hu fun ps z => n ⟨ps, z⟩))
theorem nf_none {H : Hp} {p : Addr} (h : H p = none) : NF H p := fun u z => by rw [h] at z; cases z
theorem Ex.nfree {H H' : Hp} (e : Ex H H') {p : Addr} (h : H' p = none) : NF H p := e.nf (nf_none h)
theorem NF.ne {H : Hp} {p b : Addr} {u : HO} (h : NF H p) (e : H b = some u) (n : ∀ ps, u ≠ .tbl ps) : b ≠ p := fun z => by
  subst z
  obtain ⟨ps, z⟩ := h u e
  exact n ps z
structure Stp (F H F' H' : Hp) : Prop where
  hh : Ex H H'
  ff : Same F F'
  fs : Same F' H'
  nw : ∀ b u, H b = some u → (∀ ps, u ≠ .tbl ps) → F b = none → F' b = none
  nt : ∀ b ps, F' b = some (.tbl ps) → F b = some (.tbl ps)
theorem Stp.refl {F H : Hp} (s : Same F H) : Stp F H F H := ⟨Ex.refl _, Same.refl _, s, fun _ _ _ _ h => h, fun _ _ h => h⟩
theorem Stp.trans {F H F1 H1 F2 H2 : Hp} (a : Stp F H F1 H1) (b : Stp F1 H1 F2 H2) : Stp F H F2 H2 :=
  ⟨a.hh.trans b.hh, a.ff.trans b.ff, b.fs, fun c u h n q => b.nw c u (a.hh.ob _ _ h n) n (a.nw c u h n q), fun c ps h => a.nt c ps (b.nt c ps h)⟩
theorem Stp.lnw {F H F' H' : Hp} (s : Stp F H F' H') {p : Addr} {xs : List V} (h : H p = some (.lst xs)) (n : F p = none) : F' p = none := s.nw p _ h (fun _ z => HO.noConfusion z) n
theorem same_upd {H : Hp} {p : Addr} (h : H p = none) (o : HO) : Same H (upd H p o) := fun b u q => by rw [upd_ne (ne_of_none q h)]; exact q
/-- a new object that nobody changes -/
theorem Stp.new {F H : Hp} (s : Same F H) {p : Addr} (hp : H p = none) (o : HO) (ho : ∀ ps, o ≠ .tbl ps := by intro _ z; cases z) : Stp F H (upd F p o) (upd H p o) where
  hh := Same.ex (same_upd hp o)
  ff := same_upd (s.free hp) o
  fs := fun b u q => by
    by_cases e : b = p
    · subst e; rw [upd_same] at q ⊢; exact q
    · rw [upd_ne e] at q ⊢; exact s b u q
  nw := fun b u hb _ hn => by
    have e : b ≠ p := fun e => by subst e; rw [hp] at hb; cases hb
    rw [upd_ne e]; exact hn
  nt := fun b ps q => by
    by_cases e : b = p
    · subst e; rw [upd_same] at q; cases q; exact absurd rfl (ho ps)
    · rw [upd_ne e] at q; exact q
/-- a new object that is kept apart -/
theorem Stp.own {F H : Hp} (s : Same F H) {p : Addr} (hp : H p = none) (o : HO) : Stp F H F (upd H p o) where
  hh := Same.ex (same_upd hp o)
  ff := Same.refl _
  fs := fun b u q => by
    have e : b ≠ p := fun e => by subst e; rw [s.free hp] at q; cases q
    rw [upd_ne e]; exact s b u q
  nw := fun _ _ _ _ h => h
  nt := fun _ _ h => h
/-- a list is written: the tables stay tables -/
theorem tabs_upd {H : Hp} {T : List (Addr × Str)} {p : Addr} {xs ys : List V} (t : LamX.Tabs T H) (hp : H p = some (.lst xs)) : LamX.Tabs T (upd H p (.lst ys)) := fun q hq => by
  obtain ⟨ps, h1, h2, h3⟩ := t q hq
  have n1 : q.1 ≠ p := fun e => by rw [e, hp] at h1; cases h1
  refine ⟨ps, by rw [upd_ne n1]; exact h1, h2, fun pos cv hc => ?_⟩
  obtain ⟨c, e1, e2⟩ := h3 pos cv hc
  have n2 : c ≠ p := fun e => by rw [e, hp] at e2; cases e2
  exact ⟨c, e1, by rw [upd_ne n2]; exact e2⟩

/-! ### the slots -/
inductive Sl where
  | d (d : D)
  | own (ds : List D)
abbrev Rho := List (Option Sl)

structure EnvAt (K : PySem.W.Frag) (F0 H0 F H : Hp) (σ : L2.St) (ρ : Rho) : Prop where
  fs : Same F H
  st : Stp F0 H0 F H
  dd : ∀ (i : Nat) (d : D), ρ[i]? = some (some (.d d)) → ∃ v, σ[i]? = some (some v) ∧ At K F v d
  ow : ∀ (i : Nat) (ds : List D), ρ[i]? = some (some (.own ds)) → ∃ p xs, σ[i]? = some (some (.ref p)) ∧ H p = some (.lst xs) ∧ F p = none ∧ NF H0 p ∧ AtAll K F xs ds
  sep : ∀ (i j : Nat) (ds es : List D) (p : Addr), ρ[i]? = some (some (.own ds)) → ρ[j]? = some (some (.own es)) → σ[i]? = some (some (.ref p)) → σ[j]? = some (some (.ref p)) → i = j
  len : σ.length = ρ.length
  nt : ∀ b ps, F b ≠ some (.tbl ps)
  tb : LamX.Tabs Tb.T H

theorem EnvAt.step {K : PySem.W.Frag} {F0 H0 F H F' H' : Hp} {σ : L2.St} {ρ : Rho} (E : EnvAt K F0 H0 F H σ ρ) (s : Stp F H F' H') : EnvAt K F0 H0 F' H' σ ρ where
  fs := s.fs
  st := E.st.trans s
  dd := fun i d e => by
    obtain ⟨v, h1, h2⟩ := E.dd i d e
    exact ⟨v, h1, h2.mono s.ff⟩
  ow := fun i ds e => by
    obtain ⟨p, xs, h1, h2, h3, h4, h5⟩ := E.ow i ds e
    exact ⟨p, xs, h1, s.hh.lst h2, s.lnw h2 h3, h4, h5.mono s.ff⟩
  sep := E.sep
  len := E.len
  nt := fun b ps z => E.nt b ps (s.nt b ps z)
  tb := s.hh.tb E.tb
theorem setget {α : Type} {l : List α} {i j : Nat} {a b : α} (h : (l.set i a)[j]? = some b) : (i = j ∧ i < l.length ∧ a = b) ∨ (i ≠ j ∧ l[j]? = some b) := by
  by_cases e : i = j
  · subst e
    by_cases hl : i < l.length
    · rw [List.getElem?_set_self hl] at h
      exact .inl ⟨rfl, hl, Option.some.inj h⟩
    · rw [List.getElem?_eq_none (by simp; omega)] at h
      cases h
  · rw [List.getElem?_set_ne e] at h
    exact .inr ⟨e, h⟩
/-- a slot takes data -/
theorem EnvAt.set {K : PySem.W.Frag} {F0 H0 F H : Hp} {σ : L2.St} {ρ : Rho} {i : Nat} {v : V} {d : D} (E : EnvAt K F0 H0 F H σ ρ) (a : At K F v d) : EnvAt K F0 H0 F H (σ.set i (some v)) (ρ.set i (some (.d d))) where
  fs := E.fs
  st := E.st
  dd := fun j e h => by
    rcases setget h with ⟨rfl, hl, z⟩ | ⟨hne, h⟩
    · cases z
      exact ⟨v, by rw [List.getElem?_set_self (by rw [E.len]; exact hl)], a⟩
    · obtain ⟨u, h1, h2⟩ := E.dd j e h
      exact ⟨u, by rw [List.getElem?_set_ne hne]; exact h1, h2⟩
  ow := fun j ds h => by
    rcases setget h with ⟨_, _, z⟩ | ⟨hne, h⟩
    · cases z
    · obtain ⟨p, xs, h1, h2⟩ := E.ow j ds h
      exact ⟨p, xs, by rw [List.getElem?_set_ne hne]; exact h1, h2⟩
  sep := fun j k ds es p h1 h2 h3 h4 => by
    rcases setget h1 with ⟨_, _, z⟩ | ⟨hne, h1⟩
    · cases z
    rcases setget h2 with ⟨_, _, z⟩ | ⟨hne2, h2⟩
    · cases z
    rw [List.getElem?_set_ne hne] at h3
    rw [List.getElem?_set_ne hne2] at h4
    exact E.sep j k ds es p h1 h2 h3 h4
  len := by rw [List.length_set, List.length_set, E.len]
  nt := E.nt
  tb := E.tb
/-- a slot takes a new list of its own -/
theorem EnvAt.setOwn {K : PySem.W.Frag} {F0 H0 F H : Hp} {σ : L2.St} {ρ : Rho} {i : Nat} {p : Addr} {xs : List V} {ds : List D} (E : EnvAt K F0 H0 F H σ ρ) (hp : H p = some (.lst xs)) (hf : F p = none) (h0 : NF H0 p) (a : AtAll K F xs ds)
    (new : ∀ (j : Nat) (es : List D), ρ[j]? = some (some (Sl.own es)) → σ[j]? ≠ some (some (V.ref p))) : EnvAt K F0 H0 F H (σ.set i (some (.ref p))) (ρ.set i (some (.own ds))) where
  fs := E.fs
  st := E.st
  dd := fun j e h => by
    rcases setget h with ⟨_, _, z⟩ | ⟨hne, h⟩
    · cases z
    · obtain ⟨u, h1, h2⟩ := E.dd j e h
      exact ⟨u, by rw [List.getElem?_set_ne hne]; exact h1, h2⟩
  ow := fun j es h => by
    rcases setget h with ⟨rfl, hl, z⟩ | ⟨hne, h⟩
    · cases z
      exact ⟨p, xs, by rw [List.getElem?_set_self (by rw [E.len]; exact hl)], hp, hf, h0, a⟩
    · obtain ⟨q, ys, h1, h2⟩ := E.ow j es h
      exact ⟨q, ys, by rw [List.getElem?_set_ne hne]; exact h1, h2⟩
  sep := fun j k es es' q h1 h2 h3 h4 => by
    rcases setget h1 with ⟨e1, l1, z1⟩ | ⟨n1, h1⟩
    · rcases setget h2 with ⟨e2, l2, z2⟩ | ⟨n2, h2⟩
      · omega
      · subst e1
        rw [List.getElem?_set_self (by rw [E.len]; exact l1)] at h3
        rw [List.getElem?_set_ne n2] at h4
        cases h3
        exact absurd h4 (new k es' h2)
    · rcases setget h2 with ⟨e2, l2, z2⟩ | ⟨n2, h2⟩
      · subst e2
        rw [List.getElem?_set_self (by rw [E.len]; exact l2)] at h4
        rw [List.getElem?_set_ne n1] at h3
        cases h4
        exact absurd h3 (new j es h1)
      · rw [List.getElem?_set_ne n1] at h3
        rw [List.getElem?_set_ne n2] at h4
        exact E.sep j k es es' q h1 h2 h3 h4
  len := by rw [List.length_set, List.length_set, E.len]
  nt := E.nt
  tb := E.tb
/-- a list of one's own changes -/
theorem EnvAt.chg {K : PySem.W.Frag} {F0 H0 F H : Hp} {σ : L2.St} {ρ : Rho} {i : Nat} {p : Addr} {ys : List V} {ds es : List D} (E : EnvAt K F0 H0 F H σ ρ) (hi : ρ[i]? = some (some (.own ds))) (hp : σ[i]? = some (some (.ref p))) (a : AtAll K F ys es) :
    EnvAt K F0 H0 F (upd H p (.lst ys)) σ (ρ.set i (some (.own es))) := by
  obtain ⟨p', xs, e1, e2, e3, e4, e5⟩ := E.ow i ds hi
  rw [hp] at e1
  cases e1
  have fs : Same F (upd H p (.lst ys)) := fun b u q => by
    have e : b ≠ p := fun e => by subst e; rw [e3] at q; cases q
    rw [upd_ne e]; exact E.fs b u q
  have hl : i < ρ.length := (List.getElem?_eq_some_iff.mp hi).1
  refine ⟨fs, ⟨⟨fun b u q n => ?_, fun _ => tabs_upd E.tb e2⟩, E.st.ff, fs, E.st.nw, E.st.nt⟩, fun j d h => ?_, fun j fs' h => ?_, fun j k a1 a2 q h1 h2 h3 h4 => ?_, by rw [List.length_set, E.len], E.nt, tabs_upd E.tb e2⟩
  · rw [upd_ne (e4.ne q n)]; exact E.st.hh.ob b u q n
  · rcases setget h with ⟨_, _, z⟩ | ⟨hne, h⟩
    · cases z
    · exact E.dd j d h
  · rcases setget h with ⟨rfl, _, z⟩ | ⟨hne, h⟩
    · cases z
      exact ⟨p, ys, hp, upd_same, e3, e4, a⟩
    · obtain ⟨q, zs, h1, h2, h3, h4, h5⟩ := E.ow j fs' h
      have e : q ≠ p := fun e => by subst e; exact hne (E.sep i j ds fs' q hi h hp h1)
      exact ⟨q, zs, h1, by rw [upd_ne e]; exact h2, h3, h4, h5⟩
  · have g1 : ∃ b1, ρ[j]? = some (some (.own b1)) := by
      rcases setget h1 with ⟨rfl, _, _⟩ | ⟨_, h1⟩
      · exact ⟨_, hi⟩
      · exact ⟨_, h1⟩
    have g2 : ∃ b1, ρ[k]? = some (some (.own b1)) := by
      rcases setget h2 with ⟨rfl, _, _⟩ | ⟨_, h2⟩
      · exact ⟨_, hi⟩
      · exact ⟨_, h2⟩
    obtain ⟨b1, g1⟩ := g1
    obtain ⟨b2, g2⟩ := g2
    exact E.sep j k b1 b2 q g1 g2 h3 h4
/-- .. and from now on it does not -/
theorem EnvAt.freeze {K : PySem.W.Frag} {F0 H0 F H : Hp} {σ : L2.St} {ρ : Rho} {i : Nat} {ds : List D} (E : EnvAt K F0 H0 F H σ ρ) (hi : ρ[i]? = some (some (.own ds))) : ∃ F', Same F F' ∧ EnvAt K F0 H0 F' H σ (ρ.set i (some (.d (.lst ds)))) := by
  obtain ⟨p, xs, e1, e2, e3, e4, e5⟩ := E.ow i ds hi
  have ff : Same F (upd F p (.lst xs)) := same_upd e3 _
  have fs : Same (upd F p (.lst xs)) H := fun b u q => by
    by_cases e : b = p
    · subst e; rw [upd_same] at q; cases q; exact e2
    · rw [upd_ne e] at q; exact E.fs b u q
  have hl : i < ρ.length := (List.getElem?_eq_some_iff.mp hi).1
  have nt : ∀ b ps, upd F p (.lst xs) b ≠ some (.tbl ps) := fun b ps z => by
    by_cases e : b = p
    · subst e; rw [upd_same] at z; cases z
    · rw [upd_ne e] at z; exact E.nt b ps z
  refine ⟨upd F p (.lst xs), ff, ⟨fs, ⟨E.st.hh, E.st.ff.trans ff, fs, fun b u h1 n h2 => ?_, fun b ps z => absurd z (nt b ps)⟩, fun j d h => ?_, fun j es h => ?_, fun j k a1 a2 q h1 h2 h3 h4 => ?_, by rw [List.length_set, E.len], nt, E.tb⟩⟩
  · rw [upd_ne (e4.ne h1 n)]; exact E.st.nw b u h1 n h2
  · rcases setget h with ⟨rfl, _, z⟩ | ⟨hne, h⟩
    · cases z
      exact ⟨_, e1, .lst upd_same (e5.mono ff)⟩
    · obtain ⟨u, h1, h2⟩ := E.dd j d h
      exact ⟨u, h1, h2.mono ff⟩
  · rcases setget h with ⟨_, _, z⟩ | ⟨hne, h⟩
    · cases z
    · obtain ⟨q, zs, h1, h2, h3, h4, h5⟩ := E.ow j es h
      have e : q ≠ p := fun e => by subst e; exact hne (E.sep i j ds es q hi h e1 h1)
      exact ⟨q, zs, h1, h2, by rw [upd_ne e]; exact h3, h4, h5.mono ff⟩
  · rcases setget h1 with ⟨_, _, z⟩ | ⟨_, h1⟩
    · cases z
    rcases setget h2 with ⟨_, _, z⟩ | ⟨_, h2⟩
    · cases z
    exact E.sep j k a1 a2 q h1 h2 h3 h4
end
end DL

namespace DL
open PySem L2
variable [Tb]

/-! ### judgements over data -/
abbrev RJ (α : Type) := Hp → Hp → V → α → Prop
/-- what an expression is worth: by the slots' data, without a heap -/
abbrev DJ (α : Type) := Rho → (α → Prop) → Prop
abbrev DE := DJ D
abbrev DT := DJ Bool
abbrev DA := DJ (List D)
structure DEnds where
  nx : Rho → Prop
  rt : D → Prop
  bk : Rho → Prop := fun _ => False
  ct : Rho → Prop := fun _ => False
abbrev DS := DEnds → Rho → Prop
abbrev RD (K : PySem.W.Frag) : RJ D := fun F _ v d => At K F v d
/-- a list that may be read: of one's own, frozen, or new -/
abbrev RL (K : PySem.W.Frag) : RJ (List D) := fun F H v ds => ∃ p xs, v = .ref p ∧ H p = some (.lst xs) ∧ AtAll K F xs ds
def Stable {α : Type} (R : RJ α) : Prop := ∀ (F H F' H' : Hp) (v : V) (a : α), Stp F H F' H' → R F H v a → R F' H' v a
theorem RD.stable {K : PySem.W.Frag} : Stable (RD K) := fun _ _ _ _ _ _ s h => At.mono s.ff h
theorem RL.stable {K : PySem.W.Frag} : Stable (RL K) := fun _ _ _ _ _ _ s ⟨p, xs, e, h, a⟩ => ⟨p, xs, e, s.hh.lst h, a.mono s.ff⟩

section
variable (K : PySem.W.Frag) (F0 H0 : Hp)
def lJ {α : Type} (R : RJ α) (t : DJ α) : TE := fun σ H Q => ∃ F ρ QQ, EnvAt K F0 H0 F H σ ρ ∧ t ρ QQ ∧ ∀ a v F' H', QQ a → Stp F H F' H' → R F' H' v a → Q v H'
def lN (t : DA) : TE := fun σ H Q => ∃ F ρ QQ, EnvAt K F0 H0 F H σ ρ ∧ t ρ QQ ∧ ∀ ds p xs F' H', QQ ds → Stp F H F' H' → NF H p → H' p = some (.lst xs) → F' p = none → AtAll K F' xs ds → Q (.ref p) H'
def lT (t : DT) : TT := fun σ H Q => ∃ F ρ QQ, EnvAt K F0 H0 F H σ ρ ∧ t ρ QQ ∧ ∀ b F' H', QQ b → Stp F H F' H' → Q b H'
def lA (t : DA) : TA := fun σ H Q => ∃ F ρ QQ, EnvAt K F0 H0 F H σ ρ ∧ t ρ QQ ∧ ∀ ds vs F' H', QQ ds → Stp F H F' H' → AtAll K F' vs ds → Q vs H'
structure Lnk (F : Hp) (E : Ends) (DD : DEnds) : Prop where
  nx : ∀ ρ σ F' H', DD.nx ρ → Same F F' → EnvAt K F0 H0 F' H' σ ρ → E.nx σ H'
  bk : ∀ ρ σ F' H', DD.bk ρ → Same F F' → EnvAt K F0 H0 F' H' σ ρ → E.bk σ H'
  ct : ∀ ρ σ F' H', DD.ct ρ → Same F F' → EnvAt K F0 H0 F' H' σ ρ → E.ct σ H'
  rt : ∀ d v F' H', DD.rt d → Same F F' → Stp F0 H0 F' H' → At K F' v d → E.rt v H'
def lS (t : DS) : TS := fun E σ H => ∃ F ρ DD, EnvAt K F0 H0 F H σ ρ ∧ t DD ρ ∧ Lnk K F0 H0 F E DD
end
theorem Lnk.mono {K : PySem.W.Frag} {F0 H0 F F1 : Hp} {E : Ends} {DD : DEnds} (l : Lnk K F0 H0 F E DD) (s : Same F F1) : Lnk K F0 H0 F1 E DD :=
  ⟨fun ρ σ F' H' a b c => l.nx ρ σ F' H' a (s.trans b) c, fun ρ σ F' H' a b c => l.bk ρ σ F' H' a (s.trans b) c, fun ρ σ F' H' a b c => l.ct ρ σ F' H' a (s.trans b) c, fun d v F' H' a b c e => l.rt d v F' H' a (s.trans b) c e⟩

structure PJ {α : Type} (X : Cx) (F0 H0 : Hp) (R : RJ α) (e : Expr) (t : DJ α) : Prop where
  pe : PE X e (lJ X.K F0 H0 R t)
structure PN (X : Cx) (F0 H0 : Hp) (e : Expr) (t : DA) : Prop where
  pe : PE X e (lN X.K F0 H0 t)
structure PTD (X : Cx) (F0 H0 : Hp) (e : Expr) (t : DT) : Prop where
  pt : PT X e (lT X.K F0 H0 t)
structure PWD (X : Cx) (F0 H0 : Hp) (e : Expr) (t : DT) : Prop where
  pw : PW X e (lT X.K F0 H0 t)
structure PAD (X : Cx) (F0 H0 : Hp) (es : List Expr) (t : DA) : Prop where
  pa : PA X es (lA X.K F0 H0 t)
structure PSD (X : Cx) (F0 H0 : Hp) (st : Stmt) (t : DS) : Prop where
  ps : PS X st (lS X.K F0 H0 t)
structure PSsD (X : Cx) (F0 H0 : Hp) (sts : List Stmt) (t : DS) : Prop where
  ps : PSs X sts (lS X.K F0 H0 t)
abbrev PD (X : Cx) (F0 H0 : Hp) (e : Expr) (t : DE) : Prop := PJ X F0 H0 (RD X.K) e t
abbrev PL (X : Cx) (F0 H0 : Hp) (e : Expr) (t : DA) : Prop := PJ X F0 H0 (RL X.K) e t

section
variable {X : Cx} {F0 H0 : Hp}
theorem pe_imp {e : Expr} {t t' : TE} (h : PE X e t) (w : ∀ σ H Q, t' σ H Q → t σ H Q) : PE X e t' := ⟨fun pins s σ H Q I q => h.run pins s σ H Q I (w σ H Q q)⟩
theorem pt_imp {e : Expr} {t t' : TT} (h : PT X e t) (w : ∀ σ H Q, t' σ H Q → t σ H Q) : PT X e t' := ⟨fun pins s σ H Q I q => h.run pins s σ H Q I (w σ H Q q)⟩
theorem pw_imp {e : Expr} {t t' : TT} (h : PW X e t) (w : ∀ σ H Q, t' σ H Q → t σ H Q) : PW X e t' := ⟨fun wh pins s σ H Q I q => h.run wh pins s σ H Q I (w σ H Q q)⟩
theorem pa_imp {e : List Expr} {t t' : TA} (h : PA X e t) (w : ∀ σ H Q, t' σ H Q → t σ H Q) : PA X e t' := ⟨fun pos pins s σ H Q I q => h.run pos pins s σ H Q I (w σ H Q q)⟩
theorem ps_imp {e : Stmt} {t t' : TS} (h : PS X e t) (w : ∀ D σ H, t' D σ H → t D σ H) : PS X e t' := ⟨fun pins s σ H D I q => h.run pins s σ H D I (w D σ H q)⟩
theorem pss_imp {e : List Stmt} {t t' : TS} (h : PSs X e t) (w : ∀ D σ H, t' D σ H → t D σ H) : PSs X e t' := ⟨fun pins s σ H D I q => h.run pins s σ H D I (w D σ H q)⟩

/-! ### names, constants -/
def dVar (i : Nat) : DE := fun ρ Q => ∃ d, ρ[i]? = some (some (.d d)) ∧ Q d
def dOwn (i : Nat) : DA := fun ρ Q => ∃ ds, ρ[i]? = some (some (.own ds)) ∧ Q ds
def dC (d : D) : DE := fun _ Q => Q d
theorem pd_pe {i : Nat} {e : Expr} (h : PE X e (tVar i)) : PD X F0 H0 e (dVar i) := by
  refine ⟨pe_imp h ?_⟩
  rintro σ H Q ⟨F, ρ, QQ, E, ⟨d, e1, q⟩, k⟩
  obtain ⟨v, h1, h2⟩ := E.dd i d e1
  exact ⟨v, h1, k d v F H q (Stp.refl E.fs) h2⟩
theorem pl_pe {i : Nat} {e : Expr} (h : PE X e (tVar i)) : PL X F0 H0 e (dOwn i) := by
  refine ⟨pe_imp h ?_⟩
  rintro σ H Q ⟨F, ρ, QQ, E, ⟨d, e1, q⟩, k⟩
  obtain ⟨p, xs, h1, h2, h3, h4, h5⟩ := E.ow i d e1
  exact ⟨.ref p, h1, k d _ F H q (Stp.refl E.fs) ⟨p, xs, rfl, h2, h5⟩⟩
theorem dv (i : Nat) {x : Str} {pos : Pos} (hN : X.N[i]? = some x := by rfl) (hv : Vis X.env.scope x := by first | exact Or.inl rfl | exact Or.inr (Or.inl rfl) | exact Or.inr (Or.inr rfl)) (hd : (x == ("__debug__" : Str)) = false := by decide)
    (hcd : (x == ("__classdict__" : Str)) = false := by decide) : PD X F0 H0 (.Name x pos) (dVar i) := pd_pe (pe_var hN hv hd hcd)
theorem ov (i : Nat) {x : Str} {pos : Pos} (hN : X.N[i]? = some x := by rfl) (hv : Vis X.env.scope x := by first | exact Or.inl rfl | exact Or.inr (Or.inl rfl) | exact Or.inr (Or.inr rfl)) (hd : (x == ("__debug__" : Str)) = false := by decide)
    (hcd : (x == ("__classdict__" : Str)) = false := by decide) : PL X F0 H0 (.Name x pos) (dOwn i) := pl_pe (pe_var hN hv hd hcd)
theorem pd_const {e : Expr} {v : V} {d : D} (h : PE X e (tC v)) (a : ∀ F, At X.K F v d) : PD X F0 H0 e (dC d) := by
  refine ⟨pe_imp h ?_⟩
  rintro σ H Q ⟨F, ρ, QQ, E, q, k⟩
  exact k d v F H q (Stp.refl E.fs) (a F)
theorem pd_int {i j pos} : PD X F0 H0 (.Constant (.int i) j pos) (dC (.int i)) := pd_const pe_int fun _ => .int i
theorem pd_bl {b j pos} : PD X F0 H0 (.Constant (.bool b) j pos) (dC (.bl b)) := pd_const pe_bl fun _ => .bl b
theorem pd_non {j pos} : PD X F0 H0 (.Constant .none j pos) (dC .non) := pd_const pe_non fun _ => .non
theorem pd_str {x j pos} : PD X F0 H0 (.Constant (.str x) j pos) (dC (.str x)) := pd_const pe_str fun _ => .str x
theorem pd_glob {x : Str} {v : V} {d : D} {u : Value} {pos : Pos} (hg : Gl X x) (hm : X.mg x = some u) (r : RelV v u) (a : ∀ F, At X.K F v d) (hd : (x == ("__debug__" : Str)) = false := by decide) : PD X F0 H0 (.Name x pos) (dC d) :=
  pd_const (pe_glob hg hm r hd) a

/-- from a new list, or from data, to a list that is read -/
theorem PN.pl {e : Expr} {t : DA} (h : PN X F0 H0 e t) : PL X F0 H0 e t := by
  refine ⟨pe_imp h.pe ?_⟩
  rintro σ H Q ⟨F, ρ, QQ, E, q, k⟩
  exact ⟨F, ρ, QQ, E, q, fun ds p xs F' H' q s h1 h2 h3 h4 => k ds _ F' H' q s ⟨p, xs, rfl, h2, h4⟩⟩
def dLst (t : DE) : DA := fun ρ Q => t ρ fun d => ∃ l, d = .lst l ∧ Q l
theorem PJ.lst {e : Expr} {t : DE} (h : PD X F0 H0 e t) : PL X F0 H0 e (dLst t) := by
  refine ⟨pe_imp h.pe ?_⟩
  rintro σ H Q ⟨F, ρ, QQ, E, q, k⟩
  refine ⟨F, ρ, _, E, q, fun d v F' H' ⟨l, e1, q⟩ s a => ?_⟩
  subst e1
  cases a with
  | lst h1 h2 => exact k l _ F' H' q s ⟨_, _, rfl, s.fs _ _ h1, h2⟩
def dFz (t : DA) : DE := fun ρ Q => t ρ fun l => Q (.lst l)
/-- a new list, nobody's to change from now on -/
theorem PN.pd {e : Expr} {t : DA} (h : PN X F0 H0 e t) : PD X F0 H0 e (dFz t) := by
  refine ⟨pe_imp h.pe ?_⟩
  rintro σ H Q ⟨F, ρ, QQ, E, q, k⟩
  refine ⟨F, ρ, _, E, q, fun ds p xs F' H' q s h1 h2 h3 h4 => ?_⟩
  have ff : Same F' (upd F' p (.lst xs)) := same_upd h3 _
  refine k _ (.ref p) (upd F' p (.lst xs)) H' q ⟨s.hh, s.ff.trans ff, fun b u z => ?_, fun b u h5 n h6 => ?_, fun b ps z => ?_⟩ (.lst upd_same (h4.mono ff))
  · by_cases e : b = p
    · subst e; rw [upd_same] at z; cases z; exact h2
    · rw [upd_ne e] at z; exact s.fs b u z
  · rw [upd_ne (h1.ne h5 n)]; exact s.nw b u h5 n h6
  · by_cases e : b = p
    · subst e; rw [upd_same] at z; cases z
    · rw [upd_ne e] at z; exact s.nt b ps z

/-! ### operators by values -/
def Br2 {α β γ : Type} (Ra : RJ α) (Rb : RJ β) (Rc : RJ γ) (r : R2) (g : α → β → (γ → Prop) → Prop) : Prop :=
  ∀ (F H : Hp) (x y : V) (a : α) (b : β) (QQ : γ → Prop) (Q : VK), Same F H → Ra F H x a → Rb F H y b → g a b QQ → (∀ c v F' H', QQ c → Stp F H F' H' → Rc F' H' v c → Q v H') → r x y H Q
def OpD {α β γ : Type} (X : Cx) (f : Value → Value → Sem Value) (Ra : RJ α) (Rb : RJ β) (Rc : RJ γ) (g : α → β → (γ → Prop) → Prop) : Prop := ∃ r, OpR X f r ∧ Br2 Ra Rb Rc r g
def dOp {α β γ : Type} (g : α → β → (γ → Prop) → Prop) (ta : DJ α) (tb : DJ β) : DJ γ := fun ρ Q => ta ρ fun x => tb ρ fun y => g x y Q
def dTst (t : DE) : DT := fun ρ Q => t ρ fun d => ∃ k, d = .bl k ∧ Q k
section
variable {α β γ : Type} {Ra : RJ α} {Rb : RJ β} {Rc : RJ γ} {g : α → β → (γ → Prop) → Prop} {a b : Expr} {ta : DJ α} {tb : DJ β} {pos : Pos}
theorem lOp {r : R2} (br : Br2 Ra Rb Rc r g) (sa : Stable Ra) {σ : L2.St} {H : Hp} {Q : VK} (h : lJ X.K F0 H0 Rc (dOp g ta tb) σ H Q) : tOp r (lJ X.K F0 H0 Ra ta) (lJ X.K F0 H0 Rb tb) σ H Q := by
  obtain ⟨F, ρ, QQ, E, q, k⟩ := h
  refine ⟨F, ρ, _, E, q, fun a v F1 H1 q1 s1 ra => ?_⟩
  refine ⟨F1, ρ, _, E.step s1, q1, fun b u F2 H2 q2 s2 rb => ?_⟩
  exact br F2 H2 v u a b QQ Q s2.fs (sa _ _ _ _ _ _ s2 ra) rb q2 fun c w F' H' q' s' rc => k c w F' H' q' ((s1.trans s2).trans s') rc
theorem pj_op {op : Operator} (o : OpD X (binaryOp op) Ra Rb Rc g) (ha : PJ X F0 H0 Ra a ta) (hb : PJ X F0 H0 Rb b tb) (sa : Stable Ra := by first | exact RD.stable | exact RL.stable) : PJ X F0 H0 Rc (.BinOp a op b pos) (dOp g ta tb) := by
  obtain ⟨r, ho, br⟩ := o
  exact ⟨pe_imp (pe_op ho ha.pe hb.pe) fun σ H Q h => lOp br sa h⟩
theorem pd_cmp {op : CmpOp} {g : α → β → (D → Prop) → Prop} (o : OpD X (compareOp op) Ra Rb (RD X.K) g) (ha : PJ X F0 H0 Ra a ta) (hb : PJ X F0 H0 Rb b tb) (hm : behindInMarks op b = false := by first | exact nomark _ | rfl) (sa : Stable Ra := by first | exact RD.stable | exact RL.stable) :
    PD X F0 H0 (.Compare a [op] [b] pos) (dOp g ta tb) := by
  obtain ⟨r, ho, br⟩ := o
  exact ⟨pe_imp (pe_cmpR ho ha.pe hb.pe hm) fun σ H Q h => lOp br sa h⟩
theorem lTst {t : DE} {σ : L2.St} {H : Hp} {Q : Bool → Hp → Prop} (h : lT X.K F0 H0 (dTst t) σ H Q) : lJ X.K F0 H0 (RD X.K) t σ H (fun x H' => ∃ k, x = .bl k ∧ Q k H') := by
  obtain ⟨F, ρ, QQ, E, q, k⟩ := h
  refine ⟨F, ρ, _, E, q, fun d v F' H' ⟨c, e1, q'⟩ s a => ?_⟩
  subst e1
  cases a
  exact ⟨c, rfl, k c F' H' q' s⟩
theorem ptd_cmp {op : CmpOp} {g : α → β → (D → Prop) → Prop} (o : OpD X (compareOp op) Ra Rb (RD X.K) g) (ha : PJ X F0 H0 Ra a ta) (hb : PJ X F0 H0 Rb b tb) (hm : behindInMarks op b = false := by first | exact nomark _ | rfl) (sa : Stable Ra := by first | exact RD.stable | exact RL.stable) :
    PTD X F0 H0 (.Compare a [op] [b] pos) (dTst (dOp g ta tb)) := by
  obtain ⟨r, ho, br⟩ := o
  exact ⟨pt_imp (pt_cmpR ho ha.pe hb.pe hm) fun σ H Q h => lOp br sa (lTst h)⟩
theorem ptd_val {e : Expr} {t : DE} (h : PD X F0 H0 e t) (he : ∀ whole, isTrue e X.env whole = (do let v ← whole; standAt e.pos; holding [v] (truthy v)) := by intro _; rfl) : PTD X F0 H0 e (dTst t) :=
  ⟨pt_imp (pt_val h.pe he) fun σ H Q h => lTst h⟩
end
end
end DL

namespace DL
open PySem L2
variable [Tb]
section
variable {X : Cx} {F0 H0 : Hp} {a b c : Expr} {pos : Pos}

/-! ### ints -/
def gI (f : Int → Int → Int) : D → D → (D → Prop) → Prop := fun x y Q => ∃ i j, x = .int i ∧ y = .int j ∧ Q (.int (f i j))
def gIC (C : Int → Int → Prop) (f : Int → Int → Int) : D → D → (D → Prop) → Prop := fun x y Q => ∃ i j, x = .int i ∧ y = .int j ∧ C i j ∧ Q (.int (f i j))
def gIB (f : Int → Int → Bool) : D → D → (D → Prop) → Prop := fun x y Q => ∃ i j, x = .int i ∧ y = .int j ∧ Q (.bl (f i j))
theorem br_I0 {K : PySem.W.Frag} {f : Int → Int → Int} : Br2 (RD K) (RD K) (RD K) (rI0 fun i j => .int (f i j)) (gI f) := by
  rintro F H x y d e QQ Q fs rx ry ⟨i, j, rfl, rfl, q⟩ k
  cases rx
  cases ry
  exact ⟨i, j, rfl, rfl, k _ _ F H q (Stp.refl fs) (.int _)⟩
theorem br_IC {K : PySem.W.Frag} {C : Int → Int → Prop} {f : Int → Int → Int} : Br2 (RD K) (RD K) (RD K) (rI C fun i j => .int (f i j)) (gIC C f) := by
  rintro F H x y d e QQ Q fs rx ry ⟨i, j, rfl, rfl, c, q⟩ k
  cases rx
  cases ry
  exact ⟨i, j, rfl, rfl, c, k _ _ F H q (Stp.refl fs) (.int _)⟩
theorem br_IB {K : PySem.W.Frag} {f : Int → Int → Bool} : Br2 (RD K) (RD K) (RD K) (rI0 fun i j => .bl (f i j)) (gIB f) := by
  rintro F H x y d e QQ Q fs rx ry ⟨i, j, rfl, rfl, q⟩ k
  cases rx
  cases ry
  exact ⟨i, j, rfl, rfl, k _ _ F H q (Stp.refl fs) (.bl _)⟩
def MulOk (i j : Int) : Prop := i.natAbs < 2 ^ 64 ∨ j.natAbs < 2 ^ 64 ∨ i.natAbs.log2 + j.natAbs.log2 < 1000000
theorem MulOk.ok {i j : Int} (h : MulOk i j) : IntMulOk i j := by
  rcases h with h | h | h
  · exact .of_left (intBits_le_64 (by omega) (by omega))
  · exact .of_right (intBits_le_64 (by omega) (by omega))
  · exact CMulW.ok h
theorem mulok {i j : Int} (a b : Nat) (ha : i.natAbs < 2 ^ a) (hb : j.natAbs < 2 ^ b) (h : a + b < 1000000 := by decide) : MulOk i j := by
  refine .inr (.inr ?_)
  have e1 : i.natAbs.log2 ≤ a := by
    by_cases z : i.natAbs = 0
    · rw [z]; simp
    · have := (Nat.log2_lt z).mpr ha; omega
  have e2 : j.natAbs.log2 ≤ b := by
    by_cases z : j.natAbs = 0
    · rw [z]; simp
    · have := (Nat.log2_lt z).mpr hb; omega
  omega
def DivOk (_ j : Int) : Prop := j ≠ 0 ∧ j.natAbs.log2 < 9000
theorem divok {i j : Int} (h : j ≠ 0) (b : Nat) (hb : j.natAbs < 2 ^ b) (h9 : b ≤ 9000 := by decide) : DivOk i j := by
  refine ⟨h, ?_⟩
  have := (Nat.log2_lt (n := j.natAbs) (k := b) (by omega)).mpr hb
  omega
theorem op_mulX' : OpR X (binaryOp .Mult) (rI MulOk fun i j => .int (i * j)) := opI fun _ _ _ _ _ _ _ hc q => PyProof.Rows.mul_int q hc.ok
theorem op_fdivX : OpR X (binaryOp .FloorDiv) (rI DivOk fun i j => .int (i.fdiv j)) := opI fun i j _ _ _ _ _ hc q =>
  PyProof.Rows.floordiv_int hc.1 q (.inl (PyProof.noPylong_of_log2 hc.2))
theorem op_fdivP : OpR X (binaryOp .FloorDiv) (rI (fun i j => 0 < j ∧ DivOk i j) fun i j => .int (i / j)) := opI fun i j _ _ _ _ _ hc q => by
  have h1 : (0 : Int) < j := hc.1
  exact PyProof.Rows.floordiv_int (by omega) (by rw [Int.fdiv_eq_ediv_of_nonneg i (by omega)]; exact q) (.inl (PyProof.noPylong_of_log2 hc.2.2))
abbrev gAdd := gI fun i j => i + j
abbrev gSub := gI fun i j => i - j
abbrev gMul := gIC MulOk fun i j => i * j
/-- // by a positive one; by any one -/
abbrev gDiv := gIC (fun i j => 0 < j ∧ DivOk i j) fun i j => i / j
abbrev gDivN := gIC DivOk fun i j => i.fdiv j
abbrev gMod := gIC (fun _ j => 0 < j) fun i j => i % j
abbrev gModN := gIC (fun _ j => j ≠ 0) fun i j => i.fmod j
abbrev gPow := gIC CPow fun i j => i ^ j.toNat
theorem o_add : OpD X (binaryOp .Add) (RD X.K) (RD X.K) (RD X.K) gAdd := ⟨_, op_add, br_I0⟩
theorem o_sub : OpD X (binaryOp .Sub) (RD X.K) (RD X.K) (RD X.K) gSub := ⟨_, op_sub, br_I0⟩
theorem o_mul : OpD X (binaryOp .Mult) (RD X.K) (RD X.K) (RD X.K) gMul := ⟨_, op_mulX', br_IC⟩
theorem o_div : OpD X (binaryOp .FloorDiv) (RD X.K) (RD X.K) (RD X.K) gDiv := ⟨_, op_fdivP, br_IC⟩
theorem o_divN : OpD X (binaryOp .FloorDiv) (RD X.K) (RD X.K) (RD X.K) gDivN := ⟨_, op_fdivX, br_IC⟩
theorem o_mod : OpD X (binaryOp .Mod) (RD X.K) (RD X.K) (RD X.K) gMod := ⟨_, op_mod, br_IC⟩
theorem o_modN : OpD X (binaryOp .Mod) (RD X.K) (RD X.K) (RD X.K) gModN := ⟨_, op_modN, br_IC⟩
theorem o_pow : OpD X (binaryOp .Pow) (RD X.K) (RD X.K) (RD X.K) gPow := ⟨_, op_pow, br_IC⟩
abbrev gLt := gIB fun i j => decide (i < j)
abbrev gLe := gIB fun i j => decide (i ≤ j)
abbrev gGt := gIB fun i j => decide (j < i)
abbrev gGe := gIB fun i j => decide (j ≤ i)
theorem o_lt : OpD X (compareOp .Lt) (RD X.K) (RD X.K) (RD X.K) gLt := ⟨_, op_lt, br_IB⟩
theorem o_le : OpD X (compareOp .LtE) (RD X.K) (RD X.K) (RD X.K) gLe := ⟨_, op_le, br_IB⟩
theorem o_gt : OpD X (compareOp .Gt) (RD X.K) (RD X.K) (RD X.K) gGt := ⟨_, op_gt, br_IB⟩
theorem o_ge : OpD X (compareOp .GtE) (RD X.K) (RD X.K) (RD X.K) gGe := ⟨_, op_ge, br_IB⟩
def dNeg (t : DE) : DE := fun ρ Q => t ρ fun x => ∃ i, x = .int i ∧ Q (.int (-i))
theorem pd_neg {t : DE} (h : PD X F0 H0 a t) : PD X F0 H0 (.UnaryOp .USub a pos) (dNeg t) := by
  refine ⟨pe_imp (pe_un un_neg h.pe) ?_⟩
  rintro σ H Q ⟨F, ρ, QQ, E, q, k⟩
  refine ⟨F, ρ, _, E, q, fun d v F' H' ⟨i, e1, q'⟩ s r => ?_⟩
  subst e1
  cases r
  exact ⟨i, rfl, k _ _ F' H' q' s (.int _)⟩

/-! ### ==, != of any data -/
def rEqP (ne : Bool) (K : PySem.W.Frag) : R2 := fun x y H Q => ∃ d e, Dp K H x d ∧ Dp K H y e ∧ d.plain = true ∧ e.plain = true ∧ min d.depth e.depth ≤ 64 ∧ Q (.bl (if ne then !PyData.eqv d e else PyData.eqv d e)) H
theorem op_eqP (hu : X.A.units + 64 < cLine) : OpR X (compareOp .Eq) (rEqP false X.K) := by
  intro pins s σ H x y v u Q I rx ry h
  obtain ⟨d, e, hd, he, sd, se, hm, q⟩ := h
  obtain ⟨as, r1⟩ := Dp.reads I d x v hd rx
  obtain ⟨bs, r2⟩ := Dp.reads I e y u he ry
  exact PySem.SeqAt.eq_plain r1 r2 sd se (by omega) ⟨.bl _, H, I, rfl, q⟩
theorem op_neP (hu : X.A.units + 64 < cLine) : OpR X (compareOp .NotEq) (rEqP true X.K) := by
  intro pins s σ H x y v u Q I rx ry h
  obtain ⟨d, e, hd, he, sd, se, hm, q⟩ := h
  obtain ⟨as, r1⟩ := Dp.reads I d x v hd rx
  obtain ⟨bs, r2⟩ := Dp.reads I e y u he ry
  exact PySem.SeqAt.ne_plain r1 r2 sd se (by omega) ⟨.bl _, H, I, rfl, q⟩
/-- data that may be compared -/
def D.ok (d : D) : Bool := d.py.plain && decide (d.py.depth ≤ 64)
theorem ok_pl {d : D} (h : d.ok = true) : d.py.plain = true := (Bool.and_eq_true_iff.mp h).1
theorem ok_dp {d : D} (h : d.ok = true) : d.py.depth ≤ 64 := of_decide_eq_true (Bool.and_eq_true_iff.mp h).2
def eqD (x y : D) : Bool := PyData.eqv x.py y.py
def gEq : D → D → (D → Prop) → Prop := fun x y Q => x.ok = true ∧ y.ok = true ∧ Q (.bl (eqD x y))
def gNe : D → D → (D → Prop) → Prop := fun x y Q => x.ok = true ∧ y.ok = true ∧ Q (.bl (!eqD x y))
theorem o_eq (hu : X.A.units + 64 < cLine) : OpD X (compareOp .Eq) (RD X.K) (RD X.K) (RD X.K) gEq := by
  refine ⟨_, op_eqP hu, ?_⟩
  rintro F H x y d e QQ Q fs rx ry ⟨h1, h2, q⟩ k
  have m1 := ok_dp h1
  exact ⟨d.py, e.py, Dp.mono' fs (At.dp rx (ok_pl h1)), Dp.mono' fs (At.dp ry (ok_pl h2)), (ok_pl h1), (ok_pl h2), by omega, k _ _ F H q (Stp.refl fs) (.bl _)⟩
theorem o_ne (hu : X.A.units + 64 < cLine) : OpD X (compareOp .NotEq) (RD X.K) (RD X.K) (RD X.K) gNe := by
  refine ⟨_, op_neP hu, ?_⟩
  rintro F H x y d e QQ Q fs rx ry ⟨h1, h2, q⟩ k
  have m1 := ok_dp h1
  exact ⟨d.py, e.py, Dp.mono' fs (At.dp rx (ok_pl h1)), Dp.mono' fs (At.dp ry (ok_pl h2)), (ok_pl h1), (ok_pl h2), by omega, k _ _ F H q (Stp.refl fs) (.bl _)⟩
/-- .. of lists that may still change -/
def gEqL : List D → List D → (D → Prop) → Prop := fun x y Q => (D.lst x).ok = true ∧ (D.lst y).ok = true ∧ Q (.bl (eqD (.lst x) (.lst y)))
def gNeL : List D → List D → (D → Prop) → Prop := fun x y Q => (D.lst x).ok = true ∧ (D.lst y).ok = true ∧ Q (.bl (!eqD (.lst x) (.lst y)))
theorem RL.dp {K : PySem.W.Frag} {F H : Hp} {v : V} {ds : List D} (fs : Same F H) (h : RL K F H v ds) (p : (D.lst ds).py.plain = true) : Dp K H v (D.lst ds).py := by
  obtain ⟨p', xs, rfl, h1, h2⟩ := h
  exact .lst (SqL.of h1) (DpAll.mono' fs (AtAll.dp h2 (by simpa [D.py, PyData.plain] using p)))
theorem o_eqL (hu : X.A.units + 64 < cLine) : OpD X (compareOp .Eq) (RL X.K) (RL X.K) (RD X.K) gEqL := by
  refine ⟨_, op_eqP hu, ?_⟩
  rintro F H x y d e QQ Q fs rx ry ⟨h1, h2, q⟩ k
  have m1 := ok_dp h1
  exact ⟨_, _, RL.dp fs rx (ok_pl h1), RL.dp fs ry (ok_pl h2), (ok_pl h1), (ok_pl h2), by omega, k _ _ F H q (Stp.refl fs) (.bl _)⟩
theorem o_neL (hu : X.A.units + 64 < cLine) : OpD X (compareOp .NotEq) (RL X.K) (RL X.K) (RD X.K) gNeL := by
  refine ⟨_, op_neP hu, ?_⟩
  rintro F H x y d e QQ Q fs rx ry ⟨h1, h2, q⟩ k
  have m1 := ok_dp h1
  exact ⟨_, _, RL.dp fs rx (ok_pl h1), RL.dp fs ry (ok_pl h2), (ok_pl h1), (ok_pl h2), by omega, k _ _ F H q (Stp.refl fs) (.bl _)⟩

/-! ### is -/
def D.isNon : D → Bool
  | .non => true
  | _ => false
theorem At.isNon {K : PySem.W.Frag} {F : Hp} {v : V} {d : D} (h : At K F v d) : decide (v = .non) = d.isNon := by
  cases h <;> simp [D.isNon]
def gIsN : D → D → (D → Prop) → Prop := fun x y Q => y = .non ∧ Q (.bl x.isNon)
def gNotN : D → D → (D → Prop) → Prop := fun x y Q => y = .non ∧ Q (.bl (!x.isNon))
theorem o_isN : OpD X (compareOp .Is) (RD X.K) (RD X.K) (RD X.K) gIsN := by
  refine ⟨_, op_isN, ?_⟩
  rintro F H x y d e QQ Q fs rx ry ⟨rfl, q⟩ k
  cases ry
  refine ⟨rfl, ?_⟩
  rw [At.isNon rx]
  exact k _ _ F H q (Stp.refl fs) (.bl _)
theorem o_notN : OpD X (compareOp .IsNot) (RD X.K) (RD X.K) (RD X.K) gNotN := by
  refine ⟨_, op_notN, ?_⟩
  rintro F H x y d e QQ Q fs rx ry ⟨rfl, q⟩ k
  cases ry
  refine ⟨rfl, ?_⟩
  rw [At.isNon rx]
  exact k _ _ F H q (Stp.refl fs) (.bl _)
def gIsB : D → D → (D → Prop) → Prop := fun x y Q => ∃ i j, x = .bl i ∧ y = .bl j ∧ Q (.bl (i == j))
def gNotB : D → D → (D → Prop) → Prop := fun x y Q => ∃ i j, x = .bl i ∧ y = .bl j ∧ Q (.bl (!(i == j)))
theorem o_isB : OpD X (compareOp .Is) (RD X.K) (RD X.K) (RD X.K) gIsB := by
  refine ⟨_, op_is_bl, ?_⟩
  rintro F H x y d e QQ Q fs rx ry ⟨i, j, rfl, rfl, q⟩ k
  cases rx; cases ry
  refine ⟨i, j, rfl, rfl, ?_⟩
  have e : decide (i = j) = (i == j) := by cases i <;> cases j <;> rfl
  rw [e]
  exact k _ _ F H q (Stp.refl fs) (.bl _)
theorem o_notB : OpD X (compareOp .IsNot) (RD X.K) (RD X.K) (RD X.K) gNotB := by
  refine ⟨_, op_isnot_bl, ?_⟩
  rintro F H x y d e QQ Q fs rx ry ⟨i, j, rfl, rfl, q⟩ k
  cases rx; cases ry
  refine ⟨i, j, rfl, rfl, ?_⟩
  have e : decide (i = j) = (i == j) := by cases i <;> cases j <;> rfl
  rw [e]
  exact k _ _ F H q (Stp.refl fs) (.bl _)

/-! ### tests, and | or | not, if | else -/
/-- by truth -/
def truV : D → Bool → Prop
  | .non, k => k = false
  | .bl b, k => k = b
  | .int i, k => k = (i != 0)
  | .str s, k => s.length ≤ sizeLine ∧ k = ((s.length : Int) != 0)
  | .tup l, k => k = !l.isEmpty
  | .lst l, k => k = !l.isEmpty
  | _, _ => False
def dTru (t : DE) : DT := fun ρ Q => t ρ fun d => ∃ k, truV d k ∧ Q k
theorem At.tru {K : PySem.W.Frag} {F H : Hp} {v : V} {d : D} {k : Bool} (fs : Same F H) (a : At K F v d) (h : truV d k) : TruV K v H k := by
  cases a with
  | non => exact h
  | bl b => exact h
  | int i => exact h
  | str x => exact h
  | lst q r =>
    refine .inl ⟨_, SqL.of (fs _ _ q), ?_⟩
    have e : k = !_ := h
    rw [e]
    cases r <;> rfl
  | tup q r =>
    refine .inr (.inl ⟨_, Same.sqT fs q, ?_⟩)
    have e : k = !_ := h
    rw [e]
    cases r <;> rfl
  | dct q => exact h.elim
  | scr q => exact h.elim
  | exc q => exact h.elim
theorem ptd_tru {t : DE} (h : PD X F0 H0 a t) (he : ∀ whole, isTrue a X.env whole = (do let v ← whole; standAt a.pos; holding [v] (truthy v)) := by intro _; rfl) : PTD X F0 H0 a (dTru t) := by
  refine ⟨pt_imp (pt_truth h.pe he) ?_⟩
  rintro σ H Q ⟨F, ρ, QQ, E, q, k⟩
  exact ⟨F, ρ, _, E, q, fun d v F' H' ⟨b, e1, q'⟩ s r => ⟨b, At.tru s.fs r e1, k b F' H' q' s⟩⟩
def dTruL (t : DA) : DT := fun ρ Q => t ρ fun l => Q (!l.isEmpty)
theorem ptd_truL {t : DA} (h : PL X F0 H0 a t) (he : ∀ whole, isTrue a X.env whole = (do let v ← whole; standAt a.pos; holding [v] (truthy v)) := by intro _; rfl) : PTD X F0 H0 a (dTruL t) := by
  refine ⟨pt_imp (pt_truth h.pe he) ?_⟩
  rintro σ H Q ⟨F, ρ, QQ, E, q, k⟩
  refine ⟨F, ρ, _, E, q, fun d v F' H' q' s ⟨p, xs, e1, h1, h2⟩ => ⟨_, ?_, k _ F' H' q' s⟩⟩
  subst e1
  refine .inl ⟨_, SqL.of h1, ?_⟩
  cases h2 <;> rfl
section
variable {tA tB : DT} {rest : List Expr}
def dAnd (t u : DT) : DT := fun ρ Q => t ρ fun c => if c = true then u ρ Q else Q false
def dOr (t u : DT) : DT := fun ρ Q => t ρ fun c => if c = true then Q true else u ρ Q
def dNot (t : DT) : DT := fun ρ Q => t ρ fun c => Q (!c)
theorem PWD.pt (h : PWD X F0 H0 a tA) : PTD X F0 H0 a tA := ⟨h.pw.pt⟩
theorem pwd_and1 (ha : PTD X F0 H0 a tA) : PWD X F0 H0 (.BoolOp .And [a] pos) tA := ⟨pw_and1 ha.pt⟩
theorem pwd_or1 (ha : PTD X F0 H0 a tA) : PWD X F0 H0 (.BoolOp .Or [a] pos) tA := ⟨pw_or1 ha.pt⟩
theorem pwd_and (ha : PTD X F0 H0 a tA) (hb : PWD X F0 H0 (.BoolOp .And (b :: rest) pos) tB) : PWD X F0 H0 (.BoolOp .And (a :: b :: rest) pos) (dAnd tA tB) := by
  refine ⟨pw_imp (L2.pw_and ha.pt hb.pw) ?_⟩
  rintro σ H Q ⟨F, ρ, QQ, E, q, k⟩
  refine ⟨F, ρ, _, E, q, fun c F1 H1 q1 s1 => ?_⟩
  cases c with
  | true => exact ⟨F1, ρ, QQ, E.step s1, q1, fun b F' H' q' s' => k b F' H' q' (s1.trans s')⟩
  | false => exact k false F1 H1 q1 s1
theorem pwd_or (ha : PTD X F0 H0 a tA) (hb : PWD X F0 H0 (.BoolOp .Or (b :: rest) pos) tB) : PWD X F0 H0 (.BoolOp .Or (a :: b :: rest) pos) (dOr tA tB) := by
  refine ⟨pw_imp (L2.pw_or ha.pt hb.pw) ?_⟩
  rintro σ H Q ⟨F, ρ, QQ, E, q, k⟩
  refine ⟨F, ρ, _, E, q, fun c F1 H1 q1 s1 => ?_⟩
  cases c with
  | false => exact ⟨F1, ρ, QQ, E.step s1, q1, fun b F' H' q' s' => k b F' H' q' (s1.trans s')⟩
  | true => exact k true F1 H1 q1 s1
theorem ptd_not (ha : PTD X F0 H0 a tA) : PTD X F0 H0 (.UnaryOp .Not a pos) (dNot tA) := by
  refine ⟨pt_imp (L2.pt_not ha.pt) ?_⟩
  rintro σ H Q ⟨F, ρ, QQ, E, q, k⟩
  exact ⟨F, ρ, _, E, q, fun c F1 H1 q1 s1 => k _ F1 H1 q1 s1⟩
def dIf {α : Type} (t : DT) (ta tb : DJ α) : DJ α := fun ρ Q => t ρ fun c => if c = true then ta ρ Q else tb ρ Q
theorem pd_if {α : Type} {R : RJ α} {ta tb : DJ α} (hc : PTD X F0 H0 c tA) (ha : PJ X F0 H0 R a ta) (hb : PJ X F0 H0 R b tb) : PJ X F0 H0 R (.IfExp c a b pos) (dIf tA ta tb) := by
  refine ⟨pe_imp (pe_ifExp hc.pt ha.pe hb.pe) ?_⟩
  rintro σ H Q ⟨F, ρ, QQ, E, q, k⟩
  refine ⟨F, ρ, _, E, q, fun c F1 H1 q1 s1 => ?_⟩
  cases c with
  | true => exact ⟨F1, ρ, QQ, E.step s1, q1, fun b v F' H' q' s' r => k b v F' H' q' (s1.trans s') r⟩
  | false => exact ⟨F1, ρ, QQ, E.step s1, q1, fun b v F' H' q' s' r => k b v F' H' q' (s1.trans s') r⟩
/-- and | or as values (bools) -/
def dAndV (ta tb : DE) : DE := fun ρ Q => ta ρ fun x => ∃ c, x = .bl c ∧ if c = true then tb ρ Q else Q (.bl false)
def dOrV (ta tb : DE) : DE := fun ρ Q => ta ρ fun x => ∃ c, x = .bl c ∧ if c = true then Q (.bl true) else tb ρ Q
def dNotV (ta : DE) : DE := fun ρ Q => ta ρ fun x => ∃ c, x = .bl c ∧ Q (.bl (!c))
theorem pd_one {op} {t : DE} (h : PD X F0 H0 a t) : PD X F0 H0 (.BoolOp op [a] pos) t := ⟨pe_one h.pe⟩
theorem pd_and {ta tb : DE} (ha : PD X F0 H0 a ta) (hb : PD X F0 H0 (.BoolOp .And (b :: rest) pos) tb) : PD X F0 H0 (.BoolOp .And (a :: b :: rest) pos) (dAndV ta tb) := by
  refine ⟨pe_imp (L2.pe_and ha.pe hb.pe) ?_⟩
  rintro σ H Q ⟨F, ρ, QQ, E, q, k⟩
  refine ⟨F, ρ, _, E, q, fun d v F1 H1 ⟨c, e1, q1⟩ s1 r => ?_⟩
  subst e1
  cases r
  refine ⟨c, rfl, ?_⟩
  cases c with
  | true => exact ⟨F1, ρ, QQ, E.step s1, q1, fun b v F' H' q' s' r => k b v F' H' q' (s1.trans s') r⟩
  | false => exact k _ _ F1 H1 q1 s1 (.bl _)
theorem pd_or {ta tb : DE} (ha : PD X F0 H0 a ta) (hb : PD X F0 H0 (.BoolOp .Or (b :: rest) pos) tb) : PD X F0 H0 (.BoolOp .Or (a :: b :: rest) pos) (dOrV ta tb) := by
  refine ⟨pe_imp (L2.pe_or ha.pe hb.pe) ?_⟩
  rintro σ H Q ⟨F, ρ, QQ, E, q, k⟩
  refine ⟨F, ρ, _, E, q, fun d v F1 H1 ⟨c, e1, q1⟩ s1 r => ?_⟩
  subst e1
  cases r
  refine ⟨c, rfl, ?_⟩
  cases c with
  | false => exact ⟨F1, ρ, QQ, E.step s1, q1, fun b v F' H' q' s' r => k b v F' H' q' (s1.trans s') r⟩
  | true => exact k _ _ F1 H1 q1 s1 (.bl _)
theorem pd_not {ta : DE} (ha : PD X F0 H0 a ta) : PD X F0 H0 (.UnaryOp .Not a pos) (dNotV ta) := by
  refine ⟨pe_imp (L2.pe_not ha.pe) ?_⟩
  rintro σ H Q ⟨F, ρ, QQ, E, q, k⟩
  refine ⟨F, ρ, _, E, q, fun d v F1 H1 ⟨c, e1, q1⟩ s1 r => ?_⟩
  subst e1
  cases r
  exact ⟨c, rfl, k _ _ F1 H1 q1 s1 (.bl _)⟩
/-- x or y, of any values -/
def dOrT (ta tb : DE) : DE := fun ρ Q => ta ρ fun d => ∃ k, truV d k ∧ if k = true then Q d else tb ρ Q
theorem pd_orT {ta tb : DE} (ha : PD X F0 H0 a ta) (hb : PD X F0 H0 (.BoolOp .Or (b :: rest) pos) tb) : PD X F0 H0 (.BoolOp .Or (a :: b :: rest) pos) (dOrT ta tb) := by
  refine ⟨pe_imp (L2.pe_orT ha.pe hb.pe) ?_⟩
  rintro σ H Q ⟨F, ρ, QQ, E, q, k⟩
  refine ⟨F, ρ, _, E, q, fun d v F1 H1 ⟨c, e1, q1⟩ s1 r => ?_⟩
  refine ⟨c, At.tru s1.fs r e1, ?_⟩
  cases c with
  | false => exact ⟨F1, ρ, QQ, E.step s1, q1, fun b v F' H' q' s' r => k b v F' H' q' (s1.trans s') r⟩
  | true => exact k _ _ F1 H1 q1 s1 r
end
/-- a < b < c -/
def dChain (g g' : D → D → (D → Prop) → Prop) (ta tb tc : DE) : DE := fun ρ Q => ta ρ fun x => tb ρ fun y => g x y fun z => ∃ k, z = .bl k ∧ (if k = true then tc ρ fun w => g' y w Q else Q (.bl false))
theorem lChain {r r' : R2} {g g' : D → D → (D → Prop) → Prop} {ta tb tc : DE} (br : Br2 (RD X.K) (RD X.K) (RD X.K) r g) (br' : Br2 (RD X.K) (RD X.K) (RD X.K) r' g') {σ : L2.St} {H : Hp} {Q : VK} (h : lJ X.K F0 H0 (RD X.K) (dChain g g' ta tb tc) σ H Q) :
    tChain r r' (lJ X.K F0 H0 (RD X.K) ta) (lJ X.K F0 H0 (RD X.K) tb) (lJ X.K F0 H0 (RD X.K) tc) σ H Q := by
  obtain ⟨F, ρ, QQ, E, q, k⟩ := h
  refine ⟨F, ρ, _, E, q, fun a v F1 H1 q1 s1 ra => ?_⟩
  refine ⟨F1, ρ, _, E.step s1, q1, fun b u F2 H2 q2 s2 rb => ?_⟩
  refine br F2 H2 v u a b _ _ s2.fs (ra.mono s2.ff) rb q2 fun c w F3 H3 ⟨kk, e1, q3⟩ s3 rc => ?_
  subst e1
  cases rc
  refine ⟨kk, rfl, ?_⟩
  cases kk with
  | false => exact k _ _ F3 H3 q3 ((s1.trans s2).trans s3) (.bl _)
  | true =>
    refine ⟨F3, ρ, _, E.step ((s1.trans s2).trans s3), q3, fun e x F4 H4 q4 s4 re => ?_⟩
    exact br' F4 H4 u x b e QQ Q s4.fs (rb.mono (s3.ff.trans s4.ff)) re q4 fun c w F' H' q' s' rc => k c w F' H' q' ((((s1.trans s2).trans s3).trans s4).trans s') rc
theorem pd_chain {op op' : CmpOp} {g g' : D → D → (D → Prop) → Prop} {ta tb tc : DE} (o : OpD X (compareOp op) (RD X.K) (RD X.K) (RD X.K) g) (o' : OpD X (compareOp op') (RD X.K) (RD X.K) (RD X.K) g') (ha : PD X F0 H0 a ta) (hb : PD X F0 H0 b tb) (hc : PD X F0 H0 c tc)
    (hm : lastMarks [op, op'] [b, c] = false := by with_unfolding_all rfl) : PD X F0 H0 (.Compare a [op, op'] [b, c] pos) (dChain g g' ta tb tc) := by
  obtain ⟨r, ho, br⟩ := o
  obtain ⟨r', ho', br'⟩ := o'
  exact ⟨pe_imp (pe_chain ho ho' ha.pe hb.pe hc.pe hm) fun σ H Q h => lChain br br' h⟩
theorem ptd_chain {op op' : CmpOp} {g g' : D → D → (D → Prop) → Prop} {ta tb tc : DE} (o : OpD X (compareOp op) (RD X.K) (RD X.K) (RD X.K) g) (o' : OpD X (compareOp op') (RD X.K) (RD X.K) (RD X.K) g') (ha : PD X F0 H0 a ta) (hb : PD X F0 H0 b tb) (hc : PD X F0 H0 c tc)
    (hm : lastMarks [op, op'] [b, c] = false := by with_unfolding_all rfl) : PTD X F0 H0 (.Compare a [op, op'] [b, c] pos) (dTst (dChain g g' ta tb tc)) := by
  obtain ⟨r, ho, br⟩ := o
  obtain ⟨r', ho', br'⟩ := o'
  exact ⟨pt_imp (pt_chain ho ho' ha.pe hb.pe hc.pe hm) fun σ H Q h => lChain br br' (lTst h)⟩

/-! ### arguments, displays -/
def dNil : DA := fun _ Q => Q []
def dCons (ta : DE) (tr : DA) : DA := fun ρ Q => ta ρ fun x => tr ρ fun xs => Q (x :: xs)
theorem pad_nil : PAD X F0 H0 [] dNil := by
  refine ⟨pa_imp pa_nil ?_⟩
  rintro σ H Q ⟨F, ρ, QQ, E, q, k⟩
  exact k [] [] F H q (Stp.refl E.fs) .nil
theorem pad_cons {es : List Expr} {ta : DE} {tr : DA} (ha : PD X F0 H0 a ta) (hr : PAD X F0 H0 es tr) (hs : starEach (a :: es) X.env = (false, eval a X.env) :: starEach es X.env := by rfl) : PAD X F0 H0 (a :: es) (dCons ta tr) := by
  refine ⟨pa_imp (pa_cons ha.pe hr.pa hs) ?_⟩
  rintro σ H Q ⟨F, ρ, QQ, E, q, k⟩
  refine ⟨F, ρ, _, E, q, fun d v F1 H1 q1 s1 r1 => ?_⟩
  exact ⟨F1, ρ, _, E.step s1, q1, fun ds vs F2 H2 q2 s2 r2 => k _ _ F2 H2 q2 (s1.trans s2) (.cons (r1.mono s2.ff) r2)⟩
def dTup (t : DA) : DE := fun ρ Q => t ρ fun l => l.length ≤ sizeLine ∧ Q (.tup l)
theorem pd_tup {es : List Expr} {t : DA} {x1} (h : PAD X F0 H0 es t) : PD X F0 H0 (.Tuple es x1 pos) (dTup t) := by
  refine ⟨pe_imp (pe_tup h.pa) ?_⟩
  rintro σ H Q ⟨F, ρ, QQ, E, q, k⟩
  refine ⟨F, ρ, _, E, q, fun ds vs F' H' ⟨hz, q'⟩ s r => ⟨by rw [r.length]; exact hz, fun p hp => ?_⟩⟩
  have n := Stp.new s.fs hp (.tup vs)
  exact k _ _ _ _ q' (s.trans n) (.tup (SqT.of upd_same) (r.mono n.ff))
def dLs (t : DA) : DA := fun ρ Q => t ρ fun l => l.length ≤ sizeLine ∧ Q l
theorem pn_lst {es : List Expr} {t : DA} (h : PAD X F0 H0 es t) : PN X F0 H0 (.List es pos) (dLs t) := by
  refine ⟨pe_imp (pe_lst h.pa) ?_⟩
  rintro σ H Q ⟨F, ρ, QQ, E, q, k⟩
  refine ⟨F, ρ, _, E, q, fun ds vs F' H' ⟨hz, q'⟩ s r => ⟨by rw [r.length]; exact hz, fun p hp => ?_⟩⟩
  exact k _ p vs _ _ q' (s.trans (Stp.own s.fs hp _)) (s.hh.nfree hp) upd_same (s.fs.free hp) r

/-! ### calls of one's own defs: a promise over data -/
/-- t: what is asked of the arguments' data, and what comes -/
def spD (K : PySem.W.Frag) (n : Nat) (t : List D → (D → Prop) → Prop) : Sp := fun vs H Q _ => ∃ F ds QQ, (Same F H ∧ (∀ b ps, F b ≠ some (.tbl ps)) ∧ LamX.Tabs Tb.T H) ∧ AtAll K F vs ds ∧ ds.length = n ∧ t ds QQ ∧ ∀ d v F' H', QQ d → Stp F H F' H' → At K F' v d → Q v H'
def dCall (t : List D → (D → Prop) → Prop) (ta : DA) : DE := fun ρ Q => ta ρ fun ds => t ds Q
theorem pd_call {k n : Nat} {f : Addr} {fd : FuncData} {ps : List Str} {CX : CXT} {E : XK} {x : Str} {p : Pos} {es : List Expr} {t : List D → (D → Prop) → Prop} {ta : DA} (G : FnOk X.prog X.w X.K X.mg X.base CX k f fd ps (spD X.K n t)) (hr : Room k X.A) (hg : Gl X x) (hm : X.mg x = some (.ref f)) (hk : PySem.W.keepIn X.K (.ref f) = true)
    (hb : Binds X.K fd ps []) (hx : Passes CX X E) (ha : PAD X F0 H0 (a :: es) ta) (hn : (a :: es).length = n := by rfl) (hdb : (x == ("__debug__" : Str)) = false := by decide) (he : starEach (a :: es) X.env = (false, eval a X.env) :: starEach es X.env := by rfl) (hpl : (backTo pos (starEach es X.env)).any (·.1) = false := by rfl) :
    PD X F0 H0 (.Call (.Name x p) (a :: es) [] pos) (dCall (fun ds Q => ds.length = n ∧ t ds Q) ta) := by
  refine ⟨pe_imp (pe_call G hr hg hm hk hb .nil hx ha.pa hdb he hpl) ?_⟩
  rintro σ H Q ⟨F, ρ, QQ, E, q, k⟩
  refine ⟨F, ρ, _, E, q, fun ds vs F1 H1 ⟨hl, q1⟩ s1 r1 => ?_⟩
  show spD X.K n t (vs ++ []) H1 Q _
  rw [List.append_nil]
  have E1 := E.step s1
  exact ⟨F1, ds, QQ, ⟨E1.fs, E1.nt, E1.tb⟩, r1, hl, q1, fun d v F' H' q' s' r' => k d v F' H' q' (s1.trans s') r'⟩
theorem spD_len {K : PySem.W.Frag} {n : Nat} {t : List D → (D → Prop) → Prop} {vs : List V} {H : Hp} {Q : VK} {E : XK} (h : spD K n t vs H Q E) : vs.length = n := by
  obtain ⟨F, ds, QQ, _, r, hl, _⟩ := h
  rw [r.length, hl]

/-! ### calls of what is built in -/
def Br1 {α γ : Type} (Ra : RJ α) (Rc : RJ γ) (r : List V → Hp → VK → Prop) (g : α → (γ → Prop) → Prop) : Prop :=
  ∀ (F H : Hp) (x : V) (a : α) (QQ : γ → Prop) (Q : VK), Same F H → Ra F H x a → g a QQ → (∀ c v F' H', QQ c → Stp F H F' H' → Rc F' H' v c → Q v H') → r [x] H Q
def ClD {α γ : Type} (X : Cx) (f : Value) (Ra : RJ α) (Rc : RJ γ) (g : α → (γ → Prop) → Prop) : Prop := ∃ r, CallR X f r ∧ Br1 Ra Rc r g
def dC1 {α γ : Type} (g : α → (γ → Prop) → Prop) (ta : DJ α) : DJ γ := fun ρ Q => ta ρ fun x => g x Q
section
variable {α γ : Type} {Ra : RJ α} {Rc : RJ γ} {g : α → (γ → Prop) → Prop} {ta : DJ α} {x : Str} {p : Pos} {id T : String}
theorem lC1 {r : List V → Hp → VK → Prop} (br : Br1 Ra Rc r g) {σ : L2.St} {H : Hp} {Q : VK} (h : lJ X.K F0 H0 Rc (dC1 g ta) σ H Q) : tCB r (tCons (lJ X.K F0 H0 Ra ta) tNil) σ H Q := by
  obtain ⟨F, ρ, QQ, E, q, k⟩ := h
  refine ⟨F, ρ, _, E, q, fun a v F1 H1 q1 s1 ra => ?_⟩
  exact br F1 H1 v a QQ Q s1.fs ra q1 fun c w F' H' q' s' rc => k c w F' H' q' (s1.trans s') rc
theorem pj_callB (o : ClD X (.builtin id) Ra Rc g) (hg : Gl X x) (hm : X.mg x = none) (hv : bootBuiltins x = some (.builtin id)) (ha : PJ X F0 H0 Ra a ta) (hn : x ≠ "__name__" := by decide) (hdb : (x == ("__debug__" : Str)) = false := by decide)
    (he : starEach [a] X.env = (false, eval a X.env) :: starEach [] X.env := by rfl) : PJ X F0 H0 Rc (.Call (.Name x p) [a] [] pos) (dC1 g ta) := by
  obtain ⟨r, ho, br⟩ := o
  exact ⟨pe_imp (pe_callB ho hg hm hv (pa_cons ha.pe pa_nil he) hn hdb he rfl) fun σ H Q h => lC1 br h⟩
theorem pj_callTy (o : ClD X (.type T) Ra Rc g) (hg : Gl X x) (hm : X.mg x = none) (hv : bootBuiltins x = some (.type T)) (ha : PJ X F0 H0 Ra a ta) (hn : x ≠ "__name__" := by decide) (hdb : (x == ("__debug__" : Str)) = false := by decide)
    (he : starEach [a] X.env = (false, eval a X.env) :: starEach [] X.env := by rfl) : PJ X F0 H0 Rc (.Call (.Name x p) [a] [] pos) (dC1 g ta) := by
  obtain ⟨r, ho, br⟩ := o
  exact ⟨pe_imp (pe_callTy ho hg hm hv (pa_cons ha.pe pa_nil he) hn hdb he rfl) fun σ H Q h => lC1 br h⟩
end
def gAbs : D → (D → Prop) → Prop := fun x Q => ∃ i, x = .int i ∧ Q (.int (i.natAbs : Int))
theorem c_abs : ClD X (.builtin "abs") (RD X.K) (RD X.K) gAbs := by
  refine ⟨_, call_abs, ?_⟩
  rintro F H x d QQ Q fs rx ⟨i, rfl, q⟩ k
  cases rx
  refine ⟨i, rfl, ?_⟩
  have e : (if i < 0 then -i else i) = (i.natAbs : Int) := by split <;> omega
  rw [e]
  exact k _ _ F H q (Stp.refl fs) (.int _)
def lenV : D → Nat → Prop
  | .tup l, n => n = l.length
  | .lst l, n => n = l.length
  | .str s, n => s.length ≤ sizeLine ∧ n = s.length
  | .scr l, n => n = l.length
  | _, _ => False
def gLen : D → (D → Prop) → Prop := fun x Q => ∃ n : Nat, lenV x n ∧ Q (.int n)
theorem c_len : ClD X (.builtin "len") (RD X.K) (RD X.K) gLen := by
  refine ⟨_, call_len, ?_⟩
  rintro F H x d QQ Q fs rx ⟨n, e, q⟩ k
  refine ⟨x, n, rfl, ?_, k _ _ F H q (Stp.refl fs) (.int _)⟩
  cases rx with
  | str z => exact e
  | lst h1 h2 => exact .inl ⟨_, SqL.of (fs _ _ h1), by rw [h2.length]; exact e⟩
  | tup h1 h2 => exact .inr ⟨_, Same.sqT fs h1, by rw [h2.length]; exact e⟩
  | scr h1 => exact .inl ⟨_, fs.seq h1, by rw [List.length_map]; exact e⟩
  | _ => exact e.elim
def gLenL : List D → (D → Prop) → Prop := fun x Q => Q (.int x.length)
theorem c_lenL : ClD X (.builtin "len") (RL X.K) (RD X.K) gLenL := by
  refine ⟨_, call_len, ?_⟩
  rintro F H x d QQ Q fs ⟨p, xs, rfl, h1, h2⟩ q k
  exact ⟨_, _, rfl, .inl ⟨_, SqL.of h1, h2.length.symm⟩, k _ _ F H q (Stp.refl fs) (.int _)⟩
/-- tuple(xs) of a list -/
def gTupL : List D → (D → Prop) → Prop := fun x Q => Q (.tup x)
theorem c_tupL : ClD X (.type "tuple") (RL X.K) (RD X.K) gTupL := by
  refine ⟨_, call_tuple_of, ?_⟩
  rintro F H x d QQ Q fs ⟨p, xs, rfl, h1, h2⟩ q k
  refine ⟨p, xs, rfl, .inl ⟨SqL.of h1, fun l hl => ?_⟩⟩
  have n := Stp.new fs hl (.tup xs)
  exact k _ _ _ _ q n (.tup (SqT.of upd_same) (h2.mono n.ff))
def gAll : List D → (D → Prop) → Prop := fun x Q => ∃ bs : List Bool, x = bs.map D.bl ∧ Q (.bl (bs.all id))
def gAny : List D → (D → Prop) → Prop := fun x Q => ∃ bs : List Bool, x = bs.map D.bl ∧ Q (.bl (bs.any id))
theorem c_all (hc : X.calm = true) : ClD X (.builtin "all") (RL X.K) (RD X.K) gAll := by
  refine ⟨_, cr_all hc, ?_⟩
  rintro F H x d QQ Q fs ⟨p, xs, rfl, h1, h2⟩ ⟨bs, rfl, q⟩ k
  have e := h2.bls
  subst e
  exact ⟨p, bs, rfl, SqL.of h1, k _ _ F H q (Stp.refl fs) (.bl _)⟩
theorem c_any (hc : X.calm = true) : ClD X (.builtin "any") (RL X.K) (RD X.K) gAny := by
  refine ⟨_, cr_any hc, ?_⟩
  rintro F H x d QQ Q fs ⟨p, xs, rfl, h1, h2⟩ ⟨bs, rfl, q⟩ k
  have e := h2.bls
  subst e
  exact ⟨p, bs, rfl, SqL.of h1, k _ _ F H q (Stp.refl fs) (.bl _)⟩
/-- max, min of a list of ints -/
def gMaxL : List D → (D → Prop) → Prop := fun x Q => ∃ ns : List Int, x = ns.map D.int ∧ 0 < ns.length ∧ ∀ m, m ∈ ns → (∀ y, y ∈ ns → y ≤ m) → Q (.int m)
def gMinL : List D → (D → Prop) → Prop := fun x Q => ∃ ns : List Int, x = ns.map D.int ∧ 0 < ns.length ∧ ∀ m, m ∈ ns → (∀ y, y ∈ ns → m ≤ y) → Q (.int m)
theorem c_maxL (hc : X.calm = true) : ClD X (.builtin "max") (RL X.K) (RD X.K) gMaxL := by
  refine ⟨_, cr_max hc, ?_⟩
  rintro F H x d QQ Q fs ⟨p, xs, rfl, h1, h2⟩ ⟨bs, rfl, hl, q⟩ k
  have e := h2.ints
  subst e
  exact ⟨p, bs, rfl, SqL.of h1, hl, fun m a b => k _ _ F H (q m a b) (Stp.refl fs) (.int _)⟩
theorem c_minL (hc : X.calm = true) : ClD X (.builtin "min") (RL X.K) (RD X.K) gMinL := by
  refine ⟨_, cr_min hc, ?_⟩
  rintro F H x d QQ Q fs ⟨p, xs, rfl, h1, h2⟩ ⟨bs, rfl, hl, q⟩ k
  have e := h2.ints
  subst e
  exact ⟨p, bs, rfl, SqL.of h1, hl, fun m a b => k _ _ F H (q m a b) (Stp.refl fs) (.int _)⟩
/-- isinstance(x, T), T built in -/
def tyD : D → Option String
  | .non => some "NoneType" | .bl _ => some "bool" | .int _ => some "int" | .str _ => some "str" | .tup _ => some "tuple" | .lst _ => some "list" | _ => none
theorem At.ty {F H : Hp} {v : V} {d : D} {T : String} (fs : Same F H) (a : At X.K F v d) (h : tyD d = some T) : TyX X.K H v (.type T) := by
  cases a with
  | non => cases h; exact .base .non
  | bl b => cases h; exact .base (.bl b)
  | int b => cases h; exact .base (.int b)
  | str b => cases h; exact .base (.str b)
  | lst h1 h2 => cases h; exact .base (.lst (fs _ _ h1))
  | tup h1 h2 =>
    cases h
    rcases h1 with (h1 | ⟨o, h1⟩) | ⟨o, its, n, h1, h2, _⟩
    · exact .base (.tup (fs _ _ h1))
    · exact .fTuple (fs _ _ h1)
    · exact .kTuple h1 h2
  | dct h1 => cases h
  | scr h1 => cases h
  | exc h1 => cases h
def dIsi (T : String) (t : DE) : DE := fun ρ Q => t ρ fun d => ∃ U b, tyD d = some U ∧ kitB U T = some b ∧ Q (.bl b)
theorem pd_isi {T : String} {t : DE} {x : Str} {p p2 : Pos} (hg : Gl X "isinstance") (hm : X.mg "isinstance" = none) (hg2 : Gl X x) (hm2 : X.mg x = none) (hv2 : bootBuiltins x = some (.type T)) (ha : PD X F0 H0 a t) (hn : x ≠ "__name__" := by decide) (hdb : (x == ("__debug__" : Str)) = false := by decide)
    (he : starEach [a, .Name x p2] X.env = (false, eval a X.env) :: starEach [.Name x p2] X.env := by rfl) (he2 : starEach [.Name x p2] X.env = (false, eval (.Name x p2) X.env) :: starEach [] X.env := by rfl) :
    PD X F0 H0 (.Call (.Name "isinstance" p) [a, .Name x p2] [] pos) (dIsi T t) := by
  refine ⟨pe_imp (pe_callB call_isi hg hm (by decide +kernel) (pa_cons ha.pe (pa_cons (pe_bltn (v := .ty T) hg2 hm2 hv2 rfl hn hdb) pa_nil he2) he) (by decide) (by decide) he (by rw [he2]; rfl)) ?_⟩
  rintro σ H Q ⟨F, ρ, QQ, E, q, k⟩
  refine ⟨F, ρ, _, E, q, fun d v F1 H1 ⟨U, b, e1, e2, q1⟩ s1 r1 => ?_⟩
  exact ⟨v, .ty T, .type U, .type T, b, rfl, .ty T, At.ty s1.fs r1 e1, kit_ty e2, k _ _ F1 H1 q1 s1 (.bl b)⟩
end
end DL

namespace DL
open PySem L2
variable [Tb]
section
variable {X : Cx} {F0 H0 : Hp} {a b c : Expr} {pos : Pos}

/-! ### subscripts -/
def ixV : D → Int → D → Prop
  | .tup l, i, z => atI l i = some z
  | .lst l, i, z => atI l i = some z
  | .str s, i, z => s.length ≤ sizeLine ∧ ∃ c, atI s.cps.toList i = some c ∧ z = .str ⟨#[c]⟩
  | .scr ns, i, z => ∃ n, atI ns i = some n ∧ z = .int n
  | _, _, _ => False
def gIx : D → D → (D → Prop) → Prop := fun x y Q => ∃ i z, y = .int i ∧ ixV x i z ∧ Q z
def gIxL : List D → D → (D → Prop) → Prop := fun x y Q => ∃ i z, y = .int i ∧ atI x i = some z ∧ Q z
theorem AtAll.atI {K : PySem.W.Frag} {F : Hp} {vs : List V} {ds : List D} {i : Int} {z : D} (h : AtAll K F vs ds) (e : L2.atI ds i = some z) : ∃ v, L2.atI vs i = some v ∧ At K F v z := by
  unfold L2.atI at e ⊢
  rw [h.length]
  cases q : ixN ds.length i with
  | none => rw [q] at e; cases e
  | some j =>
    rw [q] at e
    exact AtAll.get (i := j) h e
def IxD {α β γ : Type} (X : Cx) (Ra : RJ α) (Rb : RJ β) (Rc : RJ γ) (g : α → β → (γ → Prop) → Prop) : Prop := ∃ r, IxR X r ∧ Br2 Ra Rb Rc r g
theorem pj_ix {α β γ : Type} {Ra : RJ α} {Rb : RJ β} {Rc : RJ γ} {g : α → β → (γ → Prop) → Prop} {ta : DJ α} {tb : DJ β} (o : IxD X Ra Rb Rc g) (ha : PJ X F0 H0 Ra a ta) (hb : PJ X F0 H0 Rb b tb) (hs : PlainIx b := by exact fun _ _ => rfl) (sa : Stable Ra := by first | exact RD.stable | exact RL.stable) :
    PJ X F0 H0 Rc (.Subscript a b pos) (dOp g ta tb) := by
  obtain ⟨r, ho, br⟩ := o
  exact ⟨pe_imp (pe_ix ho ha.pe hb.pe hs) fun σ H Q h => lOp br sa h⟩
theorem o_ix : IxD X (RD X.K) (RD X.K) (RD X.K) gIx := by
  refine ⟨_, ix_seq, ?_⟩
  rintro F H x y d e QQ Q fs rx ry ⟨i, z, rfl, h, q⟩ k
  cases ry
  cases rx with
  | str s =>
    obtain ⟨hz, c, h1, rfl⟩ := h
    exact .inr (.inr ⟨s, i, c, rfl, rfl, hz, h1, k _ _ F H q (Stp.refl fs) (.str _)⟩)
  | lst h1 h2 =>
    obtain ⟨v, h3, h4⟩ := h2.atI h
    exact .inl ⟨_, _, i, v, rfl, rfl, SqL.of (fs _ _ h1), h3, k _ _ F H q (Stp.refl fs) h4⟩
  | tup h1 h2 =>
    obtain ⟨v, h3, h4⟩ := h2.atI h
    exact .inr (.inl ⟨_, _, i, v, rfl, rfl, Same.sqT fs h1, h3, k _ _ F H q (Stp.refl fs) h4⟩)
  | @scr a ns h1 =>
    obtain ⟨n, h2, rfl⟩ := h
    refine .inl ⟨_, _, i, .int n, rfl, rfl, fs.seq h1, ?_, k _ _ F H q (Stp.refl fs) (.int _)⟩
    unfold L2.atI at h2 ⊢
    rw [List.length_map]
    cases e : ixN ns.length i with
    | none => rw [e] at h2; cases h2
    | some j =>
      rw [e] at h2
      have h2' : ns[j]? = some n := h2
      show (ns.map V.int)[j]? = some (.int n)
      rw [List.getElem?_map, h2']
      rfl
  | _ => exact h.elim
theorem o_ixL : IxD X (RL X.K) (RD X.K) (RD X.K) gIxL := by
  refine ⟨_, ix_list, ?_⟩
  rintro F H x y d e QQ Q fs ⟨p, xs, rfl, h1, h2⟩ ry ⟨i, z, rfl, h, q⟩ k
  cases ry
  obtain ⟨v, h3, h4⟩ := h2.atI h
  exact ⟨p, _, i, v, rfl, rfl, SqL.of h1, h3, k _ _ F H q (Stp.refl fs) h4⟩

/-! ### slices -/
abbrev DO := Rho → (Option Int → Prop) → Prop
structure POD (X : Cx) (F0 H0 : Hp) (e : Option Expr) (t : DO) : Prop where
  po : PO X e (fun σ H Q => ∃ F ρ QQ, EnvAt X.K F0 H0 F H σ ρ ∧ t ρ QQ ∧ ∀ o F' H', QQ o → Stp F H F' H' → Q o H')
def dNoPart : DO := fun _ Q => Q none
def dPart (t : DE) : DO := fun ρ Q => t ρ fun x => ∃ i, x = .int i ∧ Q (some i)
theorem po_imp {e : Option Expr} {t t' : TO} (h : PO X e t) (w : ∀ σ H Q, t' σ H Q → t σ H Q) : PO X e t' := ⟨fun pins s σ H Q I q => h.run pins s σ H Q I (w σ H Q q)⟩
theorem pod_none : POD X F0 H0 none dNoPart := by
  refine ⟨po_imp po_none ?_⟩
  rintro σ H Q ⟨F, ρ, QQ, E, q, k⟩
  exact k none F H q (Stp.refl E.fs)
theorem pod_some {t : DE} (h : PD X F0 H0 a t) : POD X F0 H0 (some a) (dPart t) := by
  refine ⟨po_imp (po_some h.pe) ?_⟩
  rintro σ H Q ⟨F, ρ, QQ, E, q, k⟩
  refine ⟨F, ρ, _, E, q, fun d v F' H' ⟨i, e1, q'⟩ s r => ?_⟩
  subst e1
  cases r
  exact ⟨i, rfl, k _ F' H' q' s⟩
def cutL {α : Type} (xs : List α) (lo hi : Option Int) : List α := (xs.drop (HT.sIx xs.length 0 lo)).take (HT.sIx xs.length xs.length hi - HT.sIx xs.length 0 lo)
theorem AtAll.cut {K : PySem.W.Frag} {F : Hp} {vs : List V} {ds : List D} {lo hi : Option Int} (h : AtAll K F vs ds) : AtAll K F (cutV vs lo hi) (cutL ds lo hi) := by
  unfold cutV cutL
  rw [h.length]
  exact (h.drop _).take _
def dSl {α β : Type} (g : α → Option Int → Option Int → (β → Prop) → Prop) (te : DJ α) (tl th : DO) : DJ β := fun ρ Q => te ρ fun x => tl ρ fun l => th ρ fun u => g x l u Q
def gSlT : D → Option Int → Option Int → (D → Prop) → Prop := fun x l u Q => ∃ xs, x = .tup xs ∧ Q (.tup (cutL xs l u))
theorem cut_whole {α : Type} {xs : List α} {lo hi : Option Int} (h : HT.sIx xs.length 0 lo = 0 ∧ HT.sIx xs.length xs.length hi = xs.length) : cutL xs lo hi = xs := by
  unfold cutL
  rw [h.1, h.2]
  simp
theorem pd_slT {te : DE} {tl th : DO} {lo hi : Option Expr} {p2 : Pos} (he : PD X F0 H0 a te) (hl : POD X F0 H0 lo tl) (hh : POD X F0 H0 hi th) : PD X F0 H0 (.Subscript a (.Slice lo hi none p2) pos) (dSl gSlT te tl th) := by
  refine ⟨pe_imp (pe_slice sl_tupA he.pe hl.po hh.po) ?_⟩
  rintro σ H Q ⟨F, ρ, QQ, E, q, k⟩
  refine ⟨F, ρ, _, E, q, fun d v F1 H1 q1 s1 r1 => ?_⟩
  refine ⟨F1, ρ, _, E.step s1, q1, fun l F2 H2 q2 s2 => ?_⟩
  refine ⟨F2, ρ, _, E.step (s1.trans s2), q2, fun u F3 H3 ⟨xs, e1, q3⟩ s3 => ?_⟩
  subst e1
  cases r1 with
  | @tup ad vs' _ h1 h2 =>
    have h2' := h2.mono (s2.ff.trans s3.ff)
    refine ⟨_, _, rfl, Same.sqT ((s2.ff.trans s3.ff).trans s3.fs) h1, fun hw => ?_, fun hw p hp => ?_⟩
    · rw [h2.length] at hw
      rw [cut_whole hw] at q3
      exact k _ _ F3 H3 q3 ((s1.trans s2).trans s3) (.tup (Same.sqT (s2.ff.trans s3.ff) h1) h2')
    · have n := Stp.new s3.fs hp (.tup (cutV vs' l u))
      exact k _ _ _ _ q3 (((s1.trans s2).trans s3).trans n) (.tup (SqT.of upd_same) (h2'.cut.mono n.ff))
def gSlL : List D → Option Int → Option Int → (List D → Prop) → Prop := fun x l u Q => Q (cutL x l u)
theorem pn_slL {te : DA} {tl th : DO} {lo hi : Option Expr} {p2 : Pos} (he : PL X F0 H0 a te) (hl : POD X F0 H0 lo tl) (hh : POD X F0 H0 hi th) : PN X F0 H0 (.Subscript a (.Slice lo hi none p2) pos) (dSl gSlL te tl th) := by
  refine ⟨pe_imp (pe_slice sl_list he.pe hl.po hh.po) ?_⟩
  rintro σ H Q ⟨F, ρ, QQ, E, q, k⟩
  refine ⟨F, ρ, _, E, q, fun d v F1 H1 q1 s1 ⟨p, xs, e1, h1, h2⟩ => ?_⟩
  subst e1
  refine ⟨F1, ρ, _, E.step s1, q1, fun l F2 H2 q2 s2 => ?_⟩
  refine ⟨F2, ρ, _, E.step (s1.trans s2), q2, fun u F3 H3 q3 s3 => ?_⟩
  refine ⟨_, _, rfl, SqL.of (s3.hh.lst (s2.hh.lst h1)), fun p hp => ?_⟩
  have s := (s1.trans s2).trans s3
  exact k _ p _ _ _ q3 (s.trans (Stp.own s.fs hp _)) (s.hh.nfree hp) upd_same (s.fs.free hp) ((h2.mono (s2.ff.trans s3.ff)).cut)
def gSlS : D → Option Int → Option Int → (D → Prop) → Prop := fun x l u Q => ∃ z, x = .str z ∧ z.length ≤ sizeLine ∧ Q (.str (cutS z l u))
theorem pd_slS {te : DE} {tl th : DO} {lo hi : Option Expr} {p2 : Pos} (he : PD X F0 H0 a te) (hl : POD X F0 H0 lo tl) (hh : POD X F0 H0 hi th) : PD X F0 H0 (.Subscript a (.Slice lo hi none p2) pos) (dSl gSlS te tl th) := by
  refine ⟨pe_imp (pe_slice sl_str he.pe hl.po hh.po) ?_⟩
  rintro σ H Q ⟨F, ρ, QQ, E, q, k⟩
  refine ⟨F, ρ, _, E, q, fun d v F1 H1 q1 s1 r1 => ?_⟩
  refine ⟨F1, ρ, _, E.step s1, q1, fun l F2 H2 q2 s2 => ?_⟩
  refine ⟨F2, ρ, _, E.step (s1.trans s2), q2, fun u F3 H3 ⟨xs, e1, hz, q3⟩ s3 => ?_⟩
  subst e1
  cases r1
  exact ⟨_, rfl, hz, k _ _ F3 H3 q3 ((s1.trans s2).trans s3) (.str _)⟩

/-! ### texts, tuples, lists: +, * -/
def gAddS : D → D → (D → Prop) → Prop := fun x y Q => ∃ i j, x = .str i ∧ y = .str j ∧ i.length + j.length ≤ sizeLine ∧ Q (.str (i ++ j))
theorem o_addS : OpD X (binaryOp .Add) (RD X.K) (RD X.K) (RD X.K) gAddS := by
  refine ⟨_, op_add_str, ?_⟩
  rintro F H x y d e QQ Q fs rx ry ⟨i, j, rfl, rfl, hz, q⟩ k
  cases rx; cases ry
  exact ⟨i, j, rfl, rfl, hz, k _ _ F H q (Stp.refl fs) (.str _)⟩
def gCatT : D → D → (D → Prop) → Prop := fun x y Q => ∃ i j, x = .tup i ∧ y = .tup j ∧ i.length + j.length ≤ sizeLine ∧ Q (.tup (i ++ j))
theorem o_catT : OpD X (binaryOp .Add) (RD X.K) (RD X.K) (RD X.K) gCatT := by
  refine ⟨_, op_catA, ?_⟩
  rintro F H x y d e QQ Q fs rx ry ⟨i, j, rfl, rfl, hz, q⟩ k
  cases rx with
  | @tup ad1 vs1 _ h1 h2 =>
    cases ry with
    | @tup ad2 vs2 _ h3 h4 =>
      refine ⟨_, _, _, _, rfl, rfl, Same.sqT fs h1, Same.sqT fs h3, by rw [h2.length, h4.length]; exact hz, fun e => ?_, fun e e' => ?_, fun _ _ p hp => ?_⟩
      · subst e
        cases h2
        exact k _ _ F H q (Stp.refl fs) (.tup h3 h4)
      · subst e'
        cases h4
        rw [List.append_nil] at q
        exact k _ _ F H q (Stp.refl fs) (.tup h1 h2)
      · have n := Stp.new fs hp (.tup (vs1 ++ vs2))
        exact k _ _ _ _ q n (.tup (SqT.of upd_same) ((h2.append h4).mono n.ff))
/-- operators that make a new list -/
def Br2N {α β : Type} (K : PySem.W.Frag) (Ra : RJ α) (Rb : RJ β) (r : R2) (g : α → β → (List D → Prop) → Prop) : Prop :=
  ∀ (F H : Hp) (x y : V) (a : α) (b : β) (QQ : List D → Prop) (Q : VK), Same F H → Ra F H x a → Rb F H y b → g a b QQ → (∀ ds p xs F' H', QQ ds → Stp F H F' H' → H p = none → H' p = some (.lst xs) → F' p = none → AtAll K F' xs ds → Q (.ref p) H') → r x y H Q
def OpN {α β : Type} (X : Cx) (f : Value → Value → Sem Value) (Ra : RJ α) (Rb : RJ β) (g : α → β → (List D → Prop) → Prop) : Prop := ∃ r, OpR X f r ∧ Br2N X.K Ra Rb r g
theorem pn_op {α β : Type} {Ra : RJ α} {Rb : RJ β} {g : α → β → (List D → Prop) → Prop} {ta : DJ α} {tb : DJ β} {op : Operator} (o : OpN X (binaryOp op) Ra Rb g) (ha : PJ X F0 H0 Ra a ta) (hb : PJ X F0 H0 Rb b tb) (sa : Stable Ra := by first | exact RD.stable | exact RL.stable) : PN X F0 H0 (.BinOp a op b pos) (dOp g ta tb) := by
  obtain ⟨r, ho, br⟩ := o
  refine ⟨pe_imp (pe_op ho ha.pe hb.pe) ?_⟩
  rintro σ H Q ⟨F, ρ, QQ, E, q, k⟩
  refine ⟨F, ρ, _, E, q, fun a v F1 H1 q1 s1 ra => ?_⟩
  refine ⟨F1, ρ, _, E.step s1, q1, fun b u F2 H2 q2 s2 rb => ?_⟩
  exact br F2 H2 v u a b QQ Q s2.fs (sa _ _ _ _ _ _ s2 ra) rb q2 fun c p xs F' H' q' s' h1 h2 h3 h4 => k c p xs F' H' q' ((s1.trans s2).trans s') ((s1.trans s2).hh.nfree h1) h2 h3 h4
def gCat : List D → List D → (List D → Prop) → Prop := fun x y Q => x.length + y.length ≤ sizeLine ∧ Q (x ++ y)
theorem o_cat : OpN X (binaryOp .Add) (RL X.K) (RL X.K) gCat := by
  refine ⟨_, op_cat, ?_⟩
  rintro F H x y d e QQ Q fs ⟨p1, xs, rfl, h1, h2⟩ ⟨p2, ys, rfl, h3, h4⟩ ⟨hz, q⟩ k
  refine ⟨p1, p2, xs, ys, rfl, rfl, h1, h3, by rw [h2.length, h4.length]; exact hz, fun p hp => ?_⟩
  exact k _ p _ _ _ q (Stp.own fs hp _) hp upd_same (fs.free hp) (h2.append h4)
def gRep : List D → D → (List D → Prop) → Prop := fun x y Q => ∃ k : Int, y = .int k ∧ 0 ≤ k ∧ k < 2 ^ 63 ∧ x.length * k.toNat ≤ sizeLine ∧ Q (List.replicate k.toNat x).flatten
theorem AtAll.rep {K : PySem.W.Frag} {F : Hp} {vs : List V} {ds : List D} (h : AtAll K F vs ds) : ∀ n, AtAll K F (List.replicate n vs).flatten (List.replicate n ds).flatten
  | 0 => .nil
  | n + 1 => by
    rw [List.replicate_succ, List.replicate_succ, List.flatten_cons, List.flatten_cons]
    exact h.append (AtAll.rep h n)
theorem o_rep : OpN X (binaryOp .Mult) (RL X.K) (RD X.K) gRep := by
  refine ⟨_, op_rep, ?_⟩
  rintro F H x y d e QQ Q fs ⟨p1, xs, rfl, h1, h2⟩ ry ⟨n, rfl, n0, n1, hz, q⟩ k
  cases ry
  refine ⟨p1, n, xs, rfl, rfl, h1, by omega, n1, by rw [h2.length]; exact hz, fun p hp => ?_⟩
  exact k _ p _ _ _ q (Stp.own fs hp _) hp upd_same (fs.free hp) (h2.rep _)

/-! ### in -/
def rInP (neg : Bool) (K : PySem.W.Frag) : R2 := fun x y H Q => ∃ d ds, Dp K H x d ∧ (Dp K H y (.list ds) ∨ Dp K H y (.tuple ds)) ∧ d.plain = true ∧ PyData.plainAll ds = true ∧ d.depth ≤ 64 ∧ Q (.bl (if neg then !(ds.any fun z => PyData.eqv z d) else ds.any fun z => PyData.eqv z d)) H
theorem op_inP (hu : X.A.units + 65 < cLine) : OpR X (compareOp .In) (rInP false X.K) := by
  intro pins s σ H x y v u Q I rx ry h
  obtain ⟨d, ds, hd, he, sd, se, hm, q⟩ := h
  obtain ⟨as, r1⟩ := Dp.reads I d x v hd rx
  rcases he with he | he
  · obtain ⟨bs, r2⟩ := Dp.reads I _ y u he ry
    exact PySem.SeqAt.in_list_data r2 r1 se sd (by omega) ⟨.bl _, H, I, rfl, q⟩
  · obtain ⟨bs, r2⟩ := Dp.reads I _ y u he ry
    exact PySem.SeqAt.in_tuple_data r2 r1 se sd (by omega) ⟨.bl _, H, I, rfl, q⟩
theorem op_notInP (hu : X.A.units + 65 < cLine) : OpR X (compareOp .NotIn) (rInP true X.K) := by
  intro pins s σ H x y v u Q I rx ry h
  obtain ⟨d, ds, hd, he, sd, se, hm, q⟩ := h
  obtain ⟨as, r1⟩ := Dp.reads I d x v hd rx
  rcases he with he | he
  · obtain ⟨bs, r2⟩ := Dp.reads I _ y u he ry
    exact PySem.SeqAt.notIn_list_data r2 r1 se sd (by omega) ⟨.bl _, H, I, rfl, q⟩
  · obtain ⟨bs, r2⟩ := Dp.reads I _ y u he ry
    exact PySem.SeqAt.notIn_tuple_data r2 r1 se sd (by omega) ⟨.bl _, H, I, rfl, q⟩
theorem pys_any (p : PyData → Bool) : ∀ l : List D, (D.pys l).any p = l.any fun z => p z.py
  | [] => rfl
  | d :: l => by rw [D.pys, List.any_cons, List.any_cons, pys_any p l]
def gIn (neg : Bool) : D → D → (D → Prop) → Prop := fun x y Q => ∃ l, (y = .lst l ∨ y = .tup l) ∧ x.ok = true ∧ PyData.plainAll (D.pys l) = true ∧ Q (.bl (if neg then !(l.any fun z => eqD z x) else l.any fun z => eqD z x))
theorem br_in {neg : Bool} {K : PySem.W.Frag} : Br2 (RD K) (RD K) (RD K) (rInP neg K) (gIn neg) := by
  rintro F H x y d e QQ Q fs rx ry ⟨l, hl, h1, h2, q⟩ k
  have ey : Dp K H y (.list (D.pys l)) ∨ Dp K H y (.tuple (D.pys l)) := by
    rcases hl with rfl | rfl
    · exact .inl (Dp.mono' fs (At.dp ry (by simpa [D.py, PyData.plain] using h2)))
    · exact .inr (Dp.mono' fs (At.dp ry (by simpa [D.py, PyData.plain] using h2)))
  refine ⟨d.py, D.pys l, Dp.mono' fs (At.dp rx (ok_pl h1)), ey, ok_pl h1, h2, ok_dp h1, ?_⟩
  rw [pys_any]
  exact k _ _ F H q (Stp.refl fs) (.bl _)
theorem o_in (hu : X.A.units + 65 < cLine) : OpD X (compareOp .In) (RD X.K) (RD X.K) (RD X.K) (gIn false) := ⟨_, op_inP hu, br_in⟩
theorem o_notIn (hu : X.A.units + 65 < cLine) : OpD X (compareOp .NotIn) (RD X.K) (RD X.K) (RD X.K) (gIn true) := ⟨_, op_notInP hu, br_in⟩
/-- one sign in a text -/
def gInS (neg : Bool) : D → D → (D → Prop) → Prop := fun x y Q => ∃ (c : Nat) (z : Str), x = .str ⟨#[c]⟩ ∧ y = .str z ∧ Q (.bl (if neg then !decide (c ∈ z.cps.toList) else decide (c ∈ z.cps.toList)))
theorem o_inS : OpD X (compareOp .In) (RD X.K) (RD X.K) (RD X.K) (gInS false) := by
  refine ⟨_, op_in_sign, ?_⟩
  rintro F H x y d e QQ Q fs rx ry ⟨c, z, rfl, rfl, q⟩ k
  cases rx; cases ry
  exact ⟨c, z, rfl, rfl, k _ _ F H q (Stp.refl fs) (.bl _)⟩
theorem o_notInS : OpD X (compareOp .NotIn) (RD X.K) (RD X.K) (RD X.K) (gInS true) := by
  refine ⟨_, op_notIn_sign, ?_⟩
  rintro F H x y d e QQ Q fs rx ry ⟨c, z, rfl, rfl, q⟩ k
  cases rx; cases ry
  exact ⟨c, z, rfl, rfl, k _ _ F H q (Stp.refl fs) (.bl _)⟩
/-- calls that make a new list -/
def Br1N {α : Type} (K : PySem.W.Frag) (Ra : RJ α) (r : List V → Hp → VK → Prop) (g : α → (List D → Prop) → Prop) : Prop :=
  ∀ (F H : Hp) (x : V) (a : α) (QQ : List D → Prop) (Q : VK), Same F H → Ra F H x a → g a QQ → (∀ ds p xs F' H', QQ ds → Stp F H F' H' → H p = none → H' p = some (.lst xs) → F' p = none → AtAll K F' xs ds → Q (.ref p) H') → r [x] H Q
def ClN {α : Type} (X : Cx) (f : Value) (Ra : RJ α) (g : α → (List D → Prop) → Prop) : Prop := ∃ r, CallR X f r ∧ Br1N X.K Ra r g
section
variable {α : Type} {Ra : RJ α} {g : α → (List D → Prop) → Prop} {ta : DJ α} {x : Str} {p : Pos} {id T : String}
theorem lC1N {r : List V → Hp → VK → Prop} (br : Br1N X.K Ra r g) {σ : L2.St} {H : Hp} {Q : VK} (h : lN X.K F0 H0 (dC1 g ta) σ H Q) : tCB r (tCons (lJ X.K F0 H0 Ra ta) tNil) σ H Q := by
  obtain ⟨F, ρ, QQ, E, q, k⟩ := h
  refine ⟨F, ρ, _, E, q, fun a v F1 H1 q1 s1 ra => ?_⟩
  exact br F1 H1 v a QQ Q s1.fs ra q1 fun c p xs F' H' q' s' h1 h2 h3 h4 => k c p xs F' H' q' (s1.trans s') (s1.hh.nfree h1) h2 h3 h4
theorem pn_callB (o : ClN X (.builtin id) Ra g) (hg : Gl X x) (hm : X.mg x = none) (hv : bootBuiltins x = some (.builtin id)) (ha : PJ X F0 H0 Ra a ta) (hn : x ≠ "__name__" := by decide) (hdb : (x == ("__debug__" : Str)) = false := by decide)
    (he : starEach [a] X.env = (false, eval a X.env) :: starEach [] X.env := by rfl) : PN X F0 H0 (.Call (.Name x p) [a] [] pos) (dC1 g ta) := by
  obtain ⟨r, ho, br⟩ := o
  exact ⟨pe_imp (pe_callB ho hg hm hv (pa_cons ha.pe pa_nil he) hn hdb he rfl) fun σ H Q h => lC1N br h⟩
theorem pn_callTy (o : ClN X (.type T) Ra g) (hg : Gl X x) (hm : X.mg x = none) (hv : bootBuiltins x = some (.type T)) (ha : PJ X F0 H0 Ra a ta) (hn : x ≠ "__name__" := by decide) (hdb : (x == ("__debug__" : Str)) = false := by decide)
    (he : starEach [a] X.env = (false, eval a X.env) :: starEach [] X.env := by rfl) : PN X F0 H0 (.Call (.Name x p) [a] [] pos) (dC1 g ta) := by
  obtain ⟨r, ho, br⟩ := o
  exact ⟨pe_imp (pe_callTy ho hg hm hv (pa_cons ha.pe pa_nil he) hn hdb he rfl) fun σ H Q h => lC1N br h⟩
end
def gLstT : D → (List D → Prop) → Prop := fun x Q => ∃ l, x = .tup l ∧ Q l
theorem c_lstT : ClN X (.type "list") (RD X.K) gLstT := by
  refine ⟨_, call_list_of, ?_⟩
  rintro F H x d QQ Q fs rx ⟨l, rfl, q⟩ k
  cases rx with
  | tup h1 h2 => exact ⟨_, _, rfl, .inr (Same.sqT fs h1), fun p hp => k _ p _ _ _ q (Stp.own fs hp _) hp upd_same (fs.free hp) h2⟩
end

/-! ### targets -/
abbrev DG := D → Rho → (Rho → Prop) → Prop
abbrev DGs := List D → Rho → (Rho → Prop) → Prop
def lG (K : PySem.W.Frag) (F0 H0 : Hp) (vs : List Nat) (t : DG) : TG := fun v σ H Q => ∃ F ρ d QQ, EnvAt K F0 H0 F H σ ρ ∧ At K F v d ∧ t d ρ QQ ∧ ∀ ρ' σ', QQ ρ' → EnvAt K F0 H0 F H σ' ρ' → wipe σ' vs = wipe σ vs → Q σ' H
def lGs (K : PySem.W.Frag) (F0 H0 : Hp) (vs : List Nat) (t : DGs) : TGs := fun ws σ H Q => ∃ F ρ ds QQ, EnvAt K F0 H0 F H σ ρ ∧ AtAll K F ws ds ∧ t ds ρ QQ ∧ ∀ ρ' σ', QQ ρ' → EnvAt K F0 H0 F H σ' ρ' → wipe σ' vs = wipe σ vs → Q σ' H
structure PGD (X : Cx) (F0 H0 : Hp) (vs : List Nat) (tg : Expr) (t : DG) : Prop where
  pg : PG X tg (lG X.K F0 H0 vs t)
structure PGsD (X : Cx) (F0 H0 : Hp) (vs : List Nat) (tgs : List Expr) (t : DGs) : Prop where
  pg : PGs X tgs (lGs X.K F0 H0 vs t)
theorem wipe_set {σ : L2.St} {i : Nat} {o : Option V} : ∀ {vs : List Nat}, i ∈ vs → wipe (σ.set i o) vs = wipe σ vs
  | v :: vs, h => by
    unfold wipe
    by_cases e : i ∈ vs
    · rw [wipe_set e]
    · have e2 : i = v := by
        rcases List.mem_cons.mp h with z | z
        · exact z
        · exact absurd z e
      subst e2
      have z : ∀ vs : List Nat, i ∉ vs → (wipe (σ.set i o) vs).set i none = (wipe σ vs).set i none := by
        intro vs
        induction vs with
        | nil => intro _; show (σ.set i o).set i none = σ.set i none; rw [List.set_set]
        | cons w vs ih =>
          intro hn
          have hw : w ≠ i := fun e => hn (by rw [e]; exact List.mem_cons_self)
          have ih' := ih fun z => hn (List.mem_cons_of_mem _ z)
          show ((wipe (σ.set i o) vs).set w none).set i none = ((wipe σ vs).set w none).set i none
          rw [List.set_comm _ _ hw, ih', List.set_comm _ _ (Ne.symm hw)]
      exact z vs e
def gN (i : Nat) : DG := fun d ρ Q => Q (ρ.set i (some (.d d)))
section
variable {X : Cx} {F0 H0 : Hp} {a b c : Expr} {pos : Pos} {vs : List Nat}
theorem pg_imp {e : Expr} {t t' : TG} (h : PG X e t) (w : ∀ v σ H Q, t' v σ H Q → t v σ H Q) : PG X e t' := ⟨fun pins s σ H v u Q I r q => h.run pins s σ H v u Q I r (w v σ H Q q)⟩
theorem pgs_imp {e : List Expr} {t t' : TGs} (h : PGs X e t) (w : ∀ v σ H Q, t' v σ H Q → t v σ H Q) : PGs X e t' := ⟨fun pins s σ H v u Q I r q => h.run pins s σ H v u Q I r (w v σ H Q q)⟩
theorem pgd_name {i : Nat} {x : Str} (hN : X.N.Nodup) (hi : X.N[i]? = some x) (hx : Loc X.env.scope x) (hm : i ∈ vs := by decide) (hf : X.fn x = true ∨ X.env.scope.names.lookup x = some .local := by first | exact .inl rfl | exact .inr rfl | assumption) :
    PGD X F0 H0 vs (.Name x pos) (gN i) := by
  refine ⟨pg_imp (pg_name hN hi hx hf) ?_⟩
  rintro v σ H Q ⟨F, ρ, d, QQ, E, r, q, k⟩
  exact k _ _ q (E.set r) (wipe_set hm)
def dGNil : DGs := fun ds ρ Q => ds = [] ∧ Q ρ
def dGCons (t : DG) (u : DGs) : DGs := fun ds ρ Q => ∃ d r, ds = d :: r ∧ t d ρ fun ρ' => u r ρ' Q
theorem pgsd_nil : PGsD X F0 H0 vs [] dGNil := by
  refine ⟨pgs_imp pgs_nil ?_⟩
  rintro v σ H Q ⟨F, ρ, ds, QQ, E, r, ⟨rfl, q⟩, k⟩
  cases r
  exact ⟨rfl, k _ _ q E rfl⟩
theorem pgsd_cons {e : Expr} {es : List Expr} {t : DG} {u : DGs} (h1 : PGD X F0 H0 vs e t) (h2 : PGsD X F0 H0 vs es u)
    (hs : (assignEach (e :: es) X.env).map (·.2) = assign e X.env :: (assignEach es X.env).map (·.2) := by rfl) : PGsD X F0 H0 vs (e :: es) (dGCons t u) := by
  refine ⟨pgs_imp (pgs_cons h1.pg h2.pg hs) ?_⟩
  rintro ws σ H Q ⟨F, ρ, ds, QQ, E, r, ⟨d, rr, rfl, q⟩, k⟩
  cases r with
  | cons r1 r2 =>
    refine ⟨_, _, rfl, F, ρ, d, _, E, r1, q, fun ρ' σ' q' E' w' => ?_⟩
    exact ⟨F, ρ', rr, QQ, E', r2, q', fun ρ2 σ2 q2 E2 w2 => k ρ2 σ2 q2 E2 (w2.trans w')⟩
def gTp (n : Nat) (t : DGs) : DG := fun d ρ Q => ∃ l, d = .tup l ∧ l.length = n ∧ t l ρ Q
theorem pgd_tup {es : List Expr} {k : Nat} {t : DGs} {n : Nat} (hc : X.calm = true) (h : PGsD X F0 H0 vs es t)
    (hn : (assignEach es X.env).length = n := by rfl) (hst : (assignEach es X.env).findIdx? (·.1) = none := by rfl) : PGD X F0 H0 vs (.Tuple es k pos) (gTp n t) := by
  refine ⟨pg_imp (pg_tup hc h.pg hn hst) ?_⟩
  rintro v σ H Q ⟨F, ρ, d, QQ, E, r, ⟨l, rfl, hl, q⟩, k⟩
  cases r with
  | tup h1 h2 => exact ⟨_, _, rfl, Same.sqT E.fs h1, by rw [h2.length]; exact hl, F, ρ, l, QQ, E, h2, q, k⟩
end
end DL

namespace DL
open PySem L2
variable [Tb]
section
variable {X : Cx} {F0 H0 : Hp} {a b c e : Expr} {pos : Pos} {st : Stmt} {rest sts : List Stmt} {t u : DS}

/-! ### statements -/
def dNext : DS := fun DD ρ => DD.nx ρ
def dSeq (t u : DS) : DS := fun DD ρ => t { DD with nx := u DD } ρ
def dBrk : DS := fun DD ρ => DD.bk ρ
def dCnt : DS := fun DD ρ => DD.ct ρ
def dRet (t : DE) : DS := fun DD ρ => t ρ DD.rt
def dRetL (t : DA) : DS := fun DD ρ => t ρ fun l => DD.rt (.lst l)
def dDrop (t : DE) : DS := fun DD ρ => t ρ fun _ => DD.nx ρ
def dIfS (c : DT) (t u : DS) : DS := fun DD ρ => c ρ fun b => if b = true then t DD ρ else u DD ρ
def dNever : DS := fun _ _ => False
theorem pssd_nil : PSsD X F0 H0 [] dNext := by
  refine ⟨pss_imp pss_nil ?_⟩
  rintro G σ H ⟨F, ρ, DD, E, q, l⟩
  exact l.nx ρ σ F H q (Same.refl _) E
theorem pssd_cons (h1 : PSD X F0 H0 st t) (h2 : PSsD X F0 H0 rest u) : PSsD X F0 H0 (st :: rest) (dSeq t u) := by
  refine ⟨pss_imp (pss_cons h1.ps h2.ps) ?_⟩
  rintro G σ H ⟨F, ρ, DD, E, q, l⟩
  exact ⟨F, ρ, { DD with nx := u DD }, E, q, ⟨fun ρ' σ' F' H' q' s' E' => ⟨F', ρ', DD, E', q', l.mono s'⟩, l.bk, l.ct, l.rt⟩⟩
/-- a cut: what holds between the two is the prover's to say -/
def dCut (t u : DS) : DS := fun DD ρ => ∃ M : Rho → Prop, t { DD with nx := M } ρ ∧ ∀ ρ', M ρ' → u DD ρ'
theorem pssd_cut (h1 : PSD X F0 H0 st t) (h2 : PSsD X F0 H0 rest u) : PSsD X F0 H0 (st :: rest) (dCut t u) := by
  refine ⟨pss_imp (pss_cons h1.ps h2.ps) ?_⟩
  rintro G σ H ⟨F, ρ, DD, E, ⟨M, q, k⟩, l⟩
  exact ⟨F, ρ, { DD with nx := M }, E, q, ⟨fun ρ' σ' F' H' q' s' E' => ⟨F', ρ', DD, E', k ρ' q', l.mono s'⟩, l.bk, l.ct, l.rt⟩⟩
theorem pssd_one (h1 : PSD X F0 H0 st t) : PSsD X F0 H0 [st] t := ⟨pss_one h1.ps⟩
theorem psd_pass : PSD X F0 H0 (.Pass pos) dNext := by
  refine ⟨ps_imp ps_pass ?_⟩
  rintro G σ H ⟨F, ρ, DD, E, q, l⟩
  exact l.nx ρ σ F H q (Same.refl _) E
theorem psd_break : PSD X F0 H0 (.Break pos) dBrk := by
  refine ⟨ps_imp ps_break ?_⟩
  rintro G σ H ⟨F, ρ, DD, E, q, l⟩
  exact l.bk ρ σ F H q (Same.refl _) E
theorem psd_continue : PSD X F0 H0 (.Continue pos) dCnt := by
  refine ⟨ps_imp ps_continue ?_⟩
  rintro G σ H ⟨F, ρ, DD, E, q, l⟩
  exact l.ct ρ σ F H q (Same.refl _) E
theorem psd_never : PSD X F0 H0 st dNever := ⟨ps_imp ps_never (by rintro G σ H ⟨F, ρ, DD, E, q, l⟩; exact q)⟩
theorem psd_ret {te : DE} (h : PD X F0 H0 e te) : PSD X F0 H0 (.Return (some e) pos) (dRet te) := by
  refine ⟨ps_imp (ps_ret h.pe) ?_⟩
  rintro G σ H ⟨F, ρ, DD, E, q, l⟩
  exact ⟨F, ρ, _, E, q, fun d v F' H' q' s r => l.rt d v F' H' q' s.ff (E.st.trans s) r⟩
theorem psd_expr {te : DE} (h : PD X F0 H0 e te) (hs : swapsWith e none pos.line X.env = pure false := by rfl) : PSD X F0 H0 (.Expr e pos) (dDrop te) := by
  refine ⟨ps_imp (ps_expr h.pe hs) ?_⟩
  rintro G σ H ⟨F, ρ, DD, E, q, l⟩
  exact ⟨F, ρ, _, E, q, fun d v F' H' q' s r => l.nx ρ σ F' H' q' s.ff (E.step s)⟩
theorem psd_if {tc : DT} {s1 s2 : List Stmt} (hc : PTD X F0 H0 c tc) (ha : PSsD X F0 H0 s1 t) (hb : PSsD X F0 H0 s2 u) : PSD X F0 H0 (.If c s1 s2 pos) (dIfS tc t u) := by
  refine ⟨ps_imp (ps_if hc.pt ha.ps hb.ps) ?_⟩
  rintro G σ H ⟨F, ρ, DD, E, q, l⟩
  refine ⟨F, ρ, _, E, q, fun b F' H' q' s => ?_⟩
  cases b with
  | true => exact ⟨F', ρ, DD, E.step s, q', l.mono s.ff⟩
  | false => exact ⟨F', ρ, DD, E.step s, q', l.mono s.ff⟩

/-! ### stores -/
def dSet (i : Nat) (t : DE) : DS := fun DD ρ => t ρ fun d => DD.nx (ρ.set i (some (.d d)))
def dSetO (i : Nat) (t : DA) : DS := fun DD ρ => t ρ fun l => DD.nx (ρ.set i (some (.own l)))
theorem psd_set {i : Nat} {x : Str} {te : DE} {pos' : Pos} (hN : X.N.Nodup) (hi : X.N[i]? = some x) (hx : Loc X.env.scope x) (h : PD X F0 H0 e te) (hs : swapsWith e (some (.Name x pos')) pos.line X.env = pure false := by rfl) (hf : X.fn x = true ∨ X.env.scope.names.lookup x = some .local := by first | exact .inl rfl | exact .inr rfl | assumption) :
    PSD X F0 H0 (.Assign [.Name x pos'] e pos) (dSet i te) := by
  refine ⟨ps_imp (ps_set hN hi hx h.pe hs hf) ?_⟩
  rintro G σ H ⟨F, ρ, DD, E, q, l⟩
  exact ⟨F, ρ, _, E, q, fun d v F' H' q' s r => l.nx _ _ F' H' q' s.ff ((E.step s).set r)⟩
theorem EnvAt.newOwn {K : PySem.W.Frag} {F H F' H' : Hp} {σ : L2.St} {ρ : Rho} {i : Nat} {p : Addr} {xs : List V} {ds : List D} (E : EnvAt K F0 H0 F H σ ρ) (s : Stp F H F' H') (hp : NF H p) (h1 : H' p = some (.lst xs)) (h2 : F' p = none) (r : AtAll K F' xs ds) :
    EnvAt K F0 H0 F' H' (σ.set i (some (.ref p))) (ρ.set i (some (.own ds))) := by
  refine (E.step s).setOwn h1 h2 (E.st.hh.nf hp) r fun j es hj z => ?_
  obtain ⟨q, ys, e1, e2, _⟩ := E.ow j es hj
  rw [z] at e1
  cases e1
  exact hp.ne e2 (fun _ z => HO.noConfusion z) rfl
theorem psd_setN {i : Nat} {x : Str} {te : DA} {pos' : Pos} (hN : X.N.Nodup) (hi : X.N[i]? = some x) (hx : Loc X.env.scope x) (h : PN X F0 H0 e te) (hs : swapsWith e (some (.Name x pos')) pos.line X.env = pure false := by rfl) (hf : X.fn x = true ∨ X.env.scope.names.lookup x = some .local := by first | exact .inl rfl | exact .inr rfl | assumption) :
    PSD X F0 H0 (.Assign [.Name x pos'] e pos) (dSetO i te) := by
  refine ⟨ps_imp (ps_set hN hi hx h.pe hs hf) ?_⟩
  rintro G σ H ⟨F, ρ, DD, E, q, l⟩
  exact ⟨F, ρ, _, E, q, fun ds p xs F' H' q' s hp h1 h2 r => l.nx _ _ F' H' q' s.ff (E.newOwn s hp h1 h2 r)⟩
def dPar (i j : Nat) (t : DA) : DS := fun DD ρ => t ρ fun ds => ∃ d e, ds = [d, e] ∧ DD.nx ((ρ.set i (some (.d d))).set j (some (.d e)))
theorem psd_par {i j : Nat} {x y : Str} {ta : DA} {px py pt : Pos} {kt k2 pt2} (hc : X.calm = true) (hN : X.N.Nodup) (hi : X.N[i]? = some x) (hj : X.N[j]? = some y) (hij : i ≠ j)
    (hx : X.env.scope.names.lookup x = some .local) (hy : X.env.scope.names.lookup y = some .local) (ha : PAD X F0 H0 [a, b] ta)
    (hw : swappedStores [.Tuple [.Name x px, .Name y py] kt pt] (.Tuple [a, b] k2 pt2) X.env = pure (some [x, y]) := by rfl)
    (hs : swapsWithSole [.Tuple [.Name x px, .Name y py] kt pt] (.Tuple [a, b] k2 pt2) pos.line X.env = pure false := by rfl) :
    PSD X F0 H0 (.Assign [.Tuple [.Name x px, .Name y py] kt pt] (.Tuple [a, b] k2 pt2) pos) (dPar i j ta) := by
  refine ⟨ps_imp (ps_par hc hN hi hj hij hx hy ha.pa hw hs) ?_⟩
  rintro G σ H ⟨F, ρ, DD, E, q, l⟩
  refine ⟨F, ρ, _, E, q, fun ds vs F' H' ⟨d, e, e1, q'⟩ s r => ?_⟩
  subst e1
  cases r with
  | cons r1 r2 =>
    cases r2 with
    | cons r2 r3 =>
      cases r3
      exact ⟨_, _, rfl, l.nx _ _ F' H' q' s.ff (((E.step s).set r1).set r2)⟩
def dAsg (te : DE) (g : DG) : DS := fun DD ρ => te ρ fun d => g d ρ DD.nx
theorem psd_asg {vs : List Nat} {tg : Expr} {te : DE} {g : DG} (h : PD X F0 H0 e te) (hg : PGD X F0 H0 vs tg g) (hs : swapsWithSole [tg] e pos.line X.env = pure false := by rfl) (hw : swappedStores [tg] e X.env = pure none := by rfl)
    (h1 : (assignEach [tg] X.env).map (·.2) = [assign tg X.env] := by rfl) : PSD X F0 H0 (.Assign [tg] e pos) (dAsg te g) := by
  refine ⟨ps_imp (ps_asg h.pe hg.pg hs hw h1) ?_⟩
  rintro G σ H ⟨F, ρ, DD, E, q, l⟩
  exact ⟨F, ρ, _, E, q, fun d v F' H' q' s r => ⟨F', ρ, d, _, E.step s, r, q', fun ρ' σ' q2 E2 _ => l.nx _ _ F' H' q2 s.ff E2⟩⟩
/-- slots from which names are to be stored -/
def allV : List Nat := List.range 60

/-! ### a list of one's own: append, extend, pop, xs[i] = v; and frozen -/
def dApp (i : Nat) (t : DE) : DS := fun DD ρ => ∃ l, ρ[i]? = some (some (.own l)) ∧ l.length < sizeLine ∧ t ρ fun d => DD.nx (ρ.set i (some (.own (l ++ [d]))))
theorem psd_app {i : Nat} {te : DE} {o : Expr} {apos cpos : Pos} (ho : PE X o (tVar i)) (h : PD X F0 H0 e te) (hs : swapsWith (.Call (.Attribute o "append" apos) [e] [] cpos) none pos.line X.env = pure false := by rfl)
    (hbase : attributeBase o "append" X.env (eval o X.env) = eval o X.env := by rfl)
    (hfew : ((backTo cpos (starEach [e] X.env)).all (fun x => !x.1) && (backToKw cpos (keywordEach [] X.env)).all (fun x => x.1.isSome) && decide ([e].length + ([] : List Keyword).length + (if ([] : List Keyword).isEmpty then 0 else 1) < 30)) = true := by rfl)
    (hline : (apos.endLine == cpos.line) = true := by rfl) (he : starEach [e] X.env = (false, eval e X.env) :: starEach [] X.env := by rfl) : PSD X F0 H0 (.Expr (.Call (.Attribute o "append" apos) [e] [] cpos) pos) (dApp i te) := by
  refine ⟨ps_imp (ps_expr (pe_bm PySem.F.plainAttrs_list PySem.F.slot_list_append PySem.F.type_list_append mt_append ho (pa_cons h.pe pa_nil he) hbase hfew hline he rfl) hs) ?_⟩
  rintro G σ H ⟨F, ρ, DD, E, ⟨l, hl, hz, q⟩, L⟩
  obtain ⟨p, xs, e1, e2, e3, e4, e5⟩ := E.ow i l hl
  refine ⟨_, e1, .inl ⟨rfl, _, SqL.of e2⟩, F, ρ, _, E, q, fun d v F' H' q' s r => ?_⟩
  have E' := E.step s
  have r' := e5.mono s.ff
  refine ⟨p, xs, v, rfl, rfl, s.hh.lst e2, by rw [e5.length]; exact hz, ?_⟩
  exact L.nx _ _ _ _ q' s.ff (E'.chg hl e1 (r'.append (.cons r .nil)))
def dExt (i : Nat) (t : DA) : DS := fun DD ρ => ∃ l, ρ[i]? = some (some (.own l)) ∧ t ρ fun m => l.length + m.length ≤ sizeLine ∧ DD.nx (ρ.set i (some (.own (l ++ m))))
theorem psd_ext {i : Nat} {te : DA} {o : Expr} {apos cpos : Pos} (ho : PE X o (tVar i)) (h : PL X F0 H0 e te) (hs : swapsWith (.Call (.Attribute o "extend" apos) [e] [] cpos) none pos.line X.env = pure false := by rfl)
    (hbase : attributeBase o "extend" X.env (eval o X.env) = eval o X.env := by rfl)
    (hfew : ((backTo cpos (starEach [e] X.env)).all (fun x => !x.1) && (backToKw cpos (keywordEach [] X.env)).all (fun x => x.1.isSome) && decide ([e].length + ([] : List Keyword).length + (if ([] : List Keyword).isEmpty then 0 else 1) < 30)) = true := by rfl)
    (hline : (apos.endLine == cpos.line) = true := by rfl) (he : starEach [e] X.env = (false, eval e X.env) :: starEach [] X.env := by rfl) : PSD X F0 H0 (.Expr (.Call (.Attribute o "extend" apos) [e] [] cpos) pos) (dExt i te) := by
  refine ⟨ps_imp (ps_expr (pe_bm PySem.F.plainAttrs_list PySem.F.slot_list_extend PySem.F.type_list_extend mt_extend ho (pa_cons h.pe pa_nil he) hbase hfew hline he rfl) hs) ?_⟩
  rintro G σ H ⟨F, ρ, DD, E, ⟨l, hl, q⟩, L⟩
  obtain ⟨p, xs, e1, e2, e3, e4, e5⟩ := E.ow i l hl
  refine ⟨_, e1, .inl ⟨rfl, _, SqL.of e2⟩, F, ρ, _, E, q, fun m v F' H' ⟨hz, q'⟩ s ⟨p2, ys, ev, h1, h2⟩ => ?_⟩
  subst ev
  have E' := E.step s
  have r' := e5.mono s.ff
  refine ⟨p, p2, xs, ys, rfl, rfl, s.hh.lst e2, h1, by rw [e5.length, h2.length]; exact hz, ?_⟩
  exact L.nx _ _ _ _ q' s.ff (E'.chg hl e1 (r'.append h2))
/-- x = xs.pop() -/
def dPop (i j : Nat) : DS := fun DD ρ => ∃ l d, i ≠ j ∧ ρ[i]? = some (some (.own l)) ∧ l[l.length - 1]? = some d ∧ DD.nx ((ρ.set i (some (.own l.dropLast))).set j (some (.d d)))
theorem AtAll.dropLast {K : PySem.W.Frag} {F : Hp} {vs : List V} {ds : List D} (h : AtAll K F vs ds) : AtAll K F vs.dropLast ds.dropLast := by
  rw [List.dropLast_eq_take, List.dropLast_eq_take, h.length]
  exact h.take _
theorem psd_pop {i j : Nat} {x : Str} {o : Expr} {apos cpos pos' : Pos} (ho : PE X o (tVar i)) (hN : X.N.Nodup) (hi : X.N[j]? = some x) (hx : Loc X.env.scope x)
    (hbase : attributeBase o "pop" X.env (eval o X.env) = eval o X.env := by rfl) (hline : (apos.endLine == cpos.line) = true := by rfl) (hs : swapsWith (.Call (.Attribute o "pop" apos) [] [] cpos) (some (.Name x pos')) pos.line X.env = pure false := by rfl)
    (hf : X.fn x = true ∨ X.env.scope.names.lookup x = some .local := by first | exact .inl rfl | exact .inr rfl | assumption) : PSD X F0 H0 (.Assign [.Name x pos'] (.Call (.Attribute o "pop" apos) [] [] cpos) pos) (dPop i j) := by
  refine ⟨ps_imp (ps_set hN hi hx (pe_bm0 PySem.F.plainAttrs_list PySem.F.slot_list_pop PySem.F.type_list_pop mt_pop ho hbase hline) hs hf) ?_⟩
  rintro G σ H ⟨F, ρ, DD, E, ⟨l, d, hij, hl, hd, q⟩, L⟩
  obtain ⟨p, xs, e1, e2, e3, e4, e5⟩ := E.ow i l hl
  obtain ⟨v, h1, h2⟩ := e5.get hd
  refine ⟨_, e1, .inl ⟨rfl, _, SqL.of e2⟩, p, xs, v, rfl, rfl, e2, by rw [e5.length]; exact h1, ?_⟩
  exact L.nx _ _ _ _ q (Same.refl _) ((E.chg hl e1 e5.dropLast).set h2)
/-- a ghost step: from here on slot i is nobody's to change -/
def dFrz (i : Nat) (t : DS) : DS := fun DD ρ => ∃ l, ρ[i]? = some (some (.own l)) ∧ t DD (ρ.set i (some (.d (.lst l))))
theorem pssd_frz {i : Nat} (h : PSsD X F0 H0 sts t) : PSsD X F0 H0 sts (dFrz i t) := by
  refine ⟨pss_imp h.ps ?_⟩
  rintro G σ H ⟨F, ρ, DD, E, ⟨l, hl, q⟩, L⟩
  obtain ⟨F', ff, E'⟩ := E.freeze hl
  exact ⟨F', _, DD, E', q, L.mono ff⟩
theorem psd_frz {i : Nat} (h : PSD X F0 H0 st t) : PSD X F0 H0 st (dFrz i t) := by
  refine ⟨ps_imp h.ps ?_⟩
  rintro G σ H ⟨F, ρ, DD, E, ⟨l, hl, q⟩, L⟩
  obtain ⟨F', ff, E'⟩ := E.freeze hl
  exact ⟨F', _, DD, E', q, L.mono ff⟩
/-- return of a list of one's own -/
theorem psd_retL {te : DA} (h : PN X F0 H0 e te) : PSD X F0 H0 (.Return (some e) pos) (dRet (dFz te)) := psd_ret h.pd
/-- an own slot takes part in a store: xs[k] = e -/
def dSetAt (i : Nat) (te tk : DE) : DS := fun DD ρ => te ρ fun d => ∃ l : List D, ρ[i]? = some (some (.own l)) ∧ tk ρ fun y => ∃ (k : Int) (j : Nat), y = .int k ∧ ixN l.length k = some j ∧ DD.nx (ρ.set i (some (.own (l.set j d))))
theorem psd_setAt {i : Nat} {te tk : DE} {o : Expr} {tpos : Pos} (ho : PE X o (tVar i)) (h : PD X F0 H0 e te) (hk : PD X F0 H0 a tk) (hs : swapsWithSole [.Subscript o a tpos] e pos.line X.env = pure false := by rfl) (hw : swappedStores [.Subscript o a tpos] e X.env = pure none := by rfl)
    (h1 : (assignEach [.Subscript o a tpos] X.env).map (·.2) = [assign (.Subscript o a tpos) X.env] := by rfl)
    (ha : ∀ v, assign (.Subscript o a tpos) X.env v = (do
      let ov ← holding [v] (eval o X.env)
      let iv ← holding [v, ov] (eval a X.env)
      standAt tpos
      holding [v, ov, iv] (setItem ov iv v)
      release [v, ov, iv] []) := by intro _; rfl) : PSD X F0 H0 (.Assign [.Subscript o a tpos] e pos) (dSetAt i te tk) := by
  refine ⟨ps_imp (ps_asg h.pe (pg_sub ho hk.pe set_list ha) hs hw h1) ?_⟩
  rintro G σ H ⟨F, ρ, DD, E, q, L⟩
  refine ⟨F, ρ, _, E, q, fun d v F1 H1 ⟨l, hl, q1⟩ s1 r1 => ?_⟩
  have E1 := E.step s1
  obtain ⟨p, xs, e1, e2, e3, e4, e5⟩ := E1.ow i l hl
  refine ⟨_, e1, F1, ρ, _, E1, q1, fun y w F2 H2 ⟨k, j, ey, hj, q2⟩ s2 r2 => ?_⟩
  subst ey
  cases r2
  have E2 := E1.step s2
  refine ⟨p, xs, k, j, rfl, rfl, s2.hh.lst e2, by rw [e5.length]; exact hj, ?_⟩
  exact L.nx _ _ _ _ q2 (s1.ff.trans s2.ff) (E2.chg hl e1 ((e5.mono s2.ff).set (r1.mono s2.ff) j))
end
end DL

namespace DL
open PySem PySem.Spec PyProof.Rows L2
variable [Tb]

/-! ### what is walked -/
structure Walk (K : PySem.W.Frag) (ok : Hp → Hp → Prop) (J : It) (items : List D) : Prop where
  go : ∀ i F H, ok F H → i < items.length → J.go i H
  stop : ∀ F H, ok F H → J.stop items.length H
  yld : ∀ i d F H x H', ok F H → items[i]? = some d → J.yld i H x H' → ∃ F', Stp F H F' H' ∧ At K F' x d
def okS (F1 : Hp) : Hp → Hp → Prop := fun F H => Same F1 F ∧ Same F H
theorem Walk.weak {K : PySem.W.Frag} {ok ok' : Hp → Hp → Prop} {J : It} {items : List D} (w : Walk K ok J items) (h : ∀ F H, ok' F H → ok F H) : Walk K ok' J items :=
  ⟨fun i F H a => w.go i F H (h _ _ a), fun F H a => w.stop F H (h _ _ a), fun i d F H x H' a => w.yld i d F H x H' (h _ _ a)⟩
/-- S: the walked thing stays whatever is stored; else: as long as nothing is stored -/
def lI (K : PySem.W.Frag) (F0 H0 : Hp) (S : Bool) (t : DA) : TI := fun σ H R => ∃ F ρ QQ, EnvAt K F0 H0 F H σ ρ ∧ t ρ QQ ∧
  ∀ items J F' H', QQ items → Stp F H F' H' → Walk K (if S then okS F' else fun F2 H2 => Stp F' H' F2 H2) J items → R J H'
structure PID (X : Cx) (F0 H0 : Hp) (S : Bool) (tg iter : Expr) (t : DA) : Prop where
  pi : PI X tg iter (lI X.K F0 H0 S t)
section
variable {X : Cx} {F0 H0 : Hp} {a b c e tg iter : Expr} {pos : Pos} {st : Stmt} {sts : List Stmt}
theorem pi_imp {t t' : TI} (h : PI X tg iter t) (w : ∀ σ H Q, t' σ H Q → t σ H Q) : PI X tg iter t' := ⟨fun pins s σ H R I q => h.run pins s σ H R I (w σ H R q)⟩
theorem PID.weak {t : DA} (h : PID X F0 H0 true tg iter t) : PID X F0 H0 false tg iter t := by
  refine ⟨pi_imp h.pi ?_⟩
  rintro σ H R ⟨F, ρ, QQ, E, q, k⟩
  exact ⟨F, ρ, QQ, E, q, fun items J F' H' q' s w => k items J F' H' q' s (w.weak fun F2 H2 z => ⟨z.ff, z.fs⟩)⟩
def dSeqL (t : DE) : DA := fun ρ Q => t ρ fun d => ∃ l, d = .lst l ∧ Q l
def dSeqT (t : DE) : DA := fun ρ Q => t ρ fun d => ∃ l, d = .tup l ∧ Q l
theorem walk_lst {K : PySem.W.Frag} {F1 : Hp} {p : Addr} {xs : List V} {ds : List D} (h : F1 p = some (.lst xs)) (r : AtAll K F1 xs ds) : Walk K (okS F1) (Itl K p) ds where
  go := fun i F H ⟨a, b⟩ hi => ⟨xs, xs[i]'(by rw [r.length]; exact hi), SqL.of (b _ _ (a _ _ h)), List.getElem?_eq_getElem _⟩
  stop := fun F H ⟨a, b⟩ => ⟨xs, SqL.of (b _ _ (a _ _ h)), by rw [r.length]; exact Nat.le_refl _⟩
  yld := fun i d F H x H' ⟨a, b⟩ hd ⟨e1, e2⟩ => by
    subst e1
    obtain ⟨v, h1, h2⟩ := r.get hd
    have e3 := e2 xs (SqL.of (b _ _ (a _ _ h)))
    rw [h1] at e3
    cases e3
    exact ⟨F, Stp.refl b, h2.mono a⟩
theorem walk_own {K : PySem.W.Frag} {F1 H1 : Hp} {p : Addr} {xs : List V} {ds : List D} (h : H1 p = some (.lst xs)) (r : AtAll K F1 xs ds) : Walk K (fun F H => Stp F1 H1 F H) (Itl K p) ds where
  go := fun i F H a hi => ⟨xs, xs[i]'(by rw [r.length]; exact hi), SqL.of (a.hh.lst h), List.getElem?_eq_getElem _⟩
  stop := fun F H a => ⟨xs, SqL.of (a.hh.lst h), by rw [r.length]; exact Nat.le_refl _⟩
  yld := fun i d F H x H' a hd ⟨e1, e2⟩ => by
    subst e1
    obtain ⟨v, h1, h2⟩ := r.get hd
    have e3 := e2 xs (SqL.of (a.hh.lst h))
    rw [h1] at e3
    cases e3
    exact ⟨F, Stp.refl a.fs, h2.mono a.ff⟩
theorem walk_tup {K : PySem.W.Frag} {F1 : Hp} {p : Addr} {xs : List V} {ds : List D} (h : SqT K F1 p xs) (r : AtAll K F1 xs ds) : Walk K (okS F1) (Itt K p) ds where
  go := fun i F H ⟨a, b⟩ hi => ⟨xs, xs[i]'(by rw [r.length]; exact hi), Same.sqT b (Same.sqT a h), List.getElem?_eq_getElem _⟩
  stop := fun F H ⟨a, b⟩ => ⟨xs, Same.sqT b (Same.sqT a h), by rw [r.length]; exact Nat.le_refl _⟩
  yld := fun i d F H x H' ⟨a, b⟩ hd ⟨e1, e2⟩ => by
    subst e1
    obtain ⟨v, h1, h2⟩ := r.get hd
    have e3 := e2 xs (Same.sqT b (Same.sqT a h))
    rw [h1] at e3
    cases e3
    exact ⟨F, Stp.refl b, h2.mono a⟩
/-- a list that nobody changes -/
theorem pid_lst {t : DE} (h : PD X F0 H0 iter t) : PID X F0 H0 true tg iter (dSeqL t) := by
  refine ⟨pi_imp (pi_list h.pe) ?_⟩
  rintro σ H R ⟨F, ρ, QQ, E, q, k⟩
  refine ⟨F, ρ, _, E, q, fun d v F' H' ⟨l, e1, q'⟩ s r => ?_⟩
  subst e1
  cases r with
  | lst h1 h2 => exact ⟨_, rfl, ⟨_, SqL.of (s.fs _ _ h1)⟩, k l _ F' H' q' s (walk_lst h1 h2)⟩
/-- a list of one's own: while nothing is stored -/
theorem pid_own {t : DA} (h : PL X F0 H0 iter t) : PID X F0 H0 false tg iter t := by
  refine ⟨pi_imp (pi_list h.pe) ?_⟩
  rintro σ H R ⟨F, ρ, QQ, E, q, k⟩
  refine ⟨F, ρ, _, E, q, fun d v F' H' q' s ⟨p, xs, e1, h1, h2⟩ => ?_⟩
  subst e1
  exact ⟨p, rfl, ⟨_, SqL.of h1⟩, k d _ F' H' q' s (walk_own h1 h2)⟩
theorem pid_tup {t : DE} (h : PD X F0 H0 iter t) : PID X F0 H0 true tg iter (dSeqT t) := by
  refine ⟨pi_imp (pi_tup h.pe) ?_⟩
  rintro σ H R ⟨F, ρ, QQ, E, q, k⟩
  refine ⟨F, ρ, _, E, q, fun d v F' H' ⟨l, e1, q'⟩ s r => ?_⟩
  subst e1
  cases r with
  | tup h1 h2 => exact ⟨_, rfl, ⟨_, Same.sqT s.fs h1⟩, k l _ F' H' q' s (walk_tup h1 h2)⟩
theorem walk_rng {K : PySem.W.Frag} {F1 : Hp} {lo : Int} {n : Nat} : Walk K (okS F1) (Itr lo n) ((List.range n).map fun (i : Nat) => D.int (lo + i)) where
  go := fun i F H _ hi => by
    show i < n
    simpa using hi
  stop := fun F H _ => by
    show n ≤ _
    simp
  yld := fun i d F H x H' ⟨_, b⟩ hd ⟨e1, e2⟩ => by
    subst e1 e2
    rw [List.getElem?_map] at hd
    by_cases hi : i < n
    · rw [List.getElem?_range hi] at hd
      cases hd
      exact ⟨F, Stp.refl b, .int _⟩
    · rw [List.getElem?_eq_none (by simpa using hi)] at hd
      cases hd
def rng (lo hi : Int) : List D := (List.range (hi - lo).toNat).map fun (i : Nat) => D.int (lo + i)
def dRng1 (t : DE) : DA := fun ρ Q => t ρ fun x => ∃ j : Int, x = .int j ∧ -(2 ^ 62) ≤ j ∧ j < 2 ^ 62 ∧ Q (rng 0 j)
def dRng2 (t u : DE) : DA := fun ρ Q => t ρ fun x => u ρ fun y => ∃ i j : Int, x = .int i ∧ y = .int j ∧ (-(2 ^ 62) ≤ i ∧ i < 2 ^ 62 ∧ -(2 ^ 62) ≤ j ∧ j < 2 ^ 62) ∧ Q (rng i j)
theorem pid_rng1 {t : DE} {p : Pos} (hg : Gl X "range") (hm : X.mg "range" = none) (h : PD X F0 H0 a t) (hs : starEach [a] X.env = [(false, eval a X.env)] := by rfl) : PID X F0 H0 true tg (.Call (.Name "range" p) [a] [] pos) (dRng1 t) := by
  refine ⟨pi_imp (pi_range1 hg hm (pa_cons h.pe pa_nil hs) hs) ?_⟩
  rintro σ H R ⟨F, ρ, QQ, E, q, k⟩
  refine ⟨F, ρ, _, E, q, fun d v F' H' ⟨j, e1, h1, h2, q'⟩ s r => ?_⟩
  subst e1
  cases r
  refine ⟨j, rfl, h1, h2, k _ _ F' H' q' s ?_⟩
  have w := walk_rng (K := X.K) (F1 := F') (lo := 0) (n := (j - 0).toNat)
  rw [Int.sub_zero] at w
  unfold rng
  rw [Int.sub_zero]
  exact w
theorem pid_rng2 {t u : DE} {p : Pos} (hg : Gl X "range") (hm : X.mg "range" = none) (h : PD X F0 H0 a t) (h2 : PD X F0 H0 b u) (hs : starEach [a, b] X.env = [(false, eval a X.env), (false, eval b X.env)] := by rfl) (hs2 : starEach [b] X.env = [(false, eval b X.env)] := by rfl) :
    PID X F0 H0 true tg (.Call (.Name "range" p) [a, b] [] pos) (dRng2 t u) := by
  refine ⟨pi_imp (pi_range2 hg hm (pa_cons h.pe (pa_cons h2.pe pa_nil hs2) (by rw [hs, hs2])) hs hs2) ?_⟩
  rintro σ H R ⟨F, ρ, QQ, E, q, k⟩
  refine ⟨F, ρ, _, E, q, fun d v F1 H1 q1 s1 r1 => ?_⟩
  refine ⟨F1, ρ, _, E.step s1, q1, fun d2 v2 F' H' ⟨i, j, e1, e2, hh, q'⟩ s2 r2 => ?_⟩
  subst e1 e2
  cases r1; cases r2
  exact ⟨i, j, rfl, hh, k _ _ F' H' q' (s1.trans s2) walk_rng⟩

/-! ### for -/
def dFor (ti : DA) (g : DG) (tb : DS) : DS := fun DD ρ => ti ρ fun items => ∃ I : Nat → Rho → Prop, I 0 ρ ∧
  (∀ i x ρ, items[i]? = some x → I i ρ → g x ρ fun ρ1 => tb ⟨I (i + 1), DD.rt, DD.nx, I (i + 1)⟩ ρ1) ∧ ∀ ρ, I items.length ρ → DD.nx ρ
theorem psd_for {ti : DA} {g : DG} {tb : DS} {vs : List Nat} (hp : PassesOwn (model X.prog X.w) X.A X.env X.xe) (hc : X.calm = true) (hi : PID X F0 H0 true tg iter ti) (hg : PGD X F0 H0 vs tg g) (hb : PSsD X F0 H0 sts tb)
    (hs : ∀ x, foldedSetIterable iter X.env x = pure x := by intro _; rfl) : PSD X F0 H0 (.For tg iter sts [] pos) (dFor ti g tb) := by
  refine ⟨ps_imp (ps_for hp hc hi.pi hg.pg hb.ps hs) ?_⟩
  rintro G σ H ⟨F, ρ, DD, E, q, L⟩
  refine ⟨F, ρ, _, E, q, fun items J F1 H1 ⟨I, i0, is, ie⟩ s1 w => ?_⟩
  refine ⟨fun i m σ H => m = items.length - i ∧ i ≤ items.length ∧ ∃ F ρ, EnvAt X.K F0 H0 F H σ ρ ∧ Same F1 F ∧ I i ρ, ⟨_, rfl, Nat.zero_le _, F1, ρ, E.step s1, Same.refl _, i0⟩, ?_⟩
  rintro i m σ2 H2 ⟨rfl, hi, F2, ρ2, E2, ff, p⟩
  have L2' := L.mono (s1.ff.trans ff)
  by_cases hlt : i < items.length
  · refine .inr ⟨w.go i F2 H2 ⟨ff, E2.fs⟩ hlt, fun σ' H' => ∃ F ρ, EnvAt X.K F0 H0 F H' σ' ρ ∧ Same F1 F ∧ I (i + 1) ρ, fun σ' H' p' => ⟨items.length - (i + 1), by omega, rfl, hlt, p'⟩, fun x H' y => ?_⟩
    have hd : items[i]? = some items[i] := List.getElem?_eq_getElem hlt
    obtain ⟨F3, s3, r3⟩ := w.yld i _ F2 H2 x H' ⟨ff, E2.fs⟩ hd y
    refine ⟨F3, ρ2, _, _, E2.step s3, r3, is i _ ρ2 hd p, fun ρ' σ' q' E' _ => ?_⟩
    refine ⟨F3, ρ', _, E', q', ⟨fun ρ4 σ4 F4 H4 q4 f4 E4 => ⟨F4, ρ4, E4, (ff.trans s3.ff).trans f4, q4⟩, fun ρ4 σ4 F4 H4 q4 f4 E4 => L2'.nx ρ4 σ4 F4 H4 q4 (s3.ff.trans f4) E4, fun ρ4 σ4 F4 H4 q4 f4 E4 => ⟨F4, ρ4, E4, (ff.trans s3.ff).trans f4, q4⟩, fun d v F4 H4 q4 f4 => L2'.rt d v F4 H4 q4 (s3.ff.trans f4)⟩⟩
  · have e : i = items.length := by omega
    subst e
    exact .inl ⟨w.stop F2 H2 ⟨ff, E2.fs⟩, L2'.nx ρ2 σ2 F2 H2 (ie ρ2 p) (Same.refl _) E2⟩

/-! ### while -/
def dWhile (tc : DT) (tb : DS) : DS := fun DD ρ => ∃ W : Nat → Rho → Prop, (∃ m, W m ρ) ∧ ∀ m ρ, W m ρ → tc ρ fun b => if b = true then tb ⟨fun ρ' => ∃ m', m' < m ∧ W m' ρ', DD.rt, DD.nx, fun ρ' => ∃ m', m' < m ∧ W m' ρ'⟩ ρ else DD.nx ρ
theorem psd_while {tc : DT} {tb : DS} (hp : PassesOwn (model X.prog X.w) X.A X.env X.xe) (hc : PTD X F0 H0 c tc) (hb : PSsD X F0 H0 sts tb) : PSD X F0 H0 (.While c sts [] pos) (dWhile tc tb) := by
  refine ⟨ps_imp (ps_while hp hc.pt hb.ps) ?_⟩
  rintro G σ H ⟨F, ρ, DD, E, ⟨W, ⟨m0, i0⟩, is⟩, L⟩
  refine ⟨fun m σ H => ∃ F2 ρ, EnvAt X.K F0 H0 F2 H σ ρ ∧ Same F F2 ∧ W m ρ, ⟨m0, F, ρ, E, Same.refl _, i0⟩, ?_⟩
  rintro m σ2 H2 ⟨F2, ρ2, E2, ff, i2⟩
  refine ⟨F2, ρ2, _, E2, is m ρ2 i2, fun b F3 H3 q3 s3 => ?_⟩
  have L3 := L.mono (ff.trans s3.ff)
  cases b with
  | true =>
    refine ⟨fun σ' H' => ∃ F4 ρ4, EnvAt X.K F0 H0 F4 H' σ' ρ4 ∧ Same F F4 ∧ ∃ m', m' < m ∧ W m' ρ4, fun σ' H' ⟨F4, ρ4, E4, f4, m', h4, i4⟩ => ⟨m', h4, F4, ρ4, E4, f4, i4⟩, ?_⟩
    have f3 := ff.trans s3.ff
    exact ⟨F3, ρ2, _, E2.step s3, q3, ⟨fun ρ4 σ4 F4 H4 q4 f4 E4 => ⟨F4, ρ4, E4, f3.trans f4, q4⟩, fun ρ4 σ4 F4 H4 q4 f4 E4 => L3.nx ρ4 σ4 F4 H4 q4 f4 E4, fun ρ4 σ4 F4 H4 q4 f4 E4 => ⟨F4, ρ4, E4, f3.trans f4, q4⟩, fun d v F4 H4 q4 f4 => L3.rt d v F4 H4 q4 f4⟩⟩
  | false => exact L3.nx ρ2 σ2 F3 H3 q3 (Same.refl _) (E2.step s3)

/-! ### comprehensions -/
def wipeD (ρ : Rho) : List Nat → Rho
  | [] => ρ
  | v :: vs => (wipeD ρ vs).set v none
theorem EnvAt.unset {K : PySem.W.Frag} {F H : Hp} {σ : L2.St} {ρ : Rho} {i : Nat} (E : EnvAt K F0 H0 F H σ ρ) : EnvAt K F0 H0 F H (σ.set i none) (ρ.set i none) where
  fs := E.fs
  nt := E.nt
  tb := E.tb
  st := E.st
  dd := fun j d h => by
    rcases setget h with ⟨_, _, z⟩ | ⟨hne, h⟩
    · cases z
    · obtain ⟨u, h1, h2⟩ := E.dd j d h
      exact ⟨u, by rw [List.getElem?_set_ne hne]; exact h1, h2⟩
  ow := fun j ds h => by
    rcases setget h with ⟨_, _, z⟩ | ⟨hne, h⟩
    · cases z
    · obtain ⟨p, xs, h1, h2⟩ := E.ow j ds h
      exact ⟨p, xs, by rw [List.getElem?_set_ne hne]; exact h1, h2⟩
  sep := fun j k ds es p h1 h2 h3 h4 => by
    rcases setget h1 with ⟨_, _, z⟩ | ⟨hne, h1⟩
    · cases z
    rcases setget h2 with ⟨_, _, z⟩ | ⟨hne2, h2⟩
    · cases z
    rw [List.getElem?_set_ne hne] at h3
    rw [List.getElem?_set_ne hne2] at h4
    exact E.sep j k ds es p h1 h2 h3 h4
  len := by rw [List.length_set, List.length_set, E.len]
theorem EnvAt.wipe {K : PySem.W.Frag} {F H : Hp} {σ : L2.St} {ρ : Rho} (E : EnvAt K F0 H0 F H σ ρ) : ∀ vs, EnvAt K F0 H0 F H (L2.wipe σ vs) (wipeD ρ vs)
  | [] => E
  | v :: vs => (EnvAt.wipe E vs).unset
def lcGo (vs : List Nat) (g : DG) (tt : DT) (te : DE) (ρ : Rho) : List D → List D → (List D → Prop) → Prop
  | [], acc, Q => Q acc
  | x :: xs, acc, Q => g x (wipeD ρ vs) fun ρ1 => tt ρ1 fun b => if b = true then te ρ1 fun y => lcGo vs g tt te ρ xs (acc ++ [y]) Q else lcGo vs g tt te ρ xs acc Q
def dLc (vs : List Nat) (ti : DA) (g : DG) (tt : DT) (te : DE) : DA := fun ρ Q => ti ρ fun items => items.length ≤ sizeLine ∧ lcGo vs g tt te ρ items [] Q
structure PTsD (X : Cx) (F0 H0 : Hp) (ifs : List Expr) (t : DT) : Prop where
  pt : PTs X ifs (lT X.K F0 H0 t)
def dYes : DT := fun _ Q => Q true
theorem pts_imp {es : List Expr} {t t' : TT} (h : PTs X es t) (w : ∀ σ H Q, t' σ H Q → t σ H Q) : PTs X es t' := ⟨fun pins s σ H Q I q => h.run pins s σ H Q I (w σ H Q q)⟩
theorem ptsd_nil : PTsD X F0 H0 [] dYes := by
  refine ⟨pts_imp pts_nil ?_⟩
  rintro σ H Q ⟨F, ρ, QQ, E, q, k⟩
  exact k true F H q (Stp.refl E.fs)
theorem ptsd_one {t : DT} (h : PTD X F0 H0 c t) : PTsD X F0 H0 [c] t := ⟨pts_one h.pt⟩
theorem lLc {vs : List Nat} {ti : DA} {g : DG} {tt : DT} {te : DE} {S : Bool} {σ : L2.St} {H : Hp} {Q : VK} (h : lN X.K F0 H0 (dLc vs ti g tt te) σ H Q) : tLc (lI X.K F0 H0 S ti) (lG X.K F0 H0 vs g) (lT X.K F0 H0 tt) (lJ X.K F0 H0 (RD X.K) te) vs σ H Q := by
  obtain ⟨F, ρ, QQ, E, q, k⟩ := h
  refine ⟨F, ρ, _, E, q, fun items J F1 H1 ⟨hz, q1⟩ s1 w => ?_⟩
  have w : Walk X.K (fun F2 H2 => Stp F1 H1 F2 H2) J items := by
    cases S with
    | true => exact w.weak fun F2 H2 z => ⟨z.ff, z.fs⟩
    | false => exact w
  intro C hC
  have E1 := E.step s1
  have s0 : Stp F1 H1 F1 (upd H1 C (.lst [])) := Stp.own s1.fs hC _
  refine ⟨fun i m H2 => m = items.length - i ∧ i ≤ items.length ∧ ∃ F2 acc accd, Stp F1 H1 F2 H2 ∧ H2 C = some (.lst acc) ∧ F2 C = none ∧ AtAll X.K F2 acc accd ∧ accd.length ≤ i ∧ lcGo vs g tt te ρ (items.drop i) accd QQ, ⟨_, rfl, Nat.zero_le _, F1, [], [], s0, upd_same, s1.fs.free hC, .nil, Nat.le_refl _, q1⟩, ?_⟩
  rintro i m H2 ⟨rfl, hi, F2, acc, accd, s2, hC2, hC3, ra, hl, q2⟩
  by_cases hlt : i < items.length
  · refine .inr ⟨w.go i F2 H2 s2 hlt, fun H' => ∃ F2 acc accd, Stp F1 H1 F2 H' ∧ H' C = some (.lst acc) ∧ F2 C = none ∧ AtAll X.K F2 acc accd ∧ accd.length ≤ i + 1 ∧ lcGo vs g tt te ρ (items.drop (i + 1)) accd QQ, fun H' p' => ⟨items.length - (i + 1), by omega, rfl, hlt, p'⟩, fun x H' y => ?_⟩
    have hd : items[i]? = some items[i] := List.getElem?_eq_getElem hlt
    obtain ⟨F3, s3, r3⟩ := w.yld i _ F2 H2 x H' s2 hd y
    rw [List.drop_eq_getElem_cons hlt] at q2
    have E3 := (E1.step (s2.trans s3)).wipe vs
    refine ⟨F3, _, _, _, E3, r3, q2, fun ρ' σ' q3 E' wp => ⟨wp.trans (by
      have : ∀ us : List Nat, (∀ v ∈ us, v ∈ vs) → L2.wipe (L2.wipe σ us) vs = L2.wipe σ vs := by
        intro us
        induction us with
        | nil => intro _; rfl
        | cons u us ih =>
          intro hu
          show L2.wipe ((L2.wipe σ us).set u none) vs = _
          rw [wipe_set (hu u List.mem_cons_self)]
          exact ih fun v hv => hu v (List.mem_cons_of_mem _ hv)
      exact this vs fun _ h => h), ?_⟩⟩
    refine ⟨F3, ρ', _, E', q3, fun b F4 H4 q4 s4 => ?_⟩
    have hC4 : H4 C = some (.lst acc) := s4.hh.lst (s3.hh.lst hC2)
    have hC5 : F4 C = none := (s3.trans s4).lnw hC2 hC3
    cases b with
    | false => exact ⟨F4, acc, accd, (s2.trans s3).trans s4, hC4, hC5, ra.mono (s3.ff.trans s4.ff), by omega, q4⟩
    | true =>
      refine ⟨F4, ρ', _, E'.step s4, q4, fun d v F5 H5 q5 s5 r5 => ?_⟩
      have hC6 : H5 C = some (.lst acc) := s5.hh.lst hC4
      have hC7 : F5 C = none := s5.lnw hC4 hC5
      have s6 := ((s2.trans s3).trans s4).trans s5
      refine ⟨acc, hC6, by rw [ra.length]; omega, F5, _, _, ⟨⟨fun b u z n => ?_, fun t => tabs_upd (s6.hh.tb t) hC6⟩, s6.ff, fun b u z => ?_, s6.nw, s6.nt⟩, upd_same, hC7, (ra.mono ((s3.ff.trans s4.ff).trans s5.ff)).append (.cons r5 .nil), by simp; omega, q5⟩
      · rw [upd_ne (ne_of_none z hC)]; exact s6.hh.ob b u z n
      · rw [upd_ne (ne_of_none z hC7)]; exact s6.fs b u z
  · have e : i = items.length := by omega
    subst e
    rw [List.drop_length] at q2
    exact .inl ⟨w.stop F2 H2 s2, k accd C acc F2 H2 q2 (s1.trans s2) (s1.hh.nfree hC) hC2 hC3 ra⟩
section
variable {elt : Expr} {ifs : List Expr} {scope : Scope} {own : List (Str × Nat)} {ti : DA} {g : DG} {tt : DT} {te : DE} {S : Bool}
theorem pn_lc (hc : X.calm = true) (hN : X.N.Nodup) (hi : PID X F0 H0 S tg iter ti) (ok : BlkOk X.N X.env.scope scope own)
    (hg : ∀ (s : Shared) (H : Hp) (C : Addr) (cl : List (Str × Addr)) (fp : List Addr), PGD (X.blk s H scope (compEnvC scope cl C X.env) fp) F0 H0 (own.map (·.2)) tg g) (ht : ∀ (s : Shared) (H : Hp) (C : Addr) (cl : List (Str × Addr)) (fp : List Addr), PTsD (X.blk s H scope (compEnvC scope cl C X.env) fp) F0 H0 ifs tt)
    (he : ∀ (s : Shared) (H : Hp) (C : Addr) (cl : List (Str × Addr)) (fp : List Addr), PD (X.blk s H scope (compEnvC scope cl C X.env) fp) F0 H0 elt te) (hs : ∀ x, foldedSetIterable iter X.env x = pure x := by intro _; rfl) :
    PN X F0 H0 (.ListComp elt [⟨tg, iter, ifs, 0⟩] scope pos) (dLc (own.map (·.2)) ti g tt te) :=
  ⟨pe_imp (pe_lc (g := lG X.K F0 H0 (own.map (·.2)) g) (tt := lT X.K F0 H0 tt) (te := lJ X.K F0 H0 (RD X.K) te) hc hN hi.pi ok (fun s H C cl fp => (hg s H C cl fp).pg) (fun s H C cl fp => (ht s H C cl fp).pt) (fun s H C cl fp => (he s H C cl fp).pe) hs) fun σ H Q h => lLc h⟩
/-- y = [..] -/
theorem psd_setLc {i : Nat} {y : Str} {py spos : Pos} (hc : X.calm = true) (hN : X.N.Nodup) (hy : X.N[i]? = some y) (hyl : X.env.scope.names.lookup y = some .local)
    (hsw : swapsWith (.ListComp elt [⟨tg, iter, ifs, 0⟩] scope pos) (some (.Name y py)) spos.line X.env = pure true) (hi : PID X F0 H0 S tg iter ti) (ok : BlkOk X.N X.env.scope scope own)
    (hg : ∀ (s : Shared) (H : Hp) (C : Addr) (cl : List (Str × Addr)) (fp : List Addr), PGD (X.blk s H scope (compEnvC scope cl C X.env) fp) F0 H0 (own.map (·.2)) tg g) (ht : ∀ (s : Shared) (H : Hp) (C : Addr) (cl : List (Str × Addr)) (fp : List Addr), PTsD (X.blk s H scope (compEnvC scope cl C X.env) fp) F0 H0 ifs tt)
    (he : ∀ (s : Shared) (H : Hp) (C : Addr) (cl : List (Str × Addr)) (fp : List Addr), PD (X.blk s H scope (compEnvC scope cl C X.env) fp) F0 H0 elt te) (hs : ∀ x, foldedSetIterable iter X.env x = pure x := by intro _; rfl) :
    PSD X F0 H0 (.Assign [.Name y py] (.ListComp elt [⟨tg, iter, ifs, 0⟩] scope pos) spos) (dSetO i (dLc (own.map (·.2)) ti g tt te)) := by
  refine ⟨ps_imp (ps_setLc (g := lG X.K F0 H0 (own.map (·.2)) g) (tt := lT X.K F0 H0 tt) (te := lJ X.K F0 H0 (RD X.K) te) hc hN hy hyl hsw hi.pi ok (fun s H C cl fp => (hg s H C cl fp).pg) (fun s H C cl fp => (ht s H C cl fp).pt) (fun s H C cl fp => (he s H C cl fp).pe) hs) ?_⟩
  rintro G σ H ⟨F, ρ, DD, E, q, L⟩
  exact lLc ⟨F, ρ, _, E, q, fun ds p xs F' H' q' s hp h1 h2 r => L.nx _ _ F' H' q' s.ff (E.newOwn s hp h1 h2 r)⟩
end

/-! ### a def -/
/-- the slots at the entry -/
def startD (N : List Str) (ds : List D) : Rho := ds.map (fun d => some (.d d)) ++ List.replicate (N.length - ds.length) none
theorem EnvAt.start {K : PySem.W.Frag} {F H : Hp} {N : List Str} {vs : List V} {ds : List D} (s : Same F H ∧ (∀ b ps, F b ≠ some (.tbl ps)) ∧ LamX.Tabs Tb.T H) (r : AtAll K F vs ds) : EnvAt K F H F H (L2.start N vs) (startD N ds) where
  fs := s.1
  nt := s.2.1
  tb := s.2.2
  st := Stp.refl s.1
  dd := fun i d h => by
    unfold startD at h
    by_cases hi : i < ds.length
    · rw [List.getElem?_append_left (by simpa using hi), List.getElem?_map] at h
      cases e : ds[i]? with
      | none => rw [e] at h; cases h
      | some d' =>
        rw [e] at h
        cases h
        obtain ⟨v, h1, h2⟩ := r.get e
        refine ⟨v, ?_, h2⟩
        unfold L2.start
        rw [List.getElem?_append_left (by rw [List.length_map, r.length]; exact hi), List.getElem?_map, h1]
        rfl
    · rw [List.getElem?_append_right (by simpa using hi), List.getElem?_replicate] at h
      split at h <;> cases h
  ow := fun i d h => by
    unfold startD at h
    by_cases hi : i < ds.length
    · rw [List.getElem?_append_left (by simpa using hi), List.getElem?_map] at h
      cases e : ds[i]? with
      | none => rw [e] at h; cases h
      | some d' => rw [e] at h; cases h
    · rw [List.getElem?_append_right (by simpa using hi), List.getElem?_replicate] at h
      split at h <;> cases h
  sep := fun i j d e p h _ _ _ => by
    unfold startD at h
    by_cases hi : i < ds.length
    · rw [List.getElem?_append_left (by simpa using hi), List.getElem?_map] at h
      cases e : ds[i]? with
      | none => rw [e] at h; cases h
      | some d' => rw [e] at h; cases h
    · rw [List.getElem?_append_right (by simpa using hi), List.getElem?_replicate] at h
      split at h <;> cases h
  len := by
    unfold startD L2.start
    simp [r.length]
section
variable {P : Program} {w : World} {K : PySem.W.Frag} {mg : Str → Option Value} {base : Heap}
/-- a def's contract over data, from its body as a term and from what the term says -/
theorem fnD {x qual : Str} {st : Stmt} {f : Addr} {fd : FuncData} {N ps : List Str} {k n : Nat} {t : List D → (D → Prop) → Prop} {T : DS} (F : Fun K x qual st f fd) (S : FnScope N ps (defScope st)) (hn : ps.length = n)
    (hb : ∀ (cdv : Value) (A : Around) (outer : List Env) (s : Shared) (H : Hp) (E : XK) (F0 : Hp), Room k (A.deeper (envOfC qual (defScope st) s.heap.objs.size f cdv)) → PSsD (cxOf CX0 P w K mg base N qual (defScope st) f cdv A outer s H E).nox F0 H (defBody st) T)
    (hv : ∀ ds Q, ds.length = n → t ds Q → T ⟨fun _ => Q .non, Q, fun _ => False, fun _ => False⟩ (startD N ds)) : FnOk P w K mg base CX0 (k + 1) f fd ps (spD K n t) := by
  refine F.ok S (fun vs H Q E h => by rw [spD_len h, hn]) (fun cdv A outer s H vs Q E hr h => ?_)
  obtain ⟨F0, ds, QQ, fs, r, hl, ht, k⟩ := h
  refine ⟨_, (hb cdv A outer s H E F0 hr).ps, F0, _, _, EnvAt.start fs r, hv ds QQ hl ht, ⟨fun ρ σ F' H' q _ E' => ?_, fun ρ σ F' H' q _ E' => q.elim, fun ρ σ F' H' q _ E' => q.elim, fun d v F' H' q _ s' r' => k d v F' H' q s' r'⟩⟩
  exact k .non .non F' H' q E'.st .non
theorem FnOk.impD {CX : CXT} {k n : Nat} {f : Addr} {fd : FuncData} {ps : List Str} {t t' : List D → (D → Prop) → Prop} (G : FnOk P w K mg base CX k f fd ps (spD K n t)) (h : ∀ ds Q, ds.length = n → t' ds Q → t ds Q) : FnOk P w K mg base CX k f fd ps (spD K n t') :=
  G.imp fun vs H Q E ⟨F0, ds, QQ, fs, r, hl, ht, k⟩ => ⟨F0, ds, QQ, fs, r, hl, h ds QQ hl ht, k⟩
end
end
end DL

namespace DL
open PySem L2
variable [Tb]
/-- a def of the top -/
def Df (K : PySem.W.Frag) (mg : Str → Option Value) (x : Str) (st : Stmt) (ps : List Str) : Prop := ∃ f fd, Fun K x x st f fd ∧ mg x = some (.ref f) ∧ Binds K fd ps []
/-- .. and what it promises -/
def Has (P : Program) (w : World) (K : PySem.W.Frag) (mg : Str → Option Value) (base : Heap) (k : Nat) (x : Str) (n : Nat) (t : List D → (D → Prop) → Prop) : Prop :=
  ∃ f fd ps, FnOk P w K mg base CX0 k f fd ps (spD K n t) ∧ mg x = some (.ref f) ∧ PySem.W.keepIn K (.ref f) = true ∧ Binds K fd ps []
theorem Df.has {P : Program} {w : World} {K : PySem.W.Frag} {mg : Str → Option Value} {base : Heap} {x : Str} {st : Stmt} {N ps : List Str} {k n : Nat} {t : List D → (D → Prop) → Prop} {T : DS} (F : Df K mg x st ps) (S : FnScope N ps (defScope st)) (hn : ps.length = n)
    (hb : ∀ (cdv : Value) (f : Addr) (A : Around) (outer : List Env) (s : Shared) (H : Hp) (E : XK) (F0 : Hp), Room k (A.deeper (PyProof.Rows.envOfC x (defScope st) s.heap.objs.size f cdv)) → PSsD (cxOf CX0 P w K mg base N x (defScope st) f cdv A outer s H E).nox F0 H (defBody st) T)
    (hv : ∀ ds Q, ds.length = n → t ds Q → T ⟨fun _ => Q .non, Q, fun _ => False, fun _ => False⟩ (startD N ds)) : Has P w K mg base (k + 1) x n t := by
  obtain ⟨f, fd, F, hm, hb'⟩ := F
  exact ⟨f, fd, ps, fnD F S hn (fun cdv A outer s H E F0 hr => hb cdv f A outer s H E F0 hr) hv, hm, F.kp, hb'⟩
theorem Has.imp {P : Program} {w : World} {K : PySem.W.Frag} {mg : Str → Option Value} {base : Heap} {x : Str} {k n : Nat} {t t' : List D → (D → Prop) → Prop} (h : Has P w K mg base k x n t) (i : ∀ ds Q, ds.length = n → t' ds Q → t ds Q) : Has P w K mg base k x n t' := by
  obtain ⟨f, fd, ps, G, a, b, c⟩ := h
  exact ⟨f, fd, ps, FnOk.impD G i, a, b, c⟩
theorem Has.mono {P : Program} {w : World} {K : PySem.W.Frag} {mg : Str → Option Value} {base : Heap} {x : Str} {j k n : Nat} {t : List D → (D → Prop) → Prop} (h : Has P w K mg base j x n t) (i : j ≤ k) : Has P w K mg base k x n t := by
  obtain ⟨f, fd, ps, G, a, b, c⟩ := h
  exact ⟨f, fd, ps, G.mono i, a, b, c⟩
section
variable {X : Cx} {F0 H0 : Hp} {a b c e : Expr} {pos : Pos}
/-- a call of a def of the top -/
theorem pd_fn {k n : Nat} {x : Str} {p : Pos} {es : List Expr} {t : List D → (D → Prop) → Prop} {ta : DA} (G : Has X.prog X.w X.K X.mg X.base k x n t) (hr : Room k X.A) (ha : PAD X F0 H0 (a :: es) ta) (hg : Gl X x := by rfl) (hn : (a :: es).length = n := by rfl) (hdb : (x == ("__debug__" : Str)) = false := by decide)
    (he : starEach (a :: es) X.env = (false, eval a X.env) :: starEach es X.env := by rfl) (hpl : (backTo pos (starEach es X.env)).any (·.1) = false := by rfl) (hx : Passes CX0 X E0 := by exact pass0) : PD X F0 H0 (.Call (.Name x p) (a :: es) [] pos) (dCall (fun ds Q => ds.length = n ∧ t ds Q) ta) := by
  obtain ⟨f, fd, ps, G, hm, hk, hb⟩ := G
  exact pd_call G hr hg hm hk hb hx ha hn hdb he hpl
end
end DL

namespace DL
open PySem L2
variable [Tb]
/-! ### the readings, opened -/
theorem atI_0 {α : Type} (x : α) (l : List α) : atI (x :: l) 0 = some x := atI_nat (xs := x :: l) (j := 0) rfl
theorem atI_1 {α : Type} (x y : α) (l : List α) : atI (x :: y :: l) 1 = some y := atI_nat (xs := x :: y :: l) (j := 1) rfl
theorem atI_2 {α : Type} (x y z : α) (l : List α) : atI (x :: y :: z :: l) 2 = some z := atI_nat (xs := x :: y :: z :: l) (j := 2) rfl
theorem szle {n : Nat} (h : n ≤ 1000) : n ≤ sizeLine := Nat.le_of_lt (small1000 h)
theorem ixV_tup {l : List D} {i : Int} {z : D} : ixV (.tup l) i z = (atI l i = some z) := rfl
theorem ixV_lst {l : List D} {i : Int} {z : D} : ixV (.lst l) i z = (atI l i = some z) := rfl
theorem ixV_str {s : Str} {i : Int} {z : D} : ixV (.str s) i z = (s.length ≤ sizeLine ∧ ∃ c, atI s.cps.toList i = some c ∧ z = .str ⟨#[c]⟩) := rfl
theorem ixV_scr {l : List Int} {i : Int} {z : D} : ixV (.scr l) i z = (∃ n, atI l i = some n ∧ z = .int n) := rfl
theorem lenV_tup {l : List D} {n : Nat} : lenV (.tup l) n = (n = l.length) := rfl
theorem lenV_lst {l : List D} {n : Nat} : lenV (.lst l) n = (n = l.length) := rfl
theorem lenV_str {s : Str} {n : Nat} : lenV (.str s) n = (s.length ≤ sizeLine ∧ n = s.length) := rfl
theorem lenV_scr {l : List Int} {n : Nat} : lenV (.scr l) n = (n = l.length) := rfl
theorem truV_non {k : Bool} : truV .non k = (k = false) := rfl
theorem truV_bl {b k : Bool} : truV (.bl b) k = (k = b) := rfl
theorem truV_int {i : Int} {k : Bool} : truV (.int i) k = (k = (i != 0)) := rfl
theorem truV_str {s : Str} {k : Bool} : truV (.str s) k = (s.length ≤ sizeLine ∧ k = ((s.length : Int) != 0)) := rfl
theorem truV_tup {l : List D} {k : Bool} : truV (.tup l) k = (k = !l.isEmpty) := rfl
theorem truV_lst {l : List D} {k : Bool} : truV (.lst l) k = (k = !l.isEmpty) := rfl
theorem tyD_int {i : Int} : tyD (.int i) = some "int" := rfl
theorem tyD_bl {i : Bool} : tyD (.bl i) = some "bool" := rfl
theorem tyD_str {i : Str} : tyD (.str i) = some "str" := rfl
theorem tyD_tup {i : List D} : tyD (.tup i) = some "tuple" := rfl
theorem tyD_lst {i : List D} : tyD (.lst i) = some "list" := rfl
theorem tyD_non : tyD .non = some "NoneType" := rfl
theorem sz0 : ((0 : Nat) ≤ sizeLine) = True := eq_true (by decide)
theorem sz1 : ((1 : Nat) ≤ sizeLine) = True := eq_true (by decide)
theorem sz2 : ((2 : Nat) ≤ sizeLine) = True := eq_true (by decide)
theorem sz3 : ((3 : Nat) ≤ sizeLine) = True := eq_true (by decide)
theorem sz4 : ((4 : Nat) ≤ sizeLine) = True := eq_true (by decide)
theorem sz5 : ((5 : Nat) ≤ sizeLine) = True := eq_true (by decide)
theorem sz6 : ((6 : Nat) ≤ sizeLine) = True := eq_true (by decide)
theorem sz7 : ((7 : Nat) ≤ sizeLine) = True := eq_true (by decide)
theorem sz8 : ((8 : Nat) ≤ sizeLine) = True := eq_true (by decide)
theorem sz9 : ((9 : Nat) ≤ sizeLine) = True := eq_true (by decide)
theorem sz10 : ((10 : Nat) ≤ sizeLine) = True := eq_true (by decide)
theorem sz11 : ((11 : Nat) ≤ sizeLine) = True := eq_true (by decide)
theorem sz12 : ((12 : Nat) ≤ sizeLine) = True := eq_true (by decide)
theorem sz13 : ((13 : Nat) ≤ sizeLine) = True := eq_true (by decide)
theorem sz14 : ((14 : Nat) ≤ sizeLine) = True := eq_true (by decide)
theorem sz15 : ((15 : Nat) ≤ sizeLine) = True := eq_true (by decide)
theorem sz16 : ((16 : Nat) ≤ sizeLine) = True := eq_true (by decide)
theorem sz17 : ((17 : Nat) ≤ sizeLine) = True := eq_true (by decide)
theorem sz18 : ((18 : Nat) ≤ sizeLine) = True := eq_true (by decide)
theorem sz19 : ((19 : Nat) ≤ sizeLine) = True := eq_true (by decide)
theorem sz20 : ((20 : Nat) ≤ sizeLine) = True := eq_true (by decide)
theorem sz24 : ((24 : Nat) ≤ sizeLine) = True := eq_true (by decide)
theorem sz30 : ((30 : Nat) ≤ sizeLine) = True := eq_true (by decide)
theorem sz32 : ((32 : Nat) ≤ sizeLine) = True := eq_true (by decide)
/-- one store at a time -/
theorem dSet_cut {i : Nat} {t : DE} {DD : DEnds} {ρ : Rho} (P : D → Prop) (h : ∀ Q : D → Prop, (∀ d, P d → Q d) → t ρ Q) (k : ∀ d, P d → DD.nx (ρ.set i (some (.d d)))) : dSet i t DD ρ := h _ k
theorem dSetO_cut {i : Nat} {t : DA} {DD : DEnds} {ρ : Rho} (P : List D → Prop) (h : ∀ Q : List D → Prop, (∀ d, P d → Q d) → t ρ Q) (k : ∀ d, P d → DD.nx (ρ.set i (some (.own d)))) : dSetO i t DD ρ := h _ k
theorem dPar_cut {i j : Nat} {t : DA} {DD : DEnds} {ρ : Rho} (P : D → D → Prop) (h : ∀ Q : List D → Prop, (∀ d e, P d e → Q [d, e]) → t ρ Q) (k : ∀ d e, P d e → DD.nx ((ρ.set i (some (.d d))).set j (some (.d e)))) : dPar i j t DD ρ :=
  h _ fun d e p => ⟨d, e, rfl, k d e p⟩
/-- a while, by a state -/
theorem dWhile_st {α : Type} {tc : DT} {tb : DS} {DD : DEnds} {ρ : Rho} (st : α → Rho) (I : α → Prop) (μ : α → Nat) (a0 : α) (h0 : ρ = st a0) (i0 : I a0)
    (step : ∀ a, I a → tc (st a) fun b => if b = true then tb ⟨fun ρ' => ∃ m', m' < μ a ∧ ∃ a', ρ' = st a' ∧ I a' ∧ m' = μ a', DD.rt, DD.nx, fun ρ' => ∃ m', m' < μ a ∧ ∃ a', ρ' = st a' ∧ I a' ∧ m' = μ a'⟩ (st a) else DD.nx (st a)) : dWhile tc tb DD ρ := by
  refine ⟨fun m ρ => ∃ a, ρ = st a ∧ I a ∧ m = μ a, ⟨_, a0, h0, i0, rfl⟩, ?_⟩
  rintro m ρ ⟨a, rfl, ia, rfl⟩
  exact step a ia
/-- a for, by a state -/
theorem dFor_st {α : Type} {ti : DA} {g : DG} {tb : DS} {DD : DEnds} {ρ : Rho} (st : Nat → α → Rho) (I : Nat → α → Prop) (items : List D) (hi : ∀ Q : List D → Prop, Q items → ti ρ Q) (a0 : α) (h0 : ρ = st 0 a0) (i0 : I 0 a0)
    (step : ∀ i x a, items[i]? = some x → I i a → g x (st i a) fun ρ1 => tb ⟨fun ρ' => ∃ a', ρ' = st (i + 1) a' ∧ I (i + 1) a', DD.rt, DD.nx, fun ρ' => ∃ a', ρ' = st (i + 1) a' ∧ I (i + 1) a'⟩ ρ1)
    (fin : ∀ a, I items.length a → DD.nx (st items.length a)) : dFor ti g tb DD ρ := by
  refine hi _ ⟨fun i ρ => ∃ a, ρ = st i a ∧ I i a, ⟨a0, h0, i0⟩, ?_, ?_⟩
  · rintro i x ρ hx ⟨a, rfl, ia⟩
    exact step i x a hx ia
  · rintro ρ ⟨a, rfl, ia⟩
    exact fin a ia
/-- a for, by an invariant of the slots -/
theorem dFor_i {ti : DA} {g : DG} {tb : DS} {DD : DEnds} {ρ : Rho} (items : List D) (hi : ∀ Q : List D → Prop, Q items → ti ρ Q) (I : Nat → Rho → Prop) (i0 : I 0 ρ)
    (step : ∀ i x ρ, items[i]? = some x → I i ρ → g x ρ fun ρ1 => tb ⟨I (i + 1), DD.rt, DD.nx, I (i + 1)⟩ ρ1)
    (fin : ∀ ρ, I items.length ρ → DD.nx ρ) : dFor ti g tb DD ρ := hi _ ⟨I, i0, step, fin⟩
theorem rng_get {lo hi : Int} {i : Nat} {x : D} (h : (rng lo hi)[i]? = some x) : x = .int (lo + i) ∧ lo + i < hi := by
  unfold rng at h
  rw [List.getElem?_map] at h
  by_cases hl : i < (hi - lo).toNat
  · rw [List.getElem?_range hl] at h
    cases h
    exact ⟨rfl, by omega⟩
  · rw [List.getElem?_eq_none (by simpa using hl)] at h
    cases h
theorem rng_len {lo hi : Int} : (rng lo hi).length = (hi - lo).toNat := by
  unfold rng; simp
/-- a comprehension that maps -/
theorem lcGo_map {vs : List Nat} {g : DG} {te : DE} {ρ : Rho} {f : D → D} {Q : List D → Prop} : ∀ (xs acc : List D), (∀ x ∈ xs, ∀ R : D → Prop, R (f x) → g x (wipeD ρ vs) fun ρ1 => te ρ1 R) → Q (acc ++ xs.map f) → lcGo vs g dYes te ρ xs acc Q
  | [], acc, _, q => by simpa [lcGo] using q
  | x :: xs, acc, h, q => by
    unfold lcGo
    refine h x List.mem_cons_self (fun y => lcGo vs g dYes te ρ xs (acc ++ [y]) Q) ?_
    refine lcGo_map xs (acc ++ [f x]) (fun z hz => h z (List.mem_cons_of_mem _ hz)) ?_
    rw [List.append_assoc]
    exact q
/-- a comprehension with a test -/
theorem lcGo_filter {vs : List Nat} {g : DG} {tt : DT} {te : DE} {ρ : Rho} {p : D → Bool} {f : D → D} {Q : List D → Prop} : ∀ (xs acc : List D), (∀ x ∈ xs, ∀ R : D → Prop, ∀ Z : Prop, (if p x = true then R (f x) else Z) → g x (wipeD ρ vs) fun ρ1 => tt ρ1 fun b => if b = true then te ρ1 R else Z) → Q (acc ++ (xs.filter p).map f) → lcGo vs g tt te ρ xs acc Q
  | [], acc, _, q => by simpa [lcGo] using q
  | x :: xs, acc, h, q => by
    unfold lcGo
    refine h x List.mem_cons_self (fun y => lcGo vs g tt te ρ xs (acc ++ [y]) Q) _ ?_
    by_cases hp : p x = true
    · rw [if_pos hp]
      refine lcGo_filter xs (acc ++ [f x]) (fun z hz => h z (List.mem_cons_of_mem _ hz)) ?_
      rw [List.append_assoc]
      rw [List.filter_cons_of_pos hp] at q
      exact q
    · rw [if_neg hp]
      refine lcGo_filter xs acc (fun z hz => h z (List.mem_cons_of_mem _ hz)) ?_
      rw [List.filter_cons_of_neg hp] at q
      exact q
end DL

namespace DL
open PySem PySem.Spec PyProof.Rows L2
variable [Tb]
section
variable {X : Cx} {F0 H0 : Hp} {a b c e tg iter : Expr} {pos : Pos} {st : Stmt} {sts : List Stmt}
/-! ### zip -/
def zipD (l m : List D) : List D := List.zipWith (fun x y => D.tup [x, y]) l m
theorem zipD_get {l m : List D} {i : Nat} {d : D} (h : (zipD l m)[i]? = some d) : ∃ x y, l[i]? = some x ∧ m[i]? = some y ∧ d = .tup [x, y] := by
  unfold zipD at h
  rw [List.getElem?_zipWith] at h
  cases h1 : l[i]? with
  | none => rw [h1] at h; cases h
  | some x =>
    cases h2 : m[i]? with
    | none => rw [h1, h2] at h; cases h
    | some y =>
      rw [h1, h2] at h
      cases h
      exact ⟨x, y, rfl, rfl, rfl⟩
theorem zipD_len {l m : List D} : (zipD l m).length = min l.length m.length := by
  unfold zipD
  rw [List.length_zipWith]
theorem pair_at {K : PySem.W.Frag} {F H : Hp} {T : Addr} {x y : V} {d e : D} (s : Same F H) (hT : H T = none) (rx : At K F x d) (ry : At K F y e) : ∃ F', Stp F H F' (upd H T (.tup [x, y])) ∧ At K F' (.ref T) (.tup [d, e]) := by
  have n := Stp.new s hT (.tup [x, y])
  exact ⟨_, n, .tup (SqT.of upd_same) (.cons (rx.mono n.ff) (.cons (ry.mono n.ff) .nil))⟩
theorem walk_zipT {K : PySem.W.Frag} {F1 : Hp} {p q : Addr} {xs ys : List V} {ds es : List D} (h : SqT K F1 p xs) (r : AtAll K F1 xs ds) (h' : SqT K F1 q ys) (r' : AtAll K F1 ys es) : Walk K (okS F1) (RZ.ItzT K p q) (zipD ds es) where
  go := fun i F H ⟨a, b⟩ hi => by
    rw [zipD_len] at hi
    have h1 : i < xs.length := by rw [r.length]; omega
    have h2 : i < ys.length := by rw [r'.length]; omega
    exact ⟨xs, ys, xs[i], ys[i], Same.sqT b (Same.sqT a h), Same.sqT b (Same.sqT a h'), List.getElem?_eq_getElem _, List.getElem?_eq_getElem _⟩
  stop := fun F H ⟨a, b⟩ => by
    refine ⟨xs, ys, Same.sqT b (Same.sqT a h), Same.sqT b (Same.sqT a h'), ?_⟩
    rw [zipD_len, r.length, r'.length]
    omega
  yld := fun i d F H x H' ⟨a, b⟩ hd ⟨T, x1, y1, e1, hT, e2, e3, e4⟩ => by
    subst e1 e2
    obtain ⟨u, v, h1, h2, rfl⟩ := zipD_get hd
    obtain ⟨v1, g1, g2⟩ := r.get h1
    obtain ⟨v2, g3, g4⟩ := r'.get h2
    have e3 := e3 xs (Same.sqT b (Same.sqT a h))
    have e4 := e4 ys (Same.sqT b (Same.sqT a h'))
    rw [g1] at e3
    rw [g3] at e4
    cases e3
    cases e4
    exact pair_at b hT (g2.mono a) (g4.mono a)
theorem walk_zipL {K : PySem.W.Frag} {F1 H1 : Hp} {p q : Addr} {xs ys : List V} {ds es : List D} (h : H1 p = some (.lst xs)) (r : AtAll K F1 xs ds) (h' : H1 q = some (.lst ys)) (r' : AtAll K F1 ys es) : Walk K (fun F H => Stp F1 H1 F H) (Itz K p q) (zipD ds es) where
  go := fun i F H a hi => by
    rw [zipD_len] at hi
    have h1 : i < xs.length := by rw [r.length]; omega
    have h2 : i < ys.length := by rw [r'.length]; omega
    exact ⟨xs, ys, xs[i], ys[i], SqL.of (a.hh.lst h), SqL.of (a.hh.lst h'), List.getElem?_eq_getElem _, List.getElem?_eq_getElem _⟩
  stop := fun F H a => by
    refine ⟨xs, ys, SqL.of (a.hh.lst h), SqL.of (a.hh.lst h'), ?_⟩
    rw [zipD_len, r.length, r'.length]
    omega
  yld := fun i d F H x H' a hd ⟨T, x1, y1, e1, hT, e2, e3, e4⟩ => by
    subst e1 e2
    obtain ⟨u, v, h1, h2, rfl⟩ := zipD_get hd
    obtain ⟨v1, g1, g2⟩ := r.get h1
    obtain ⟨v2, g3, g4⟩ := r'.get h2
    have e3 := e3 xs (SqL.of (a.hh.lst h))
    have e4 := e4 ys (SqL.of (a.hh.lst h'))
    rw [g1] at e3
    rw [g3] at e4
    cases e3
    cases e4
    exact pair_at a.fs hT (g2.mono a.ff) (g4.mono a.ff)
def dZipT (t u : DE) : DA := fun ρ Q => t ρ fun x => u ρ fun y => ∃ l m, x = .tup l ∧ y = .tup m ∧ Q (zipD l m)
def dZipL (t u : DA) : DA := fun ρ Q => t ρ fun l => u ρ fun m => Q (zipD l m)
theorem pid_zipT {t u : DE} {p tpos : Pos} {elts : List Expr} {kk : Nat} (hg : Gl X "zip") (hm : X.mg "zip" = none) (h : PD X F0 H0 a t) (h2 : PD X F0 H0 b u)
    (hs : starEach [a, b] X.env = (false, eval a X.env) :: starEach [b] X.env := by rfl) (hs2 : starEach [b] X.env = (false, eval b X.env) :: starEach [] X.env := by rfl) (hpl : (backTo pos (starEach [b] X.env)).any (·.1) = false := by rfl) :
    PID X F0 H0 true (.Tuple elts kk tpos) (.Call (.Name "zip" p) [a, b] [] pos) (dZipT t u) := by
  refine ⟨pi_imp (RZ.pi_zipA hg hm (pa_cons h.pe (pa_cons h2.pe pa_nil hs2) hs) hs hpl) ?_⟩
  rintro σ H R ⟨F, ρ, QQ, E, q, k⟩
  refine ⟨F, ρ, _, E, q, fun d v F1 H1 q1 s1 r1 => ?_⟩
  refine ⟨F1, ρ, _, E.step s1, q1, fun d2 v2 F2 H2 ⟨l, m, e1, e2, q2⟩ s2 r2 => ?_⟩
  subst e1 e2
  have r1 := r1.mono s2.ff
  cases r1 with
  | tup h1 h2 =>
    cases r2 with
    | tup h3 h4 => exact ⟨_, _, _, _, rfl, .inr ⟨Same.sqT s2.fs h1, Same.sqT s2.fs h3, k _ _ F2 H2 q2 (s1.trans s2) (walk_zipT h1 h2 h3 h4)⟩⟩
theorem pid_zipL {t u : DA} {p tpos : Pos} {elts : List Expr} {kk : Nat} (hg : Gl X "zip") (hm : X.mg "zip" = none) (h : PL X F0 H0 a t) (h2 : PL X F0 H0 b u)
    (hs : starEach [a, b] X.env = (false, eval a X.env) :: starEach [b] X.env := by rfl) (hs2 : starEach [b] X.env = (false, eval b X.env) :: starEach [] X.env := by rfl) (hpl : (backTo pos (starEach [b] X.env)).any (·.1) = false := by rfl) :
    PID X F0 H0 false (.Tuple elts kk tpos) (.Call (.Name "zip" p) [a, b] [] pos) (dZipL t u) := by
  refine ⟨pi_imp (RZ.pi_zipA hg hm (pa_cons h.pe (pa_cons h2.pe pa_nil hs2) hs) hs hpl) ?_⟩
  rintro σ H R ⟨F, ρ, QQ, E, q, k⟩
  refine ⟨F, ρ, _, E, q, fun d v F1 H1 q1 s1 ⟨p1, xs, e1, g1, g2⟩ => ?_⟩
  refine ⟨F1, ρ, _, E.step s1, q1, fun d2 v2 F2 H2 q2 s2 ⟨p2, ys, e2, g3, g4⟩ => ?_⟩
  subst e1 e2
  have g1 := s2.hh.lst g1
  exact ⟨_, _, _, _, rfl, .inl ⟨SqL.of g1, SqL.of g3, k _ _ F2 H2 q2 (s1.trans s2) (walk_zipL g1 (g2.mono s2.ff) g3 g4)⟩⟩

/-! ### isinstance(x, (S, T)) -/
def dIsi2 (S T : String) (t : DE) : DE := fun ρ Q => t ρ fun d => ∃ U b c, tyD d = some U ∧ kitB U S = some b ∧ kitB U T = some c ∧ Q (.bl (b || c))
theorem pd_isi2 {S T : String} {t : DE} {x y : Str} {p p2 p3 pt : Pos} {kt} (hg : Gl X "isinstance") (hm : X.mg "isinstance" = none) (hg2 : Gl X x) (hm2 : X.mg x = none) (hv2 : bootBuiltins x = some (.type S)) (hg3 : Gl X y) (hm3 : X.mg y = none) (hv3 : bootBuiltins y = some (.type T)) (ha : PD X F0 H0 a t)
    (hn : x ≠ "__name__" := by decide) (hdb : (x == ("__debug__" : Str)) = false := by decide) (hn3 : y ≠ "__name__" := by decide) (hdb3 : (y == ("__debug__" : Str)) = false := by decide)
    (he : starEach [a, .Tuple [.Name x p2, .Name y p3] kt pt] X.env = (false, eval a X.env) :: starEach [.Tuple [.Name x p2, .Name y p3] kt pt] X.env := by rfl) (he2 : starEach [.Tuple [.Name x p2, .Name y p3] kt pt] X.env = (false, eval (.Tuple [.Name x p2, .Name y p3] kt pt) X.env) :: starEach [] X.env := by rfl)
    (he3 : starEach [.Name x p2, .Name y p3] X.env = (false, eval (.Name x p2) X.env) :: starEach [.Name y p3] X.env := by rfl) (he4 : starEach [.Name y p3] X.env = (false, eval (.Name y p3) X.env) :: starEach [] X.env := by rfl) :
    PD X F0 H0 (.Call (.Name "isinstance" p) [a, .Tuple [.Name x p2, .Name y p3] kt pt] [] pos) (dIsi2 S T t) := by
  refine ⟨pe_imp (pe_callB call_isiT hg hm (by decide +kernel) (pa_cons ha.pe (pa_cons (pe_tup (pa_cons (pe_bltn (v := .ty S) hg2 hm2 hv2 rfl hn hdb) (pa_cons (pe_bltn (v := .ty T) hg3 hm3 hv3 rfl hn3 hdb3) pa_nil he4) he3)) pa_nil he2) he) (by decide) (by decide) he (by rw [he2]; rfl)) ?_⟩
  rintro σ H Q ⟨F, ρ, QQ, E, q, k⟩
  refine ⟨F, ρ, _, E, q, fun d v F1 H1 ⟨U, b, c, e1, e2, e3, q1⟩ s1 r1 => ⟨by show 2 ≤ sizeLine; decide, fun p hp => ?_⟩⟩
  have n := Stp.own s1.fs hp (.tup [.ty S, .ty T])
  refine ⟨v, p, [.ty S, .ty T], .type U, [.type S, .type T], b || c, rfl, upd_same, .cons (.ty S) (.cons (.ty T) .nil), At.ty n.fs r1 e1, ?_, k _ _ F1 _ q1 (s1.trans n) (.bl _)⟩
  unfold PySem.W.kitAny
  rw [kit_ty e2]
  cases b with
  | true => rfl
  | false =>
    show PySem.W.kitAny X.K (.type U) [.type T] = some (false || c)
    unfold PySem.W.kitAny
    rw [kit_ty e3]
    cases c <;> rfl
/-- a contract that is never asked -/
theorem Df.never {P : Program} {w : World} {K : PySem.W.Frag} {mg : Str → Option Value} {base : Heap} {x : Str} {st : Stmt} {ps : List Str} {k n : Nat} (F : Df K mg x st ps) : Has P w K mg base k x n (fun _ _ => False) := by
  obtain ⟨f, fd, F, hm, hb'⟩ := F
  have no : ∀ vs H Q E, ¬ spD K n (fun _ _ => False) vs H Q E := fun vs H Q E ⟨_, _, _, _, _, _, z, _⟩ => z
  exact ⟨f, fd, ps, ⟨fun vs H Q E h => absurd h (no vs H Q E), fun A outer s H args us vs Q E _ _ _ _ h => absurd h (no vs H Q E)⟩, hm, F.kp, hb'⟩
end
end DL
namespace DL
open PySem L2
variable [Tb]
theorem eqD_int {i j : Int} : eqD (.int i) (.int j) = (i == j) := by simp [eqD, D.py, PyData.eqv]
theorem eqD_bl {i j : Bool} : eqD (.bl i) (.bl j) = (i == j) := by simp [eqD, D.py, PyData.eqv]
theorem eqD_str {i j : Str} : eqD (.str i) (.str j) = (i == j) := by simp [eqD, D.py, PyData.eqv]
theorem ok_int {i : Int} : (D.int i).ok = true := rfl
theorem ok_bl {i : Bool} : (D.bl i).ok = true := rfl
theorem ok_str {i : Str} : (D.str i).ok = true := rfl
end DL
namespace DL
open PySem L2
variable [Tb]
theorem kb_NoneType_int : kitB "NoneType" "int" = some false := by decide +kernel
theorem kb_NoneType_bool : kitB "NoneType" "bool" = some false := by decide +kernel
theorem kb_NoneType_str : kitB "NoneType" "str" = some false := by decide +kernel
theorem kb_NoneType_tuple : kitB "NoneType" "tuple" = some false := by decide +kernel
theorem kb_NoneType_list : kitB "NoneType" "list" = some false := by decide +kernel
theorem kb_bool_int : kitB "bool" "int" = some true := by decide +kernel
theorem kb_bool_bool : kitB "bool" "bool" = some true := by decide +kernel
theorem kb_bool_str : kitB "bool" "str" = some false := by decide +kernel
theorem kb_bool_tuple : kitB "bool" "tuple" = some false := by decide +kernel
theorem kb_bool_list : kitB "bool" "list" = some false := by decide +kernel
theorem kb_int_int : kitB "int" "int" = some true := by decide +kernel
theorem kb_int_bool : kitB "int" "bool" = some false := by decide +kernel
theorem kb_int_str : kitB "int" "str" = some false := by decide +kernel
theorem kb_int_tuple : kitB "int" "tuple" = some false := by decide +kernel
theorem kb_int_list : kitB "int" "list" = some false := by decide +kernel
theorem kb_str_int : kitB "str" "int" = some false := by decide +kernel
theorem kb_str_bool : kitB "str" "bool" = some false := by decide +kernel
theorem kb_str_str : kitB "str" "str" = some true := by decide +kernel
theorem kb_str_tuple : kitB "str" "tuple" = some false := by decide +kernel
theorem kb_str_list : kitB "str" "list" = some false := by decide +kernel
theorem kb_tuple_int : kitB "tuple" "int" = some false := by decide +kernel
theorem kb_tuple_bool : kitB "tuple" "bool" = some false := by decide +kernel
theorem kb_tuple_str : kitB "tuple" "str" = some false := by decide +kernel
theorem kb_tuple_tuple : kitB "tuple" "tuple" = some true := by decide +kernel
theorem kb_tuple_list : kitB "tuple" "list" = some false := by decide +kernel
theorem kb_list_int : kitB "list" "int" = some false := by decide +kernel
theorem kb_list_bool : kitB "list" "bool" = some false := by decide +kernel
theorem kb_list_str : kitB "list" "str" = some false := by decide +kernel
theorem kb_list_tuple : kitB "list" "tuple" = some false := by decide +kernel
theorem kb_list_list : kitB "list" "list" = some true := by decide +kernel
/-- data that is compared with itself by the laws' own same: how deep -/
def simD : Nat → D → Bool
  | _, .non => true
  | _, .bl _ => true
  | _, .int _ => true
  | _, .str _ => true
  | n + 1, .tup l => decide (l.length ≤ 100000) && l.all (simD n)
  | _, _ => false
end DL

namespace DL
open PySem L2
variable [Tb]
/-! ### the end -/
theorem Df_mk {K : PySem.W.Frag} {h : Heap} {mg : Str → Option Value} (X : K.In h) (G : h.Ns mainGlobals mg) {x : Str} {st : Stmt} {ps : List Str} {f : Addr} {oc : Value} {od an : Option Addr} {osl : Array (Option Value)} {kV doc pm cdv ct : Value}
    (a : PySem.W.nsIn K mainGlobals x = some (some (.ref f))) (l : K.lookup f = some ⟨oc, od, .func (PySem.W.fnOf x x (defArgs st) (defBody st) (defScope st) .none kV doc pm an cdv ct), osl⟩) (c : PySem.W.codeIn K cdv x = true) (k : PySem.W.keepIn K (.ref f) = true)
    (hb : ∀ (kV doc pm : Value) (an : Option Addr) (cdv ct : Value) (us : List Value), us.length = ps.length → bindArgs (PySem.W.fnOf x x (defArgs st) (defBody st) (defScope st) .none kV doc pm an cdv ct) ⟨us, []⟩ = pure (ps.zip us)) : Df K mg x st ps := by
  have F := fun_mk (st := st) l c k
  exact ⟨f, _, F, PySem.W.mg_of X G a, F.binds hb⟩
/-- what law(script) promises -/
def spLaw (K : PySem.W.Frag) : Sp := fun vs H Q _ => ∃ (a : Addr) (ns : List Int), vs = [.ref a] ∧ SqL K H a (ns.map V.int) ∧ ns.length ≤ 63 ∧ LamX.Tabs Tb.T H ∧ ∀ H', Q (.bl true) H'
/-- a heap without its tables -/
def noTb (H : Hp) : Hp := fun b => match H b with
  | some (.tbl _) => none
  | o => o
theorem noTb_some {H : Hp} {b : Addr} {u : HO} (h : noTb H b = some u) : H b = some u ∧ ∀ ps, u ≠ .tbl ps := by
  unfold noTb at h
  split at h
  · cases h
  · rename_i n
    exact ⟨h, fun ps z => by subst z; exact n ps h⟩
theorem noTb_of {H : Hp} {b : Addr} {u : HO} (h : H b = some u) (n : ∀ ps, u ≠ .tbl ps) : noTb H b = some u := by
  unfold noTb
  split
  · rename_i ps e
    rw [h] at e
    exact absurd (Option.some.inj e) (n ps)
  · exact h
theorem noTb_seq {K : PySem.W.Frag} {H : Hp} {a : Addr} {xs : List V} (h : SqL K H a xs) : SqL K (noTb H) a xs := by
  rcases h with (h | ⟨o, h⟩) | h
  · exact .inl (.inl (noTb_of h (by intro _ z; cases z)))
  · exact .inl (.inr ⟨o, noTb_of h (by intro _ z; cases z)⟩)
  · exact .inr h
theorem law_of {P : Program} {w : World} {K : PySem.W.Frag} {mg : Str → Option Value} {base : Heap} {k : Nat} {f : Addr} {fd : FuncData} {ps : List Str} (G : FnOk P w K mg base CX0 k f fd ps (spD K 1 fun ds Q => ∃ ns : List Int, ds = [.scr ns] ∧ ns.length ≤ 63 ∧ Q (.bl true))) : FnOk P w K mg base CX0 k f fd ps (spLaw K) := by
  refine G.imp fun vs H Q E h => ?_
  obtain ⟨a, ns, rfl, hS, h63, hT, q⟩ := h
  refine ⟨noTb H, [.scr ns], fun d => d = .bl true, ⟨fun b u e => (noTb_some e).1, fun b ps e => (noTb_some e).2 ps rfl, hT⟩, .cons (.scr (noTb_seq hS)) .nil, rfl, ⟨ns, rfl, h63, rfl⟩, fun d v F' H' e _ r => ?_⟩
  subst e
  cases r
  exact q H'
theorem walk_endT {l : PySem.W.OpenLaw} {q : Program} {loose : List Str} {XP : (Str → Option Value) → Heap → Prop} {YP : World → Heap → Prop} {d : DefRec} {K : Params → PySem.W.Frag} {k : Nat} {st : Stmt} (cs : List (Addr × Addr)) (hn : l.most = some 63) (hdf : d.params.defaults = [])
    (hY : ∀ (w : World) (h : Heap), YP w h → (K w.params).In h) (hr : Room k callerA)
    (hb : ∀ (kV doc pm : Value) (an : Option Addr) (cdv ct : Value) (s : Shared) (v : Value), BindsTo s (PySem.W.fnOf "law" "law" (defArgs st) (defBody st) (defScope st) .none kV doc pm an cdv ct) ⟨[v], []⟩ [("_law_script", v)])
    (hname : d.name = "law") (hsub : ∀ p ∈ Tb.T, ∃ c, (c, p.1) ∈ cs) (hY2 : ∀ (w : World) (h : Heap), YP w h → ∀ p ∈ cs, h.get? p.2 = some { cls := .none, data := .fields #[] })
    (D : ∀ (w : World) (mg : Str → Option Value) (h : Heap), (K w.params).In h → h.Ns mainGlobals mg → (∀ p ∈ cs, (K w.params).lookup p.2 = none) ∧ (∀ p ∈ cs, PySem.W.CodeHd h p.1 p.2) ∧ Df (K w.params) mg "law" st ["_law_script"] ∧
      ∀ (f : Addr) (fd : FuncData) (base : Heap), (∀ p ∈ cs, LamX.TabB base mg p.1 p.2) → Fun (K w.params) "law" "law" st f fd → mg "law" = some (.ref f) → FnOk l.prog w (K w.params) mg base CX0 k f fd ["_law_script"] (spLaw (K w.params))) :
    PySem.W.WalkO q loose XP YP l.row.toRowW d [] (fun f vs => PySem.call f vs) := by
  refine LamX.walk_ofTs (n := 63) (k := k) (x := "_law_script") (CX := fun _ => CX0) hn (by decide) hdf hr hY (fun w mg fa h Y KX G hmg => ?_) fun _ _ _ _ _ z => z
  obtain ⟨h1, h2, ⟨f, fd, F, hm, _⟩, H⟩ := D w mg h KX G
  rw [hname] at hmg
  rw [hm] at hmg
  cases hmg
  have FF := F
  obtain ⟨oc, od, kV, doc, pm, an, cdv, ct, osl, rfl, lk, hcd⟩ := F.ex
  refine ⟨_, cs, spLaw (K w.params), hY2 w h Y, h1, h2, fun s v => hb kV doc pm an cdv ct s v, fun H' a ns hl _ hT hS => ⟨a, ns, rfl, hS, hl, fun p hp => ?_, fun _ => rfl⟩, fun base _ _ TB => H _ _ base TB FF hm⟩
  obtain ⟨c, hc⟩ := hsub p hp
  exact LamX.TabS.nil (hT _ hc)
theorem walk_end0 {l : PySem.W.OpenLaw} {q : Program} {loose : List Str} {XP : (Str → Option Value) → Heap → Prop} {YP : World → Heap → Prop} {d : DefRec} {K : Params → PySem.W.Frag} {k : Nat} {st : Stmt} (hT : Tb.T = []) (hn : l.most = some 63) (hdf : d.params.defaults = [])
    (hY : ∀ (w : World) (h : Heap), YP w h → (K w.params).In h) (hr : Room k callerA)
    (hb : ∀ (kV doc pm : Value) (an : Option Addr) (cdv ct : Value) (s : Shared) (v : Value), BindsTo s (PySem.W.fnOf "law" "law" (defArgs st) (defBody st) (defScope st) .none kV doc pm an cdv ct) ⟨[v], []⟩ [("_law_script", v)])
    (hname : d.name = "law")
    (D : ∀ (w : World) (mg : Str → Option Value) (h : Heap), (K w.params).In h → h.Ns mainGlobals mg → Df (K w.params) mg "law" st ["_law_script"] ∧ ∀ (f : Addr) (fd : FuncData) (base : Heap), Fun (K w.params) "law" "law" st f fd → FnOk l.prog w (K w.params) mg base CX0 k f fd ["_law_script"] (spLaw (K w.params))) :
    PySem.W.WalkO q loose XP YP l.row.toRowW d [] (fun f vs => PySem.call f vs) :=
  walk_endT [] hn hdf hY hr hb hname (fun p hp => by rw [hT] at hp; cases hp) (fun _ _ _ _ hp => nomatch hp) fun w mg h KX G => ⟨fun _ hp => (nomatch hp), fun _ hp => (nomatch hp), (D w mg h KX G).1, fun f fd base _ F _ => (D w mg h KX G).2 f fd base F⟩
end DL
namespace DL
open PySem L2
variable [Tb]
/-! ### constants of the module that are tuples -/
def KD (K : PySem.W.Frag) (u : Value) (d : D) : Prop := ∃ v, RelV v u ∧ ∀ F, At K F v d
def KDs (K : PySem.W.Frag) (us : List Value) (ds : List D) : Prop := ∃ vs, Vals vs us ∧ ∀ F, AtAll K F vs ds
section
variable {K : PySem.W.Frag}
theorem KD.int {i : Int} {t : Tok} : KD K (.int i t) (.int i) := ⟨.int i, ⟨t, rfl⟩, fun _ => .int i⟩
theorem KD.str {x : Str} {t : Tok} : KD K (.str x t) (.str x) := ⟨.str x, ⟨t, rfl⟩, fun _ => .str x⟩
theorem KD.bl {b : Bool} : KD K (.bool b) (.bl b) := ⟨.bl b, rfl, fun _ => .bl b⟩
theorem KD.non : KD K .none .non := ⟨.non, rfl, fun _ => .non⟩
theorem KDs.nil : KDs K [] [] := ⟨[], .nil, fun _ => .nil⟩
theorem KDs.cons {u : Value} {us : List Value} {d : D} {ds : List D} (h : KD K u d) (k : KDs K us ds) : KDs K (u :: us) (d :: ds) := by
  obtain ⟨v, r, q⟩ := h
  obtain ⟨vs, rs, qs⟩ := k
  exact ⟨v :: vs, .cons r rs, fun F => .cons (q F) (qs F)⟩
theorem KD.tup {a : Addr} {od : Option Addr} {its : Array Value} {n : Nat} {osl : Array (Option Value)} {ds : List D} (l : K.lookup a = some ⟨.type "tuple", od, .seq its n, osl⟩) (hz : its.size ≤ 1000) (h : KDs K its.toList ds) : KD K (.ref a) (.tup ds) := by
  obtain ⟨vs, rs, qs⟩ := h
  exact ⟨.ref a, rfl, fun F => .tup (.inr ⟨_, its, n, l, rfl, rfl, szle hz, rs⟩) (qs F)⟩
theorem KD.at {a : Addr} {d : D} (h : KD K (.ref a) d) : ∀ F, At K F (.ref a) d := by
  obtain ⟨v, r, q⟩ := h
  have e := r.abs
  cases e
  exact q
theorem c_ref {mg : Str → Option Value} {x : Str} {a : Addr} {d : D} (m : mg x = some (.ref a)) (q : KD K (.ref a) d) : ∃ a, mg x = some (.ref a) ∧ ∀ F, At K F (.ref a) d := ⟨a, m, q.at⟩
theorem c_int {mg : Str → Option Value} {x : Str} {i : Int} {t : Tok} (m : mg x = some (.int i t)) : ∃ t, mg x = some (.int i t) := ⟨t, m⟩
theorem c_strg {mg : Str → Option Value} {x y : Str} {t : Tok} (m : mg x = some (.str y t)) : ∃ t, mg x = some (.str y t) := ⟨t, m⟩
end
end DL

namespace DL
open PySem PySem.W PySem.Spec PyProof.Rows L2
variable [Tb]
/-! ### sorted of data -/
def leD : D → D → Bool := dataLe false D.py
/-- what may be sorted -/
def SortOk (x : List D) : Prop := AllAlike (x.map D.py) ∧ Sortable (x.map D.py) ∧ ∀ d ∈ x, d.py.plain = true ∧ d.py.depth ≤ 60
def sortD (x : List D) : List D := x.mergeSort leD
theorem each_of {K : PySem.W.Frag} {F : Hp} : ∀ {xs : List V} {us : List Value} {ds : List D}, Vals xs us → AtAll K F xs ds → EachIs (fun u d => ∃ x, RelV x u ∧ At K F x d) us ds
  | _, _, _, .nil, .nil => .nil
  | _, _, _, .cons r t, .cons a b => .cons ⟨_, r, a⟩ (each_of t b)
theorem each_to {K : PySem.W.Frag} {F : Hp} : ∀ {us : List Value} {ds : List D}, EachIs (fun u d => ∃ x, RelV x u ∧ At K F x d) us ds → ∃ xs, Vals xs us ∧ AtAll K F xs ds
  | _, _, .nil => ⟨[], .nil, .nil⟩
  | _, _, .cons ⟨x, r, a⟩ t => by
    obtain ⟨xs, h1, h2⟩ := each_to t
    exact ⟨x :: xs, .cons r h1, .cons a h2⟩
theorem each_reads {X : Cx} {pins : List (Addr × Obj)} {σ : L2.St} {H F : Hp} {s : Shared} (I : Inv X pins σ H s) (fs : Same F H) : ∀ {us : List Value} {ds : List D}, EachIs (fun u d => ∃ x, RelV x u ∧ At X.K F x d) us ds → (∀ d ∈ ds, d.py.plain = true) →
    EachIs (fun v b => ∃ as, Reads s.heap v (D.py b) as) us ds
  | _, _, .nil, _ => .nil
  | _, _, .cons ⟨x, r, a⟩ t, h => .cons (Dp.reads I _ x _ (Dp.mono' fs (At.dp a (h _ List.mem_cons_self))) r) (each_reads I fs t fun d hd => h d (List.mem_cons_of_mem _ hd))
def rSortD (X : Cx) : List V → Hp → VK → Prop := fun vs H Q => ∃ (a : Addr) (xs : List V) (ds : List D) (F : Hp), vs = [V.ref a] ∧ SqL X.K H a xs ∧ Same F H ∧ AtAll X.K F xs ds ∧ SortOk ds ∧
  ∀ (ys : List V) (p : Addr), AtAll X.K F ys (sortD ds) → H p = none → Q (.ref p) (upd H p (.lst ys))
theorem cr_sortD {X : Cx} (hu : X.A.units + 64 < cLine) : CallR X (.builtin "sorted") (rSortD X) := by
  intro pins s σ H vs us Q I r h
  obtain ⟨a, xs, ds, F, rfl, hs, fs, ha, ⟨hal, hso, hpl⟩, q⟩ := h
  obtain ⟨its, rv, hl, hz⟩ := I.list hs
  rw [Vals.ref1 r]
  have e := each_of rv ha
  refine sorted_data (R := fun u d => ∃ x, RelV x u ∧ At X.K F x d) (enc := D.py) hl.isList e (each_reads I fs e fun d hd => (hpl d hd).1) hal hso (by rw [← ha.length]; exact hz) (fun d hd => by have := (hpl d hd).2; omega) fun out hlen ho => ?_
  obtain ⟨ys, h1, h2⟩ := each_to ho
  obtain ⟨ep, he'⟩ := PyProof.Rows.sortedAll_at s.heap its out.toArray
  have hlen : ys.length ≤ sizeLine := by
    rw [h1.length, hlen, ← ha.length]
    exact hz
  exact ⟨.ref _, upd H (s.heap.objs.size + 1) (.lst ys), I.laid (t' := s.toks) (fun _ _ => PyProof.Rows.sortedAll_old) (Nat.le_succ _) ⟨hlen, out, ep, h1, he'⟩, rfl, q _ _ h2 (I.hok.fresh (Nat.le_succ _))⟩
def gSort : List D → (List D → Prop) → Prop := fun x Q => SortOk x ∧ Q (sortD x)
theorem c_sort {X : Cx} (hu : X.A.units + 64 < cLine) : ClN X (.builtin "sorted") (RL X.K) gSort := by
  refine ⟨_, cr_sortD hu, ?_⟩
  rintro F H x d QQ Q fs ⟨a, xs, rfl, h1, h2⟩ ⟨ok, q⟩ k
  exact ⟨a, xs, d, F, rfl, SqL.of h1, fs, h2, ok, fun ys p h3 hp => k _ p ys _ _ q (Stp.own fs hp _) hp upd_same (fs.free hp) h3⟩
end DL
namespace DL
open PySem PySem.W PySem.Spec PyProof.Rows L2
variable [Tb]
/-! ### set(xs) of a list of ints -/
abbrev bareSet (w : World) : Obj := { cls := .type "set", dict := none, data := .set #[] 0 (.fresh 0 0 (!w.params.followText "set-order")) }
section
variable {P : Program} {w : World} {A : Around} {E : Value → Shared → Prop} {s : Shared}
/-- set(l): what the filling of the new set leaves -/
theorem set_of_list {l : Addr} {items : Array Value} (R : Heap → Prop) {Q : Value → Shared → Prop} (hl : s.heap.IsList l items)
    (fill : ∀ E' : Value → Shared → Prop, (s.heap.push (bareSet w)).IsList l items → l < s.heap.objs.size →
      codeAny (model P w) A.in1.in1 (.builtin "set.update.loop" ⟨[.ref s.heap.objs.size, .ref (s.heap.objs.size + 1)], []⟩) (wants (fun r s2 => r = .none ∧ ∃ h' tk, s2 = { s with heap := h', toks := tk } ∧ R h') E')
        { s with heap := (s.heap.push (bareSet w)).push { cls := .type "list_iterator", data := .fields #[.ref l, .int 0 0] } })
    (h : ∀ (h' : Heap) (tk : Nat), R h' → Q (.ref s.heap.objs.size) { s with heap := h', toks := tk }) :
    wpAny (model P w) A (call (.type "set") [.ref l]) Q E s := by
  obtain ⟨c, tl, hmro⟩ := F.called_set.mro
  have hmade := F.called_set.made
  have hsub := F.called_set.sub
  refine wpAny_call (codeAny_of_tree ?_)
  show wpAny _ _ (callAny (.type "set") _) _ _ _
  refine wpAny_pure ⟨Code.quiet_builtin _ (by decide +kernel), codeAny_builtin F.entry_type_call ?_⟩
  rw [Around.under_plain (weight_type_call_type "set" [.ref l] []) rfl]
  have h1 := F.called_set.notType
  have h2 := F.called_set.canCreate
  have hct := F.typeCall_set_1 (.ref l)
  repeat (any_goals (first | assumption | wp_step))
  refine codeAny_mono (code_set_led1 (.ref l) (E := E) (Q₁ := fun obj s₁ => obj = .ref s.heap.objs.size ∧ s₁ = { s with heap := s.heap.push (bareSet w) }) ⟨rfl, rfl⟩) fun r s₁ hr => ?_
  match r, hr with
  | .error e, hr => exact hr
  | .ok (.ret obj), hr =>
    obtain ⟨rfl, rfl⟩ := hr
    have hT : Shared.TypeIs { s with heap := s.heap.push (bareSet w) } (.ref s.heap.objs.size) "set" := ⟨_, Heap.get?_push_size _ rfl, rfl⟩
    have hli := F.called_set.init.lookup
    have hbi := F.called_set.init.bind (.ref s.heap.objs.size)
    repeat (any_goals (first | assumption | wp_step))
    refine codeAny_mono (codeAny_call_builtin (R := wants (fun r s₂ => r = .none ∧ ∃ h' tk, s₂ = { s with heap := h', toks := tk } ∧ R h') E) F.called_set.init.plain F.entry_set_init (check_set_init_1 hT ?_)) fun r₂ s₂ hr₂ => ?_
    · have hlS : l < s.heap.objs.size := by
        obtain ⟨ol, hol, _⟩ := hl
        exact Heap.lt_size hol
      have hl1 : (s.heap.push (bareSet w)).IsList l items := hl.push _
      have hcls : ∃ o, (s.heap.push (bareSet w)).get? l = some o ∧ o.cls = .type "list" := by
        obtain ⟨o, ho, hc, _⟩ := hl1
        exact ⟨o, ho, hc⟩
      obtain ⟨⟨ocls, odict, odata, oslots⟩, hol', hcl⟩ := hcls
      simp only at hcl
      subst hcl
      have hsls := F.sub_list_set
      have hslf := F.sub_list_frozenset
      have hne : (Value.type "list" == Value.type "dict") = false := by decide
      unfold Builtin.«set.__init__» noKeywords Builtin.Frozenset.updateFrom
      generalize hPI : pyIter = PI
      wp_walk
      subst hPI
      refine wpAny_pyIter_list hl1 ?_
      refine wpAny_bind (wpAny_runValue ?_)
      have e1 : (s.heap.push (bareSet w)).objs.size = s.heap.objs.size + 1 := Heap.size_push ..
      have f := fill E hl1 hlS
      rw [← e1] at f
      refine codeAny_mono f fun r s' hr => ?_
      match r, hr with
      | .error e, hr => exact hr
      | .ok (.ret v), hr =>
        obtain ⟨rfl, h', tk, rfl, hR⟩ := hr
        refine wpAny_pure ?_
        show wpAny _ _ (ret Value.none) _ _ _
        exact wpAny_pure ⟨rfl, h', tk, rfl, hR⟩
    · match r₂, hr₂ with
      | .error e, hr₂ => exact hr₂
      | .ok (.ret r), hr₂ =>
        obtain ⟨rfl, h', tk, rfl, hR⟩ := hr₂
        repeat (any_goals (first | assumption | wp_step))
        exact h _ _ hR
/-- of ints -/
theorem set_of_ints {l : Addr} {items : Array Value} (ns : List Int) {Q : Value → Shared → Prop} (hh : A.handled = none) (hl : s.heap.IsList l items) (hit : IntsAre items.toList ns) (hb : ns.length + 1 < scanBound)
    (h : ∀ (h' : Heap) (tk c : Nat), SetR w h' s.heap.objs.size (fun j => decide (j ∈ ns)) c → c ≤ ns.length → (∀ b o, s.heap.get? b = some o → h'.get? b = some o) → Q (.ref s.heap.objs.size) { s with heap := h', toks := tk }) :
    wpAny (model P w) A (call (.type "set") [.ref l]) Q E s := by
  have hisz : items.size = ns.length := by
    have q := IntsAre.length hit
    rwa [Array.length_toList] at q
  refine set_of_list (fun h' => ∃ c, SetR w h' s.heap.objs.size (fun j => decide (j ∈ ns)) c ∧ c ≤ ns.length ∧ ∀ b o, s.heap.get? b = some o → h'.get? b = some o) hl (fun E' hl1 hlS => ?_) fun h' tk ⟨c, h1, h2, h3⟩ => h h' tk c h1 h2 h3
  have hh3 : A.in1.in1.in1.handled = none := by simp [hh]
  have hI : l ≠ (s.heap.push (bareSet w)).objs.size := by rw [Heap.size_push]; exact Nat.ne_of_lt (Nat.lt_succ_of_lt hlS)
  have eI : (s.heap.push (bareSet w)).objs.size = s.heap.objs.size + 1 := Heap.size_push ..
  have hval : ∀ (i : Nat) (v : Value), items[i]? = some v → ∃ k t, ns[i]? = some k ∧ v = .int k t := fun i v hv => by
    have hi : i < ns.length := by rw [← hisz]; exact (Array.getElem?_eq_some_iff.mp hv).1
    obtain ⟨t, e⟩ := IntsAre.int_at hit i v (by rw [Array.getElem?_toList]; exact hv)
    refine ⟨ns[i], t, List.getElem?_eq_getElem hi, ?_⟩
    rw [e, List.getD_eq_getElem?_getD, List.getElem?_eq_getElem hi]
    rfl
  have hS : ((s.heap.push (bareSet w)).push { cls := .type "list_iterator", data := .fields #[.ref l, .int 0 0] }).get? s.heap.objs.size = some (bareSet w) := Heap.get?_push_of_some _ (Heap.get?_push_size _ rfl)
  rw [← eI]
  refine set_update_ints ((Walks.list hh3 _ l hI items).toS) s.heap.objs.size (by rw [eI]; simp only [List.mem_cons, List.not_mem_nil, or_false, not_or]; exact ⟨Nat.ne_of_lt (Nat.lt_succ_self _), Nat.ne_of_gt hlS⟩) ns hisz hb hval (items.size - 0) 0 _ (by omega) (Nat.zero_le _) ⟨⟨_, Heap.get?_push_size _ rfl, rfl, rfl⟩, (hl1.push _)⟩ ⟨0, Nat.le_refl 0, setR_new_at hS⟩ ?_
  intro s' c' hm hc' hS'
  obtain ⟨h', g2, d', tk', os'⟩ := s'
  have eg : g2 = s.gens := hm.gens
  have ed : d' = s.drawn := hm.drawn
  have eo : os' = s.os := hm.os
  subst eg; subst ed; subst eo
  refine ⟨rfl, h', tk', rfl, c', hS', by omega, fun b o e => ?_⟩
  have hb0 : b < s.heap.objs.size := Heap.lt_size e
  exact hm.heap b o (by rw [eI]; simp only [List.mem_cons, List.not_mem_nil, or_false, not_or]; exact ⟨Nat.ne_of_lt hb0, Nat.ne_of_lt (Nat.lt_succ_of_lt hb0)⟩) (Heap.get?_push_of_some _ (Heap.get?_push_of_some _ e))
end
/-- a set of ints that was just made -/
def RS (w : World) : RJ (List Int) := fun _ H v ns => ∃ (a : Addr) (n : Nat), v = .ref a ∧ H a = some (SetO w a (fun j => decide (j ∈ ns)) n) ∧ n ≤ ns.length
def rSetI (X : Cx) : List V → Hp → VK → Prop := fun vs H Q => ∃ (l : Addr) (ns : List Int), vs = [V.ref l] ∧ SqL X.K H l (ns.map V.int) ∧ ns.length ≤ 1000 ∧
  ∀ a n, H a = none → n ≤ ns.length → Q (.ref a) (upd H a (SetO X.w a (fun j => decide (j ∈ ns)) n))
theorem cr_setI {X : Cx} (hc : X.calm = true) : CallR X (.type "set") (rSetI X) := by
  intro pins s σ H vs us Q I r h
  obtain ⟨l, ns, rfl, hs, hb, q⟩ := h
  obtain ⟨its, rv, hl, hz⟩ := I.list hs
  rw [Vals.ref1 r]
  have hn : H s.heap.objs.size = none := I.hok.fresh (Nat.le_refl _)
  refine set_of_ints ns (I.ok.hd hc) hl.isList (by simpa using rv.ints) (by unfold scanBound; omega) fun h' tk c hS hc' hk => ?_
  exact ⟨.ref _, upd H s.heap.objs.size (SetO X.w s.heap.objs.size (fun j => decide (j ∈ ns)) c), I.laid (t' := tk) (fun b o e => hk b o e) (Nat.le_refl _) (setO_new hS), rfl, q _ _ hn hc'⟩
def gSetI : List D → (List Int → Prop) → Prop := fun x Q => ∃ ns : List Int, x = ns.map D.int ∧ ns.length ≤ 1000 ∧ Q ns
theorem c_setI {X : Cx} (hc : X.calm = true) : ClD X (.type "set") (RL X.K) (RS X.w) gSetI := by
  refine ⟨_, cr_setI hc, ?_⟩
  rintro F H x d QQ Q fs ⟨a, xs, rfl, h1, h2⟩ ⟨ns, rfl, hb, q⟩ k
  have e := h2.ints
  subst e
  exact ⟨a, ns, rfl, SqL.of h1, hb, fun p n hp hn => k _ _ _ _ q (Stp.own fs hp _) ⟨p, n, rfl, upd_same, hn⟩⟩
def gSortI : List Int → (List D → Prop) → Prop := fun ns Q => ns.length < 64 ∧ ∀ ms : List Int, ms.Pairwise (· < ·) → (∀ k, k ∈ ms ↔ k ∈ ns) → Q (ms.map D.int)
theorem c_sortS {X : Cx} (hc : X.calm = true) : ClN X (.builtin "sorted") (RS X.w) gSortI := by
  refine ⟨_, cr_sortedSet hc, ?_⟩
  rintro F H x ns QQ Q fs ⟨a, n, rfl, h1, h2⟩ ⟨h64, q⟩ k
  exact ⟨a, _, n, rfl, h1, by omega, fun ms p hp hm _ hn => k _ p _ _ _ (q ms hp fun k => (hm k).trans (by rw [decide_eq_true_eq])) (Stp.own fs hn _) hn upd_same (fs.free hn) (AtAll.of_ints ms)⟩
end DL

namespace DL
open PySem PySem.W PySem.Spec PyProof.Rows L2
variable [Tb]
/-! ### targets that store into an own list -/
def lM (K : PySem.W.Frag) (F0 H0 : Hp) (t : DG) : TG := fun v σ H Q => ∃ F ρ d QQ, EnvAt K F0 H0 F H σ ρ ∧ At K F v d ∧ t d ρ QQ ∧ ∀ ρ' σ' F' H', QQ ρ' → Same F F' → EnvAt K F0 H0 F' H' σ' ρ' → Q σ' H'
def lMs (K : PySem.W.Frag) (F0 H0 : Hp) (t : DGs) : TGs := fun ws σ H Q => ∃ F ρ ds QQ, EnvAt K F0 H0 F H σ ρ ∧ AtAll K F ws ds ∧ t ds ρ QQ ∧ ∀ ρ' σ' F' H', QQ ρ' → Same F F' → EnvAt K F0 H0 F' H' σ' ρ' → Q σ' H'
structure PMD (X : Cx) (F0 H0 : Hp) (tg : Expr) (t : DG) : Prop where
  pg : PG X tg (lM X.K F0 H0 t)
structure PMsD (X : Cx) (F0 H0 : Hp) (tgs : List Expr) (t : DGs) : Prop where
  pg : PGs X tgs (lMs X.K F0 H0 t)
def dSub (i : Nat) (tk : DE) : DG := fun d ρ Q => ∃ l : List D, ρ[i]? = some (some (.own l)) ∧ tk ρ fun y => ∃ (k : Int) (j : Nat), y = .int k ∧ ixN l.length k = some j ∧ Q (ρ.set i (some (.own (l.set j d))))
section
variable {X : Cx} {F0 H0 : Hp} {a b e : Expr} {pos : Pos}
theorem pmd_sub {i : Nat} {tk : DE} {o : Expr} {tpos : Pos} (ho : PE X o (tVar i)) (hk : PD X F0 H0 a tk)
    (ha : ∀ v, assign (.Subscript o a tpos) X.env v = (do
      let ov ← holding [v] (eval o X.env)
      let iv ← holding [v, ov] (eval a X.env)
      standAt tpos
      holding [v, ov, iv] (setItem ov iv v)
      release [v, ov, iv] []) := by intro _; rfl) : PMD X F0 H0 (.Subscript o a tpos) (dSub i tk) := by
  refine ⟨pg_imp (pg_sub ho hk.pe set_list ha) ?_⟩
  rintro v σ H Q ⟨F, ρ, d, QQ, E, r, ⟨l, hl, q⟩, kk⟩
  obtain ⟨p, xs, e1, e2, e3, e4, e5⟩ := E.ow i l hl
  refine ⟨_, e1, F, ρ, _, E, q, fun y w F2 H2 ⟨k, j, ey, hj, q2⟩ s2 r2 => ?_⟩
  subst ey
  cases r2
  have E2 := E.step s2
  refine ⟨p, xs, k, j, rfl, rfl, s2.hh.lst e2, by rw [e5.length]; exact hj, ?_⟩
  exact kk _ _ F2 _ q2 s2.ff (E2.chg hl e1 ((e5.mono s2.ff).set (r.mono s2.ff) j))
theorem pmsd_nil : PMsD X F0 H0 [] dGNil := by
  refine ⟨pgs_imp pgs_nil ?_⟩
  rintro v σ H Q ⟨F, ρ, ds, QQ, E, r, ⟨rfl, q⟩, k⟩
  cases r
  exact ⟨rfl, k _ _ _ _ q (Same.refl _) E⟩
theorem pmsd_cons {e : Expr} {es : List Expr} {t : DG} {u : DGs} (h1 : PMD X F0 H0 e t) (h2 : PMsD X F0 H0 es u)
    (hs : (assignEach (e :: es) X.env).map (·.2) = assign e X.env :: (assignEach es X.env).map (·.2) := by rfl) : PMsD X F0 H0 (e :: es) (dGCons t u) := by
  refine ⟨pgs_imp (pgs_cons h1.pg h2.pg hs) ?_⟩
  rintro ws σ H Q ⟨F, ρ, ds, QQ, E, r, ⟨d, rr, rfl, q⟩, k⟩
  cases r with
  | cons r1 r2 =>
    refine ⟨_, _, rfl, F, ρ, d, _, E, r1, q, fun ρ' σ' F' H' q' s' E' => ?_⟩
    exact ⟨F', ρ', rr, QQ, E', r2.mono s', q', fun ρ2 σ2 F2 H2 q2 s2 E2 => k ρ2 σ2 F2 H2 q2 (s'.trans s2) E2⟩
theorem pmd_tup {es : List Expr} {k : Nat} {t : DGs} {n : Nat} (hc : X.calm = true) (h : PMsD X F0 H0 es t)
    (hn : (assignEach es X.env).length = n := by rfl) (hst : (assignEach es X.env).findIdx? (·.1) = none := by rfl) : PMD X F0 H0 (.Tuple es k pos) (gTp n t) := by
  refine ⟨pg_imp (pg_tup hc h.pg hn hst) ?_⟩
  rintro v σ H Q ⟨F, ρ, d, QQ, E, r, ⟨l, rfl, hl, q⟩, k⟩
  cases r with
  | tup h1 h2 => exact ⟨_, _, rfl, Same.sqT E.fs h1, by rw [h2.length]; exact hl, F, ρ, l, QQ, E, h2, q, k⟩
theorem psd_asgM {tg : Expr} {te : DE} {g : DG} (h : PD X F0 H0 e te) (hg : PMD X F0 H0 tg g) (hs : swapsWithSole [tg] e pos.line X.env = pure false := by rfl) (hw : swappedStores [tg] e X.env = pure none := by rfl)
    (h1 : (assignEach [tg] X.env).map (·.2) = [assign tg X.env] := by rfl) : PSD X F0 H0 (.Assign [tg] e pos) (dAsg te g) := by
  refine ⟨ps_imp (ps_asg h.pe hg.pg hs hw h1) ?_⟩
  rintro G σ H ⟨F, ρ, DD, E, q, l⟩
  exact ⟨F, ρ, _, E, q, fun d v F' H' q' s r => ⟨F', ρ, d, _, E.step s, r, q', fun ρ' σ' F2 H2 q2 s2 E2 => l.nx _ _ F2 H2 q2 (s.ff.trans s2) E2⟩⟩
end
end DL
namespace DL
open PySem PySem.W PySem.Spec PyProof.Rows L2
variable [Tb]
/-! ### max, min of a tuple of ints -/
section
variable {prog : Program} {w : World} {A : Around} {E : Value → Shared → Prop} {s : Shared} {l : Addr} {items : Array Value} {ns : List Int}
theorem iter_tup {Q : Value → Shared → Prop} (hl : s.heap.IsTuple l items)
    (h : ∀ s₂ : Shared, s₂ = { s with heap := s.heap.push { cls := .type "tuple_iterator", data := .fields #[.ref l, .int 0 0] } } →
      (∀ b ∈ [s.heap.objs.size, l], b < s₂.heap.objs.size) → l ≠ s.heap.objs.size → s₂.heap.IsTuple l items → Q (.ref s.heap.objs.size) s₂) :
    wpAny (model prog w) A (pyIter (.ref l)) Q E s := by
  have hlt : l < s.heap.objs.size := by obtain ⟨_, e, _⟩ := hl; exact Heap.lt_size e
  refine wpAny_pyIter_tuple hl (h _ rfl (fun b hb => ?_) (Nat.ne_of_lt hlt) (hl.push _))
  show b < (s.heap.push _).objs.size
  rw [Heap.size_push]
  simp only [List.mem_cons, List.not_mem_nil, or_false] at hb
  rcases hb with rfl | rfl
  · exact Nat.lt_succ_self _
  · exact Nat.lt_succ_of_lt hlt
theorem getD_lt {ns : List Int} {i : Nat} (h : i < ns.length) : ns.getD i 0 ∈ ns := by
  rw [List.getD_eq_getElem?_getD, List.getElem?_eq_getElem h]
  exact List.getElem_mem h
theorem maxT {Q : Value → Shared → Prop} (hh : A.handled = none) (hl : s.heap.IsTuple l items) (hi : IntsAre items.toList ns) (hne : 0 < ns.length)
    (h : ∀ h' tk M t', (∀ b o, s.heap.get? b = some o → h'.get? b = some o) → M ∈ ns → (∀ a, a ∈ ns → a ≤ M) → Q (.int M t') { s with heap := h', toks := tk }) : wpAny (model prog w) A (call (.builtin "max") [.ref l]) Q E s := by
  have hsz : items.size = ns.length := by
    have q := IntsAre.length hi
    rwa [Array.length_toList] at q
  refine call_max_walk (iter_tup hl fun s₂ e hfp hlI hl2 => ?_)
  subst e
  refine ⟨_, _, _, _, _, _, _, rfl, Walks.tuple (A := A.in1) hh _ l hlI items, ⟨⟨_, Heap.get?_push_size _ rfl, rfl, rfl⟩, hl2⟩, hfp, by omega, CmpOf.ints_gt (fun i => ns.getD i 0) (fun i v hv => IntsAre.int_at hi i v (by rw [Array.getElem?_toList]; exact hv)), fun v h' tk hP hk => ?_⟩
  obtain ⟨t, rfl⟩ := IntsAre.int_at hi _ v (by rw [Array.getElem?_toList]; exact hP)
  obtain ⟨h1, h2⟩ := argBest_gt (fun i => ns.getD i 0) (items.size - 1)
  refine h h' tk _ t (fun b o e => hk b o (by simp only [List.mem_singleton]; exact Nat.ne_of_lt (Heap.lt_size e)) (Heap.get?_push_of_some _ e)) (getD_lt (by omega)) fun a ha => ?_
  obtain ⟨j, hj, rfl⟩ := List.getElem_of_mem ha
  have := h2 j (by omega)
  simp only [List.getD_eq_getElem?_getD, List.getElem?_eq_getElem hj, Option.getD_some] at this ⊢
  exact this
theorem minT {Q : Value → Shared → Prop} (hh : A.handled = none) (hl : s.heap.IsTuple l items) (hi : IntsAre items.toList ns) (hne : 0 < ns.length)
    (h : ∀ h' tk M t', (∀ b o, s.heap.get? b = some o → h'.get? b = some o) → M ∈ ns → (∀ a, a ∈ ns → M ≤ a) → Q (.int M t') { s with heap := h', toks := tk }) : wpAny (model prog w) A (call (.builtin "min") [.ref l]) Q E s := by
  have hsz : items.size = ns.length := by
    have q := IntsAre.length hi
    rwa [Array.length_toList] at q
  refine call_min_walk (iter_tup hl fun s₂ e hfp hlI hl2 => ?_)
  subst e
  refine ⟨_, _, _, _, _, _, _, rfl, Walks.tuple (A := A.in1) hh _ l hlI items, ⟨⟨_, Heap.get?_push_size _ rfl, rfl, rfl⟩, hl2⟩, hfp, by omega, CmpOf.ints_lt (fun i => ns.getD i 0) (fun i v hv => IntsAre.int_at hi i v (by rw [Array.getElem?_toList]; exact hv)), fun v h' tk hP hk => ?_⟩
  obtain ⟨t, rfl⟩ := IntsAre.int_at hi _ v (by rw [Array.getElem?_toList]; exact hP)
  obtain ⟨h1, h2⟩ := argBest_lt (fun i => ns.getD i 0) (items.size - 1)
  refine h h' tk _ t (fun b o e => hk b o (by simp only [List.mem_singleton]; exact Nat.ne_of_lt (Heap.lt_size e)) (Heap.get?_push_of_some _ e)) (getD_lt (by omega)) fun a ha => ?_
  obtain ⟨j, hj, rfl⟩ := List.getElem_of_mem ha
  have := h2 j (by omega)
  simp only [List.getD_eq_getElem?_getD, List.getElem?_eq_getElem hj, Option.getD_some] at this ⊢
  exact this
end
def rMaxT (K : PySem.W.Frag) : List V → Hp → VK → Prop := fun vs H Q => ∃ (a : Addr) (ns : List Int), vs = [V.ref a] ∧ SqT K H a (ns.map V.int) ∧ 0 < ns.length ∧ ∀ m, m ∈ ns → (∀ y, y ∈ ns → y ≤ m) → Q (.int m) H
def rMinT (K : PySem.W.Frag) : List V → Hp → VK → Prop := fun vs H Q => ∃ (a : Addr) (ns : List Int), vs = [V.ref a] ∧ SqT K H a (ns.map V.int) ∧ 0 < ns.length ∧ ∀ m, m ∈ ns → (∀ y, y ∈ ns → m ≤ y) → Q (.int m) H
section
variable {X : Cx}
theorem cr_maxT (hc : X.calm = true) : CallR X (.builtin "max") (rMaxT X.K) := by
  intro pins s σ H vs us Q I r h
  obtain ⟨a, ns, rfl, hs, hne, q⟩ := h
  obtain ⟨its, rv, hl, _⟩ := I.tuple hs
  rw [Vals.ref1 r]
  exact maxT (I.ok.hd hc) hl (by simpa using rv.ints) hne fun h' tk m t' hk h1 h2 => ⟨.int _, H, I.kept hk, ⟨_, rfl⟩, q m h1 h2⟩
theorem cr_minT (hc : X.calm = true) : CallR X (.builtin "min") (rMinT X.K) := by
  intro pins s σ H vs us Q I r h
  obtain ⟨a, ns, rfl, hs, hne, q⟩ := h
  obtain ⟨its, rv, hl, _⟩ := I.tuple hs
  rw [Vals.ref1 r]
  exact minT (I.ok.hd hc) hl (by simpa using rv.ints) hne fun h' tk m t' hk h1 h2 => ⟨.int _, H, I.kept hk, ⟨_, rfl⟩, q m h1 h2⟩
def gMaxT : D → (D → Prop) → Prop := fun x Q => ∃ ns : List Int, x = .tup (ns.map D.int) ∧ 0 < ns.length ∧ ∀ m, m ∈ ns → (∀ y, y ∈ ns → y ≤ m) → Q (.int m)
def gMinT : D → (D → Prop) → Prop := fun x Q => ∃ ns : List Int, x = .tup (ns.map D.int) ∧ 0 < ns.length ∧ ∀ m, m ∈ ns → (∀ y, y ∈ ns → m ≤ y) → Q (.int m)
theorem c_maxT (hc : X.calm = true) : ClD X (.builtin "max") (RD X.K) (RD X.K) gMaxT := by
  refine ⟨_, cr_maxT hc, ?_⟩
  rintro F H x d QQ Q fs rx ⟨ns, rfl, hl, q⟩ k
  cases rx with
  | tup h1 h2 =>
    have e := h2.ints
    subst e
    exact ⟨_, ns, rfl, Same.sqT fs h1, hl, fun m a b => k _ _ F H (q m a b) (Stp.refl fs) (.int _)⟩
theorem c_minT (hc : X.calm = true) : ClD X (.builtin "min") (RD X.K) (RD X.K) gMinT := by
  refine ⟨_, cr_minT hc, ?_⟩
  rintro F H x d QQ Q fs rx ⟨ns, rfl, hl, q⟩ k
  cases rx with
  | tup h1 h2 =>
    have e := h2.ints
    subst e
    exact ⟨_, ns, rfl, Same.sqT fs h1, hl, fun m a b => k _ _ F H (q m a b) (Stp.refl fs) (.int _)⟩
end
end DL
namespace DL
open PySem L2
variable [Tb]
theorem room65 {k : Nat} {A : Around} (r : Room (k + 1) A) : A.units + 65 < cLine := by
  have := r.un
  omega
end DL

namespace DL
open PySem PySem.W PySem.Spec PyProof.Rows L2
variable [Tb]
/-! ### dicts of ints -/
def getI (kvs : List (Int × Int)) (i : Int) : Option Int := (kvs.find? fun p => decide (p.1 = i)).map (·.2)
theorem valV_dct (i : Int) : ∀ kvs : List (Int × Int), valV (dctV kvs) (Sum.inl i : Key) = (getI kvs i).map V.int
  | [] => rfl
  | p :: kvs => by
    unfold dctV getI
    rw [List.map_cons, List.find?_cons]
    by_cases h : p.1 = i
    · rw [valV_pos (by show (Sum.inl p.1 : Key) = Sum.inl i; rw [h])]
      simp [h]
    · rw [valV_neg (by intro e; exact h (Sum.inl.inj e))]
      have e : decide (p.1 = i) = false := decide_eq_false h
      rw [e]
      exact valV_dct i kvs
theorem mergeK_dct : ∀ (kvs acc : List (Int × Int)), (acc.map (·.1) ++ kvs.map (·.1)).Nodup → mergeK (dctV acc) (dctV kvs) = dctV (acc ++ kvs)
  | [], acc, _ => by rw [List.append_nil]; rfl
  | p :: kvs, acc, h => by
    have hn : valV (dctV acc) (Sum.inl p.1 : Key) = none := by
      rw [valV_dct]
      have : getI acc p.1 = none := by
        unfold getI
        rw [Option.map_eq_none_iff, List.find?_eq_none]
        intro q hq
        simp only [decide_eq_true_eq]
        intro e
        rw [List.nodup_append] at h
        exact h.2.2 q.1 (List.mem_map_of_mem hq) p.1 (by simp) e
      rw [this]
      rfl
    have e : putK (dctV acc) (Sum.inl p.1 : Key) (V.int p.2) = dctV (acc ++ [p]) := by
      unfold putK
      have hb := valV_any (Sum.inl p.1 : Key) (dctV acc)
      rw [hn] at hb
      rw [hb, if_neg (by decide)]
      unfold dctV
      rw [List.map_append]
      rfl
    show mergeK (putK (dctV acc) (Sum.inl p.1 : Key) (V.int p.2)) (dctV kvs) = _
    rw [e, mergeK_dct kvs (acc ++ [p]) (by simpa using h), List.append_assoc]
    rfl
def pairD (p : Int × Int) : D := .tup [.int p.1, .int p.2]
theorem pairs_at {K : PySem.W.Frag} {F H : Hp} (fs : Same F H) : ∀ {xs : List V} {kvs : List (Int × Int)}, AtAll K F xs (kvs.map pairD) → ∃ ps : List Addr, xs = ps.map V.ref ∧ Paired (fun p (kv : Key × V) => SqT K H p [kV kv.1, kv.2]) ps (dctV kvs)
  | _, [], .nil => ⟨[], rfl, .nil⟩
  | _, p :: kvs, .cons q r => by
    obtain ⟨ps, rfl, hp⟩ := pairs_at fs r
    cases q with
    | @tup a xs _ h1 h2 =>
      cases h2 with
      | cons e1 h2 =>
        cases h2 with
        | cons e2 h2 =>
          cases h2
          cases e1
          cases e2
          exact ⟨a :: ps, rfl, .cons (Same.sqT fs h1) hp⟩
theorem units1 {k : Nat} {A : Around} (r : Room k A) : A.units + 1 < cLine := by
  have := r.un
  omega
def gDict : List D → (D → Prop) → Prop := fun x Q => ∃ kvs : List (Int × Int), x = kvs.map pairD ∧ (kvs.map (·.1)).Nodup ∧ Q (.dct kvs)
section
variable {X : Cx}
theorem c_dict (hc : X.calm = true) : ClD X (.type "dict") (RL X.K) (RD X.K) gDict := by
  refine ⟨_, call_dictP hc, ?_⟩
  rintro F H x d QQ Q fs ⟨a, xs, rfl, h1, h2⟩ ⟨kvs, rfl, hn, q⟩ k
  obtain ⟨ps, rfl, hp⟩ := pairs_at fs h2
  refine ⟨a, ps, dctV kvs, rfl, SqL.of h1, hp, fun p hp => ?_⟩
  have e := mergeK_dct kvs [] (by simpa using hn)
  rw [show dctV [] = [] from rfl] at e
  rw [e, List.nil_append]
  exact k _ _ _ _ q (Stp.new fs hp _) (.dct upd_same)
end
section
variable {X : Cx} {F0 H0 : Hp} {a b c e o f : Expr} {pos apos cpos : Pos} {td ty tx : DE}
def dGet (td ty tx : DE) : DE := fun ρ Q => td ρ fun d => ∃ kvs, d = .dct kvs ∧ ty ρ fun y => tx ρ fun z => ∃ i, y = .int i ∧ Q (((getI kvs i).map D.int).getD z)
theorem pd_get (hu : X.A.units + 1 < cLine) (ho : PD X F0 H0 o td) (he : PD X F0 H0 e ty) (hf : PD X F0 H0 f tx) (m : M2 X o "get" apos e f cpos := by exact ⟨by rfl, by rfl, by rfl, by rfl⟩) : PD X F0 H0 (.Call (.Attribute o "get" apos) [e, f] [] cpos) (dGet td ty tx) := by
  refine ⟨pe_imp (pe_dget2 hu ho.pe he.pe hf.pe m) ?_⟩
  rintro σ H Q ⟨F, ρ, QQ, E, q, k⟩
  refine ⟨F, ρ, _, E, q, fun d v F1 H1 ⟨kvs, ed, q1⟩ s1 r1 => ?_⟩
  subst ed
  cases r1 with
  | dct hd =>
    refine ⟨_, rfl, .inl ⟨_, .inl (s1.fs _ _ hd)⟩, F1, ρ, _, E.step s1, q1, fun y w F2 H2 q2 s2 r2 => ?_⟩
    refine ⟨F2, ρ, _, (E.step s1).step s2, q2, fun z u F3 H3 ⟨i, ey, q3⟩ s3 r3 => ?_⟩
    subst ey
    cases r2
    refine ⟨_, DGet.k (k := Sum.inl i) (s3.fs _ _ (s3.ff _ _ (s2.ff _ _ hd))), ?_⟩
    rw [valV_dct]
    refine k _ _ F3 H3 q3 ((s1.trans s2).trans s3) ?_
    cases getI kvs i with
    | none => exact r3
    | some j => exact .int j
def dDIn (neg : Bool) (ty td : DE) : DE := fun ρ Q => ty ρ fun y => td ρ fun d => ∃ kvs i, d = .dct kvs ∧ y = .int i ∧ Q (.bl (if neg then !(getI kvs i).isSome else (getI kvs i).isSome))
theorem lDIn {K : PySem.W.Frag} (neg : Bool) {σ : L2.St} {H : Hp} {Q : VK} (h : lJ K F0 H0 (RD K) (dDIn neg ty td) σ H Q) : (if neg then tDNotIn (lJ K F0 H0 (RD K) ty) (lJ K F0 H0 (RD K) td) else tDIn (lJ K F0 H0 (RD K) ty) (lJ K F0 H0 (RD K) td)) σ H Q := by
  obtain ⟨F, ρ, QQ, E, q, k⟩ := h
  have main : lJ K F0 H0 (RD K) ty σ H fun y H1 => lJ K F0 H0 (RD K) td σ H1 fun x H2 => ∃ a o, x = .ref a ∧ DGet H2 a y o ∧ Q (.bl (if neg then !o.isSome else o.isSome)) H2 := by
    refine ⟨F, ρ, _, E, q, fun y v F1 H1 q1 s1 r1 => ?_⟩
    refine ⟨F1, ρ, _, E.step s1, q1, fun d w F2 H2 ⟨kvs, i, ed, ey, q2⟩ s2 r2 => ?_⟩
    subst ed ey
    cases r1
    cases r2 with
    | dct hd =>
      refine ⟨_, _, rfl, DGet.k (k := Sum.inl i) (s2.fs _ _ hd), ?_⟩
      rw [valV_dct, Option.isSome_map]
      exact k _ _ F2 H2 q2 (s1.trans s2) (.bl _)
  cases neg with
  | true => exact main
  | false => exact main
theorem pd_in_dict (hu : X.A.units + 1 < cLine) (he : PD X F0 H0 e ty) (ho : PD X F0 H0 o td) (h1 : behindInMarks .In o = false := by first | exact nomark _ | rfl) : PD X F0 H0 (.Compare e [.In] [o] pos) (dDIn false ty td) :=
  ⟨pe_imp (pe_cmp (pc_din hu he.pe ho.pe) h1) fun σ H Q h => lDIn false h⟩
theorem ptd_in_dict (hu : X.A.units + 1 < cLine) (he : PD X F0 H0 e ty) (ho : PD X F0 H0 o td) (h1 : behindInMarks .In o = false := by first | exact nomark _ | rfl) : PTD X F0 H0 (.Compare e [.In] [o] pos) (dTst (dDIn false ty td)) :=
  ⟨pt_imp (pt_cmp (pc_din hu he.pe ho.pe) h1) fun σ H Q h => lDIn false (lTst h)⟩
def dDSub (td ty : DE) : DE := fun ρ Q => td ρ fun d => ty ρ fun y => ∃ kvs i j, d = .dct kvs ∧ y = .int i ∧ getI kvs i = some j ∧ Q (.int j)
theorem pd_dget (hu : X.A.units + 1 < cLine) (ho : PD X F0 H0 o td) (hi : PD X F0 H0 e ty) (hs : NoSl e := by intro _ _; rfl) : PD X F0 H0 (.Subscript o e pos) (dDSub td ty) := by
  refine ⟨pe_imp (pe_dget hu ho.pe hi.pe hs) ?_⟩
  rintro σ H Q ⟨F, ρ, QQ, E, q, k⟩
  refine ⟨F, ρ, _, E, q, fun d v F1 H1 q1 s1 r1 => ?_⟩
  refine ⟨F1, ρ, _, E.step s1, q1, fun y w F2 H2 ⟨kvs, i, j, ed, ey, hg, q2⟩ s2 r2 => ?_⟩
  subst ed ey
  cases r2
  cases r1 with
  | dct hd =>
    have g := DGet.k (k := Sum.inl i) (s2.fs _ _ (s2.ff _ _ hd))
    rw [valV_dct, hg] at g
    exact ⟨_, _, rfl, g, k _ _ F2 H2 q2 (s1.trans s2) (.int j)⟩
end
/-! ### range with a step -/
def rngC (lo : Int) (n : Nat) (c : Int) : List D := (List.range n).map fun (i : Nat) => D.int (lo + i * c)
theorem walk_rngC {K : PySem.W.Frag} {F1 : Hp} {lo c : Int} {n : Nat} : Walk K (okS F1) (Itc lo c n) (rngC lo n c) where
  go := fun i F H _ hi => by
    show i < n
    simpa [rngC] using hi
  stop := fun F H _ => by
    show n ≤ _
    simp [rngC]
  yld := fun i d F H x H' ⟨_, b⟩ hd ⟨e1, e2⟩ => by
    subst e1 e2
    unfold rngC at hd
    rw [List.getElem?_map] at hd
    by_cases hi : i < n
    · rw [List.getElem?_range hi] at hd
      cases hd
      exact ⟨F, Stp.refl b, .int _⟩
    · rw [List.getElem?_eq_none (by simpa using hi)] at hd
      cases hd
def dRng3 (t u z : DE) : DA := fun ρ Q => t ρ fun x => u ρ fun y => z ρ fun s => ∃ (i j c : Int) (n : Nat), x = .int i ∧ y = .int j ∧ s = .int c ∧ RgC i j c n ∧ Q (rngC i n c)
section
variable {X : Cx} {F0 H0 : Hp} {a b c tg : Expr} {pos p : Pos} {t u z : DE}
theorem pid_rng3 (hg : Gl X "range") (hm : X.mg "range" = none) (h : PD X F0 H0 a t) (h2 : PD X F0 H0 b u) (h3 : PD X F0 H0 c z)
    (hs : starEach [a, b, c] X.env = (false, eval a X.env) :: starEach [b, c] X.env := by rfl) (hs2 : starEach [b, c] X.env = (false, eval b X.env) :: starEach [c] X.env := by rfl) (hs3 : starEach [c] X.env = [(false, eval c X.env)] := by rfl) (hpl : (backTo pos (starEach [b, c] X.env)).any (·.1) = false := by rfl) :
    PID X F0 H0 true tg (.Call (.Name "range" p) [a, b, c] [] pos) (dRng3 t u z) := by
  refine ⟨pi_imp (pi_range3 hg hm (pa_cons h.pe (pa_cons h2.pe (pa_cons h3.pe pa_nil hs3) hs2) hs) hs hpl) ?_⟩
  rintro σ H R ⟨F, ρ, QQ, E, q, k⟩
  refine ⟨F, ρ, _, E, q, fun d v F1 H1 q1 s1 r1 => ?_⟩
  refine ⟨F1, ρ, _, E.step s1, q1, fun d2 v2 F2 H2 q2 s2 r2 => ?_⟩
  refine ⟨F2, ρ, _, (E.step s1).step s2, q2, fun d3 v3 F' H' ⟨i, j, c, n, e1, e2, e3, hr, q'⟩ s3 r3 => ?_⟩
  subst e1 e2 e3
  cases r1; cases r2; cases r3
  exact ⟨i, j, c, n, rfl, hr, k _ _ F' H' q' ((s1.trans s2).trans s3) walk_rngC⟩
end
end DL

namespace DL
open PySem PySem.Spec PyProof.Rows L2
variable [Tb]
theorem _root_.L2H.RoomH.units {k : Nat} {A : Around} (r : L2H.RoomH k A) : A.units + 64 < cLine := by
  have := r.un
  omega
/-! ### exceptions of one's own classes -/
/-- the class that the name x stands for, at C -/
structure ExcT (K : PySem.W.Frag) (mg : Str → Option Value) (x : Str) (C : Addr) : Prop where
  g : mg x = some (.ref C)
  ex : PySem.W.excIn K C [.type "ValueError", .type "Exception", .type "BaseException", .type "object"] "ValueError.__new__" = true
  kp : PySem.W.keepIn K (.ref C) = true
  sb : PySem.W.subIn K (.ref C) (.type "BaseException") = some true
  ty : PySem.W.typeIn K (.ref C) = some (.type "type")
/-- a def's promise that may let an exception of the class at C out -/
def spX (K : PySem.W.Frag) (n : Nat) (C : Addr) (t : List D → (D → Prop) → Prop → Prop) : Sp := fun vs H Q E => ∃ F ds QQ EX, (Same F H ∧ (∀ b ps, F b ≠ some (.tbl ps)) ∧ LamX.Tabs Tb.T H) ∧ AtAll K F vs ds ∧ ds.length = n ∧ t ds QQ EX ∧
  (∀ d v F' H', QQ d → Stp F H F' H' → At K F' v d → Q v H') ∧ ∀ F' H', EX → Stp F H F' H' → E (.ref C) none H'
theorem spX_len {K : PySem.W.Frag} {n : Nat} {C : Addr} {t : List D → (D → Prop) → Prop → Prop} {vs : List V} {H : Hp} {Q : VK} {E : XK} (h : spX K n C t vs H Q E) : vs.length = n := by
  obtain ⟨F, ds, QQ, EX, _, r, hl, _⟩ := h
  rw [r.length, hl]
def HasX (P : Program) (w : World) (K : PySem.W.Frag) (mg : Str → Option Value) (base : Heap) (k : Nat) (x : Str) (n : Nat) (C : Addr) (t : List D → (D → Prop) → Prop → Prop) : Prop :=
  ∃ f fd ps, FnOk P w K mg base (L2N.CX P w) k f fd ps (spX K n C t) ∧ mg x = some (.ref f) ∧ PySem.W.keepIn K (.ref f) = true ∧ Binds K fd ps []
/-- if TEST: raise X("..") / the rest -/
def tGuard (K : PySem.W.Frag) (F0 H0 : Hp) (C : Addr) (E : XK) (tc : DT) (u : DS) : TS := fun G σ H => ∃ F ρ DD EX, EnvAt K F0 H0 F H σ ρ ∧ (tc ρ fun b => if b = true then EX else u DD ρ) ∧ Lnk K F0 H0 F G DD ∧ ∀ F' H', EX → Stp F0 H0 F' H' → E (.ref C) none H'
theorem pss_guard {X : Cx} {F0 H0 : Hp} {C : Addr} {E : XK} {x m : Str} {j : Nat} {p p2 p3 p4 p5 : Pos} {c : Expr} {rest : List Stmt} {tc : DT} {u : DS} (T : ExcT X.K X.mg x C) (hc : X.calm = true) (tk : L2N.Takes X (fun cls d _ H => E cls d H)) (ht : PTD X F0 H0 c tc) (hr : PSsD X F0 H0 rest u)
    (hg : Gl X x) (hdb : (x == ("__debug__" : Str)) = false := by decide) : PSs X (.If c [.Raise (some (.Call (.Name x p) [.Constant (.str m) j p2] [] p3)) none p4] [] p5 :: rest) (tGuard X.K F0 H0 C E tc u) := by
  refine pss_imp (pss_cons (ps_if ht.pt (pss_one (L2N.ps_raise hc tk (L2N.pmk_own PySem.F.excBase_ValueError T.ex T.g T.kp (raises_own T.sb T.ty) hg hdb))) pss_nil) hr.ps) ?_
  rintro G σ H ⟨F, ρ, DD, EX, V, q, L, k⟩
  refine ⟨F, ρ, _, V, q, fun b F1 H1 q1 s1 => ?_⟩
  cases b with
  | true => exact k F1 H1 q1 (V.st.trans s1)
  | false => exact ⟨F1, ρ, DD, V.step s1, q1, L.mono s1.ff⟩
section
variable {P : Program} {w : World} {K : PySem.W.Frag} {mg : Str → Option Value} {base : Heap}
/-- a def whose body is a guard that raises, and the rest -/
theorem Df.hasX {x y m : Str} {st : Stmt} {N ps : List Str} {k n j : Nat} {C : Addr} {p p2 p3 p4 p5 : Pos} {c : Expr} {rest : List Stmt} {tc : DT} {u : DS} {t : List D → (D → Prop) → Prop → Prop} (F : Df K mg x st ps) (S : FnScope N ps (defScope st)) (hn : ps.length = n) (T : ExcT K mg y C)
    (hs : defBody st = .If c [.Raise (some (.Call (.Name y p) [.Constant (.str m) j p2] [] p3)) none p4] [] p5 :: rest)
    (hb : ∀ (cdv : Value) (f : Addr) (A : Around) (outer : List Env) (s : Shared) (H : Hp) (E : XK) (F0 : Hp), Room k (A.deeper (envOfC x (defScope st) s.heap.objs.size f cdv)) →
      PTD (cxOf (L2N.CX P w) P w K mg base N x (defScope st) f cdv A outer s H E) F0 H c tc ∧ PSsD (cxOf (L2N.CX P w) P w K mg base N x (defScope st) f cdv A outer s H E) F0 H rest u ∧ Gl (cxOf (L2N.CX P w) P w K mg base N x (defScope st) f cdv A outer s H E) y)
    (hv : ∀ ds Q EX, ds.length = n → t ds Q EX → tc (startD N ds) fun b => if b = true then EX else u ⟨fun _ => Q .non, Q, fun _ => False, fun _ => False⟩ (startD N ds)) (hdb : (y == ("__debug__" : Str)) = false := by decide) : HasX P w K mg base (k + 1) x n C t := by
  obtain ⟨f, fd, F, hm, hb'⟩ := F
  have kp := F.kp
  obtain ⟨oc, od, kV, doc, pm, an, cdv, ct, osl, rfl, lk, hcd⟩ := F.ex
  refine ⟨f, _, ps, fn_of lk hcd S (fun vs H Q E h => by rw [spX_len h, hn]) (fun A outer s H vs Q E hr h => ?_), hm, kp, hb'⟩
  obtain ⟨F0, ds, QQ, EX, fs, r, hl, ht, kq, ke⟩ := h
  obtain ⟨h1, h2, h3⟩ := hb cdv f A outer s H E F0 hr
  have G := pss_guard (X := cxOf (L2N.CX P w) P w K mg base N x (defScope st) f cdv A outer s H E) (E := E) T rfl (L2N.takes_of rfl rfl rfl rfl) (m := m) (j := j) (p := p) (p2 := p2) (p3 := p3) (p4 := p4) (p5 := p5) h1 h2 h3 hdb
  rw [← hs] at G
  refine ⟨_, G, F0, _, _, EX, EnvAt.start fs r, hv ds QQ EX hl ht, ⟨fun ρ σ F' H' q _ E' => ?_, fun ρ σ F' H' q _ E' => q.elim, fun ρ σ F' H' q _ E' => q.elim, fun d v F' H' q _ s' r' => kq d v F' H' q s' r'⟩, ke⟩
  exact kq .non .non F' H' q E'.st .non
end

/-! ### expressions that may raise -/
def PXD (X : Cx) (F0 H0 : Hp) (C : Addr) (e : Expr) (t : Rho → (D → Prop) → Prop → Prop) : Prop := ∀ W : WX, L2N.Takes X W →
  PE X e fun σ H Q => ∃ F ρ QQ EX, EnvAt X.K F0 H0 F H σ ρ ∧ t ρ QQ EX ∧ (∀ d v F' H', QQ d → Stp F H F' H' → At X.K F' v d → Q v H') ∧ ∀ F' H', EX → Stp F H F' H' → W (.ref C) none σ H'
section
variable {X : Cx} {F0 H0 : Hp} {C : Addr} {a b c e : Expr} {pos : Pos}
def xCall (t : List D → (D → Prop) → Prop → Prop) (n : Nat) (ta : DA) : Rho → (D → Prop) → Prop → Prop := fun ρ Q EX => ta ρ fun ds => ds.length = n ∧ t ds Q EX
theorem pxd_call {k n : Nat} {x : Str} {p : Pos} {es : List Expr} {t : List D → (D → Prop) → Prop → Prop} {ta : DA} (G : HasX X.prog X.w X.K X.mg X.base k x n C t) (hr : Room k X.A) (ha : PAD X F0 H0 (a :: es) ta) (hg : Gl X x := by rfl) (hn : (a :: es).length = n := by rfl) (hdb : (x == ("__debug__" : Str)) = false := by decide)
    (he : starEach (a :: es) X.env = (false, eval a X.env) :: starEach es X.env := by rfl) (hpl : (backTo pos (starEach es X.env)).any (·.1) = false := by rfl) : PXD X F0 H0 C (.Call (.Name x p) (a :: es) [] pos) (xCall t n ta) := by
  obtain ⟨f, fd, ps, G, hm, hk, hb⟩ := G
  intro W tk
  refine pe_imp (pe_callS G hr hg hm hk hb (fun σ => L2N.passAt tk σ) ha.pa hdb he hpl) ?_
  rintro σ H Q ⟨F, ρ, QQ, EX, E, q, kq, ke⟩
  refine ⟨F, ρ, _, E, q, fun ds vs F1 H1 ⟨hl, q1⟩ s1 r1 => ?_⟩
  have E1 := E.step s1
  exact ⟨F1, ds, QQ, EX, ⟨E1.fs, E1.nt, E1.tb⟩, r1, hl, q1, fun d v F' H' q' s' r' => kq d v F' H' q' (s1.trans s') r', fun F' H' q' s' => ke F' H' q' (s1.trans s')⟩
def xIf (tc : DT) (t u : Rho → (D → Prop) → Prop → Prop) : Rho → (D → Prop) → Prop → Prop := fun ρ Q EX => tc ρ fun b => if b = true then t ρ Q EX else u ρ Q EX
theorem pxd_if {tc : DT} {t u : Rho → (D → Prop) → Prop → Prop} (hc : PTD X F0 H0 c tc) (ha : PXD X F0 H0 C a t) (hb : PXD X F0 H0 C b u) : PXD X F0 H0 C (.IfExp c a b pos) (xIf tc t u) := by
  intro W tk
  refine pe_imp (pe_ifExp hc.pt (ha W tk) (hb W tk)) ?_
  rintro σ H Q ⟨F, ρ, QQ, EX, E, q, kq, ke⟩
  refine ⟨F, ρ, _, E, q, fun b F1 H1 q1 s1 => ?_⟩
  cases b with
  | true => exact ⟨F1, ρ, QQ, EX, E.step s1, q1, fun d v F' H' q' s' r' => kq d v F' H' q' (s1.trans s') r', fun F' H' q' s' => ke F' H' q' (s1.trans s')⟩
  | false => exact ⟨F1, ρ, QQ, EX, E.step s1, q1, fun d v F' H' q' s' r' => kq d v F' H' q' (s1.trans s') r', fun F' H' q' s' => ke F' H' q' (s1.trans s')⟩
end

/-! ### a def that is handed the exception that is handled, and says a word of it -/
section
variable {P : Program} {w : World} {K : PySem.W.Frag} {mg : Str → Option Value} {base : Heap}
/-- called in a suite with the exception, of the class at C, it says the word -/
def HasW (P : Program) (w : World) (K : PySem.W.Frag) (mg : Str → Option Value) (base : Heap) (k : Nat) (x : Str) (C : Addr) (word : Str) : Prop :=
  ∃ f fd y, (∀ (A : Around) (outer : List Env) (s : Shared) (H F : Hp) (Q : VK) (p : Addr × Obj), L2H.RoomH k A → L2H.Hot1 A p → L2H.PinOk outer H s p → Env0 P w K mg base A outer s H → Zc (.ref C) none p.2 → (Same F H ∧ (∀ b ps, F b ≠ some (.tbl ps)) ∧ LamX.Tabs Tb.T H) →
      (∀ F' H', Stp F H F' H' → Q (.str word) H') → codeAny (model P w) A (.call (.ref f) ⟨[.ref p.1], []⟩) (CR CX0 outer P w H s Q E0) s) ∧ mg x = some (.ref f) ∧ PySem.W.keepIn K (.ref f) = true ∧ Binds K fd [y] []
theorem Df.hasW {x y word : Str} {st : Stmt} {N : List Str} {k : Nat} {C : Addr} {T : Addr × Obj → DS} (F : Df K mg x st [y]) (S : FnScope N [y] (defScope st))
    (hb : ∀ (cdv : Value) (f : Addr) (A : Around) (outer : List Env) (s : Shared) (H : Hp) (p : Addr × Obj) (F0 : Hp), L2H.RoomH k (A.deeper (envOfC x (defScope st) s.heap.objs.size f cdv)) → Zc (.ref C) none p.2 → (∃ vs, p.2.data = .fields vs) →
      PSsD (L2H.cxH CX0 P w K mg base N x (defScope st) f cdv A outer s H E0 p) F0 H (defBody st) (T p))
    (hv : ∀ (p : Addr × Obj) (Q : D → Prop), Q (.str word) → T p ⟨fun _ => Q .non, Q, fun _ => False, fun _ => False⟩ (startD N [.exc p.1])) : HasW P w K mg base (k + 1) x C word := by
  obtain ⟨f, fd, F, hm, hb'⟩ := F
  have kp := F.kp
  obtain ⟨oc, od, kV, doc, pm, an, cdv, ct, osl, rfl, lk, hcd⟩ := F.ex
  refine ⟨f, _, y, fun A outer s H F1 Q p hr hot hpin e0 hz fs kq => ?_, hm, kp, hb'⟩
  have KX : K.In s.heap := e0.mod.kin.keeps fun b o e => (e0.bs b o e).1
  have lim : s.heap.NoLimit := e0.mod.nolimit.keeps fun b o e => (e0.bs b o e).1
  have bn := hb' s [.ref p.1] KX rfl
  rw [List.append_nil] at bn
  have hkind : ∀ z ∈ [y].zip [Value.ref p.1], (defScope st).names.lookup z.1 = some .local ∨ ((defScope st).names.lookup z.1 = some .cell ∧ ((cellsFrom (s.heap.objs.size + 1) (defScope st).names []).lookup z.1).isSome = true) := fun ⟨n, v⟩ hy =>
    (S.par n (List.of_mem_zip hy).1).elim .inl fun q => .inr ⟨q, PySem.W.cellsFrom_some _ _ _ (.inl q)⟩
  refine codeAny_call_function hr.depth (KX _ _ lk) rfl S.co S.gen rfl (PySem.W.codeRec_of KX hcd) (bn _ _ _ _ (wpAny_newFunctionEnv_cells S.kind hkind fun env he s1 x1 => ?_))
  subst he
  refine ⟨lim.keeps x1.toInCall.keep, codeAny_func ?_⟩
  have hfl : ∃ vs, p.2.data = .fields vs := by
    obtain ⟨_, vs, e, _⟩ := hot
    exact ⟨vs, e⟩
  have I := L2H.inv_startH (CX := CX0) (E := E0) (vs := [.ref p.1]) S hpin e0 rfl (.cons rfl .nil) x1
  have G := (hb cdv f A outer s H p F1 (hr.deeper _) hz hfl).ps
  refine wpAny_mono (G.run [] s1 _ H { nx := fun _ H' => Q .non H', rt := Q } I ⟨F1, _, _, EnvAt.start fs (.cons (.exc p.1) .nil), hv p (fun d => d = .str word) rfl, ⟨fun ρ σ F' H' q _ E' => ?_, fun ρ σ F' H' q _ E' => q.elim, fun ρ σ F' H' q _ E' => q.elim, fun d v F' H' q _ s' r' => ?_⟩⟩) (fun fl s' hs => ?_) fun e s' hs => hs
  · cases q
  · subst q
    cases r'
    exact kq F' H' s'
  · have fin : ∀ {σ' : L2.St} {H' : Hp} {v : V} {u : Value}, Inv (L2H.cxH CX0 P w K mg base N x (defScope st) f cdv A outer s H E0 p) [] σ' H' s' → RelV v u → Q v H' → CE outer P w H s Q u s' :=
      fun J rv q => ⟨_, _, J.os, J.bare, J.base, J.hok, rv, q⟩
    cases fl with
    | ret u =>
      obtain ⟨v, σ', H', J, rv, q⟩ := hs
      exact fin J rv q
    | next =>
      obtain ⟨σ', H', J, q⟩ := hs
      exact fin (v := V.non) (u := Value.none) J rfl q
    | brk => exact hs.elim fun _ h => h.elim fun _ h => h.2.elim
    | cont => exact hs.elim fun _ h => h.elim fun _ h => h.2.elim
end
section
variable {X : Cx} {F0 H0 : Hp} {C : Addr} {a b c e o : Expr} {pos : Pos}
/-- isinstance(e, c), e the pinned exception -/
theorem call_isP {p : Addr × Obj} (hp : p ∈ X.pn) (EC : ExcC X.K C) (hz : Zc (.ref C) none p.2) (hf : ∃ vs, p.2.data = .fields vs) : CallR X (.builtin "isinstance") (rIsE X.K C p.1) := by
  rintro pins s σ H xs us Q I r ⟨c, cv, b, rfl, hcv, e, q⟩
  cases r with
  | cons rx rr =>
    cases rr with
    | cons rt rr =>
      cases rr
      cases rx
      obtain rfl := hcv _ rt
      have hget := (I.pin p (List.mem_append_left _ hp)).1
      obtain ⟨vs, hv⟩ := hf
      obtain ⟨pa, oc, od, oda, osl⟩ := p
      obtain ⟨h1, h2⟩ := hz
      dsimp only at h1 h2 hv hget
      subst h1 h2 hv
      have J : PySem.W.InstAt s.heap pa ⟨.ref C, none, .fields vs, osl⟩ C none := ⟨hget, rfl, rfl, trivial⟩
      exact PySem.W.kia_one (PySem.W.handS_kitx_exc EC.hg EC.hk EC.hs EC.hd EC.ha EC.hn EC.ht EC.hm) I.kIn J e (fun z => nomatch z) fun tk => ⟨.bl b, H, I.kept (t' := tk) fun _ _ z => z, rfl, q⟩
def dIsE (a : Addr) (b : Bool) (t : DE) : DE := fun ρ Q => t ρ fun d => d = .exc a ∧ Q (.bl b)
theorem pd_isE {p : Addr × Obj} {t : DE} {k : Bool} {cV : V} {cv : Value} {q : Pos} (hp : p ∈ X.pn) (EC : ExcC X.K C) (hz : Zc (.ref C) none p.2) (hf : ∃ vs, p.2.data = .fields vs) (hg : Gl X "isinstance") (hm : X.mg "isinstance" = none) (ho : PD X F0 H0 o t) (hc : PE X c (tC cV)) (hcv : ∀ u, RelV cV u → u = cv) (hk : PySem.W.kitOne X.K (.ref C) cv = some k)
    (he : starEach [o, c] X.env = (false, eval o X.env) :: starEach [c] X.env := by rfl) (he2 : starEach [c] X.env = (false, eval c X.env) :: starEach [] X.env := by rfl) (hpl : (backTo pos (starEach [c] X.env)).any (·.1) = false := by rfl) :
    PD X F0 H0 (.Call (.Name "isinstance" q) [o, c] [] pos) (dIsE p.1 k t) := by
  refine ⟨pe_imp (pe_callB (call_isP hp EC hz hf) hg hm (by decide +kernel) (pa_cons ho.pe (pa_cons hc pa_nil he2) he) (by decide) (by decide) he hpl) ?_⟩
  rintro σ H Q ⟨F, ρ, QQ, E, q, kk⟩
  refine ⟨F, ρ, _, E, q, fun d v F1 H1 ⟨e1, q1⟩ s1 r1 => ?_⟩
  subst e1
  cases r1
  exact ⟨_, cv, k, rfl, hcv, hk, kk _ _ F1 H1 q1 s1 (.bl k)⟩
/-- the class's word on another one -/
def IsCl (K : PySem.W.Frag) (mg : Str → Option Value) (C : Addr) (x : Str) (b : Bool) : Prop := ∃ A, mg x = some (.ref A) ∧ PySem.W.kitOne K (.ref C) (.ref A) = some b
theorem pd_isC {p : Addr × Obj} {t : DE} {k : Bool} {x : Str} {A : Addr} {q q2 : Pos} (hp : p ∈ X.pn) (EC : ExcC X.K C) (hz : Zc (.ref C) none p.2) (hf : ∃ vs, p.2.data = .fields vs) (hg : Gl X "isinstance") (hm : X.mg "isinstance" = none) (ho : PD X F0 H0 o t) (hgx : Gl X x) (hmx : X.mg x = some (.ref A)) (hk : PySem.W.kitOne X.K (.ref C) (.ref A) = some k) (hdb : (x == ("__debug__" : Str)) = false := by decide)
    (he : starEach [o, .Name x q2] X.env = (false, eval o X.env) :: starEach [.Name x q2] X.env := by rfl) (he2 : starEach [.Name x q2] X.env = (false, eval (.Name x q2) X.env) :: starEach [] X.env := by rfl) (hpl : (backTo pos (starEach [.Name x q2] X.env)).any (·.1) = false := by rfl) :
    PD X F0 H0 (.Call (.Name "isinstance" q) [o, .Name x q2] [] pos) (dIsE p.1 k t) :=
  pd_isE hp EC hz hf hg hm ho (pe_glob (v := .ref A) hgx hmx rfl hdb) (fun u r => r) hk he he2 hpl
theorem pd_isT {p : Addr × Obj} {t : DE} {k : Bool} {x : Str} {T : String} {q q2 : Pos} (hp : p ∈ X.pn) (EC : ExcC X.K C) (hz : Zc (.ref C) none p.2) (hf : ∃ vs, p.2.data = .fields vs) (hg : Gl X "isinstance") (hm : X.mg "isinstance" = none) (ho : PD X F0 H0 o t) (hgx : Gl X x) (hmx : X.mg x = none) (hv : bootBuiltins x = some (.type T)) (hk : PySem.W.kitOne X.K (.ref C) (.type T) = some k) (hn : x ≠ "__name__" := by decide) (hdb : (x == ("__debug__" : Str)) = false := by decide)
    (he : starEach [o, .Name x q2] X.env = (false, eval o X.env) :: starEach [.Name x q2] X.env := by rfl) (he2 : starEach [.Name x q2] X.env = (false, eval (.Name x q2) X.env) :: starEach [] X.env := by rfl) (hpl : (backTo pos (starEach [.Name x q2] X.env)).any (·.1) = false := by rfl) :
    PD X F0 H0 (.Call (.Name "isinstance" q) [o, .Name x q2] [] pos) (dIsE p.1 k t) :=
  pd_isE hp EC hz hf hg hm ho (pe_bltn (v := .ty T) hgx hmx hv rfl hn hdb) (fun u r => r) hk he he2 hpl
/-! ### xs.count(b), xs.index(b) of a list of truth values -/
def eqB (b : Bool) : Value → Bool
  | .bool c => c == b
  | _ => false
theorem eqB_count {b : Bool} : ∀ {us : List Value} {bs : List Bool}, Vals (bs.map V.bl) us → us.countP (eqB b) = bs.count b
  | _, [], .nil => rfl
  | _, c :: bs, .cons r h => by
    cases r
    rw [List.countP_cons, List.count_cons, eqB_count h]
    rfl
def dCount (tl : DA) (te : DE) : DE := fun ρ Q => tl ρ fun l => te ρ fun x => ∃ (bs : List Bool) (b : Bool), l = bs.map D.bl ∧ x = .bl b ∧ Q (.int (bs.count b : Nat))
def rCntB (K : PySem.W.Frag) : V → List V → Hp → VK → Prop := fun x xs H Q => ∃ (p : Addr) (bs : List Bool) (b : Bool), x = .ref p ∧ xs = [.bl b] ∧ SqL K H p (bs.map V.bl) ∧ Q (.int (bs.count b : Nat)) H
theorem mt_countB : MtR X "list.count" (rCntB X.K) := by
  rintro pins s σ H x xs v us Q I rx rxs ⟨p, bs, b, rfl, rfl, hs, q⟩
  cases rx
  obtain ⟨u, rfl, ru⟩ := rxs.one
  cases ru
  obtain ⟨its, rv, ⟨⟨cls, dd, data, sl⟩, n, ho, hc, hdn, hd⟩, hlen⟩ := I.list hs
  simp only at hc hd
  subst hc hd
  refine call_meets PySem.F.slot_list_count ⟨_, ho, rfl⟩ PySem.F.entry_list_count (PySem.F.args_list_count_2 _ _)
    (SeqAt.list_countAt p its.toArray n dd sl (.bool b) (eqB b)) ⟨ho, fun y hy => ?_, ?_⟩
  · obtain ⟨i, hi⟩ := List.getElem?_of_mem (show y ∈ its by simpa using hy)
    have hl : i < bs.length := by
      have := (List.getElem?_eq_some_iff.mp hi).1
      rw [← rv.length, List.length_map] at this
      exact this
    obtain ⟨u, hu, ru⟩ := rv.get (i := i) (x := V.bl bs[i]) (by rw [List.getElem?_map, List.getElem?_eq_getElem hl]; rfl)
    rw [hi] at hu
    cases hu
    cases ru
    exact eqAt_V (y := .bl bs[i]) (x := .bl b) rfl rfl rfl rfl
  · have ec : its.toArray.toList.countP (eqB b) = bs.count b := eqB_count rv
    refine ⟨.int (bs.count b : Nat), H, I.tok _, ⟨s.toks, ?_⟩, q⟩
    show Value.int ((its.toArray.toList.countP (eqB b) : Nat) : Int) s.toks = Value.int ((bs.count b : Nat) : Int) s.toks
    rw [ec]
theorem pd_count {tl : DA} {te : DE} {apos cpos : Pos} (ho : PL X F0 H0 o tl) (h : PD X F0 H0 e te)
    (hbase : attributeBase o "count" X.env (eval o X.env) = eval o X.env := by rfl)
    (hfew : ((backTo cpos (starEach [e] X.env)).all (fun x => !x.1) && (backToKw cpos (keywordEach [] X.env)).all (fun x => x.1.isSome) && decide ([e].length + ([] : List Keyword).length + (if ([] : List Keyword).isEmpty then 0 else 1) < 30)) = true := by rfl)
    (hline : (apos.endLine == cpos.line) = true := by rfl) (he : starEach [e] X.env = (false, eval e X.env) :: starEach [] X.env := by rfl) : PD X F0 H0 (.Call (.Attribute o "count" apos) [e] [] cpos) (dCount tl te) := by
  refine ⟨pe_imp (pe_bm PySem.F.plainAttrs_list PySem.F.slot_list_count PySem.F.type_list_count mt_countB ho.pe (pa_cons h.pe pa_nil he) hbase hfew hline he rfl) ?_⟩
  rintro σ H Q ⟨F, ρ, QQ, E, q, kk⟩
  refine ⟨F, ρ, _, E, q, fun l v F1 H1 q1 s1 ⟨p, xs, ev, h1, h2⟩ => ?_⟩
  subst ev
  refine ⟨.inl ⟨rfl, _, SqL.of h1⟩, F1, ρ, _, E.step s1, q1, fun x w F2 H2 ⟨bs, b, el, ex, q2⟩ s2 r2 => ?_⟩
  subst el ex
  cases r2
  obtain rfl := h2.bls
  exact ⟨p, bs, b, rfl, rfl, SqL.of (s2.hh.lst h1), kk _ _ F2 H2 q2 (s1.trans s2) (.int _)⟩
def dIndexB (tl : DA) (te : DE) : DE := fun ρ Q => tl ρ fun l => te ρ fun x => ∃ (bs : List Bool) (b : Bool) (j : Nat), l = bs.map D.bl ∧ x = .bl b ∧ bs[j]? = some b ∧ (∀ m, m < j → bs[m]? ≠ some b) ∧ Q (.int (j : Nat))
theorem pd_indexB {tl : DA} {te : DE} {apos cpos : Pos} (ho : PL X F0 H0 o tl) (h : PD X F0 H0 e te)
    (hbase : attributeBase o "index" X.env (eval o X.env) = eval o X.env := by rfl)
    (hfew : ((backTo cpos (starEach [e] X.env)).all (fun x => !x.1) && (backToKw cpos (keywordEach [] X.env)).all (fun x => x.1.isSome) && decide ([e].length + ([] : List Keyword).length + (if ([] : List Keyword).isEmpty then 0 else 1) < 30)) = true := by rfl)
    (hline : (apos.endLine == cpos.line) = true := by rfl) (he : starEach [e] X.env = (false, eval e X.env) :: starEach [] X.env := by rfl) : PD X F0 H0 (.Call (.Attribute o "index" apos) [e] [] cpos) (dIndexB tl te) := by
  refine ⟨pe_imp (pe_bm PySem.F.plainAttrs_list PySem.F.slot_list_index PySem.F.type_list_index mt_index ho.pe (pa_cons h.pe pa_nil he) hbase hfew hline he rfl) ?_⟩
  rintro σ H Q ⟨F, ρ, QQ, E, q, kk⟩
  refine ⟨F, ρ, _, E, q, fun l v F1 H1 q1 s1 ⟨p, xs, ev, h1, h2⟩ => ?_⟩
  subst ev
  refine ⟨.inl ⟨rfl, _, SqL.of h1⟩, F1, ρ, _, E.step s1, q1, fun x w F2 H2 ⟨bs, b, j, el, ex, hj, hno, q2⟩ s2 r2 => ?_⟩
  subst el ex
  cases r2
  obtain rfl := h2.bls
  refine ⟨p, _, .bl b, j, .bl b, rfl, rfl, SqL.of (s2.hh.lst h1), rfl, ?_, by rw [List.getElem?_map, hj]; rfl, by simp [eqV], fun m z hm hz => ?_, kk _ _ F2 H2 q2 (s1.trans s2) (.int _)⟩
  · rw [List.all_eq_true]
    intro z hz
    obtain ⟨c, _, rfl⟩ := List.mem_map.mp hz
    rfl
  · rw [List.getElem?_map] at hz
    cases hb : bs[m]? with
    | none => rw [hb] at hz; cases hz
    | some c =>
      rw [hb] at hz
      cases hz
      have n := hno m hm
      rw [hb] at n
      show (c == b) = false
      rw [beq_eq_false_iff_ne]
      exact fun z => n (by rw [z])
/-! ### try: return EXPR / except X as n: return WORD(n) -/
def dTry (i : Nat) (t : Rho → (D → Prop) → Prop → Prop) (word : Str) : DS := fun DD ρ => i < ρ.length ∧ t ρ DD.rt (DD.rt (.str word))
theorem psd_try {k i : Nat} {x y n word : Str} {CE : Addr} {t : Rho → (D → Prop) → Prop → Prop} {q1 q2 q3 q4 q5 q6 q7 q8 : Pos} (hs : X.stack = X.env :: X.outer) (hf : X.env.frame = some X.env.locals) (hN : X.N.Nodup) (hi : X.N[i]? = some n) (hln : X.env.kindOf n = some .local)
    (hg : Gl X x) (hm : X.mg x = some (.ref CE)) (hex : PySem.W.exmOne X.K (.ref C) (.ref CE) = some true) (hb : ∀ (pn : List (Addr × Obj)) (xe : Value → Shared → Prop), PXD (X.tr pn xe) F0 H0 C e t) (W : HasW X.prog X.w X.K X.mg X.base k y C word) (hr : Room k X.A) (hgy : Gl X y)
    (hdx : (x == ("__debug__" : Str)) = false := by decide) (hdy : (y == ("__debug__" : Str)) = false := by decide) (hdn : (n == ("__debug__" : Str)) = false := by decide) (hdc : (n == ("__classdict__" : Str)) = false := by decide)
    (hes : ∀ (en : Env), starEach [.Name n q5] en = [(false, eval (.Name n q5) en)] := by intro _; rfl) :
    PSD X F0 H0 (.Try [.Return (some e) q1] [.ExceptHandler (some (.Name x q2)) (some n) [.Return (some (.Call (.Name y q4) [.Name n q5] [] q6)) q7] q3] [] [] q8) (dTry i t word) := by
  obtain ⟨f, fd, z, run, hmf, hkf, hbf⟩ := W
  refine ⟨ps_imp (L2N.ps_try_as (i := i) (c := .ref CE) (Wout := fun _ _ _ _ => False) (tb := fun W => tRet fun σ H Q => ∃ F ρ QQ EX, EnvAt X.K F0 H0 F H σ ρ ∧ t ρ QQ EX ∧ (∀ d v F' H', QQ d → Stp F H F' H' → At X.K F' v d → Q v H') ∧ ∀ F' H', EX → Stp F H F' H' → W (.ref C) none σ H')
      (ts := fun a cls d D σ H => cls = .ref C ∧ d = none ∧ σ[i]? = some (some (.ref a)) ∧ ∃ F, (Same F H ∧ (∀ b ps, F b ≠ some (.tbl ps)) ∧ LamX.Tabs Tb.T H) ∧ ∀ F' H', Stp F H F' H' → D.rt (.str word) H')
      hs hf hN hi hln ⟨hg, hdx, .inl hm⟩ (fun u s' xx => ?_) (fun W pn xe tk _ => pss_one (ps_ret (hb pn xe W tk))) (fun a oe cls d pn hz hd => pss_one ?_)) ?_⟩
  · obtain ⟨_, _, _, _, _, _, _, _, _, _, _, _, _, _, _, _, z⟩ := xx
    exact z.elim
  · -- the suite: the word of what was caught
    refine ps_imp (ps_ret (te := fun σ H Q => cls = .ref C ∧ d = none ∧ σ[i]? = some (some (.ref a)) ∧ ∃ F, (Same F H ∧ (∀ b ps, F b ≠ some (.tbl ps)) ∧ LamX.Tabs Tb.T H) ∧ ∀ F' H', Stp F H F' H' → Q (.str word) H') ⟨fun pins s σ H Q I h => ?_⟩) fun D σ H h => h
    obtain ⟨rfl, rfl, hsl, F, fs, kq⟩ := h
    refine wpAny_Call_Name_kw (ld_glob I hgy hmf ?_ hdy)
    have hpn := I.pin (a, oe) (List.mem_append_left _ List.mem_cons_self)
    have ha : PA (X.suite a ((a, oe) :: pn)) [.Name n q5] (tCons (tVar i) tNil) := pa_cons (pe_var (i := i) hi (.inl hln) hdn hdc) pa_nil (hes _)
    refine PySem.W.callWith_K (h₀ := X.base) I.ok.mod.kin hkf (thn (ha.run q6 pins s σ H (fun vs H1 => vs = [V.ref a] ∧ H1 = H) I ⟨.ref a, hsl, rfl, rfl⟩) fun us s1 hh => ?_) (hes _) rfl
    obtain ⟨vs, H1, I1, r1, ev, eH⟩ := hh
    subst ev eH
    refine ⟨I1.kIn, ?_⟩
    obtain rfl := Vals.ref1 r1
    have P1 := I1.pin (a, oe) (List.mem_append_left _ List.mem_cons_self)
    have hfld := hd
    obtain ⟨vs0, hvs0⟩ := hd
    have hpin : L2H.PinOk (X.suite a ((a, oe) :: pn)).stack H1 s1 (a, oe) := ⟨P1.1, P1.2.1, fun hm => (List.mem_cons.mp (I1.stkSub a hm)).elim P1.2.2.1 P1.2.2.2.1, P1.2.2.2.2⟩
    refine wpAny_call (codeAny_mono (run _ _ s1 H1 F Q (a, oe) ⟨hr.dp, hr.un⟩ ⟨rfl, vs0, hvs0, hz.2.2 vs0 hvs0⟩ hpin I1.env0 hz.zc fs kq) fun r s' hq => ?_)
    cases r with
    | error e => exact (show False from hq).elim
    | ok fl =>
      cases fl with
      | ret u => exact I1.after hq
      | next => exact False.elim hq
      | brk => exact False.elim hq
      | cont => exact False.elim hq
  · rintro G σ H ⟨F, ρ, DD, E, ⟨hlen, q⟩, L⟩
    refine ⟨F, ρ, _, _, E, q, fun d v F' H' q' s' r' => L.rt d v F' H' q' s'.ff (E.st.trans s') r', fun F' H' q' s' => ⟨true, hex, fun _ a ha => ?_, fun z => nomatch z⟩⟩
    have E1 := E.step s'
    refine ⟨rfl, rfl, ?_, F', ⟨E1.fs, E1.nt, E1.tb⟩, fun F2 H2 s2 => L.rt _ _ F2 H2 q' (s'.ff.trans s2.ff) (E.st.trans (s'.trans s2)) (.str word)⟩
    exact List.getElem?_set_self (by rw [E.len]; exact hlen)
end
end DL

namespace DL
open PySem PySem.Spec PyProof.Rows L2
variable [Tb]
/-! ### t[::-1] of a tuple -/
theorem places_back (n : Nat) : Builtin.Slice.slicePlaces ((n : Int) - 1) (-1) (-1) = n := by
  unfold Builtin.Slice.slicePlaces
  rw [if_neg (by decide), Int.neg_neg, Int.ediv_one]
  split <;> omega
theorem pick_back (xs : Array Value) : ((List.range xs.size).filterMap fun (k : Nat) => xs[((xs.size : Int) - 1 + (k : Int) * (-1)).toNat]?).toArray = xs.toList.reverse.toArray := by
  congr 1
  apply List.ext_getElem?
  intro i
  have key : ∀ n, n ≤ xs.size → (List.range n).filterMap (fun (k : Nat) => xs[((xs.size : Int) - 1 + (k : Int) * (-1)).toNat]?) = (xs.toList.reverse).take n := by
    intro n hn
    induction n with
    | zero => rfl
    | succ n ih =>
      rw [List.range_succ, List.filterMap_append, ih (by omega), List.take_add_one]
      congr 1
      have e : ((xs.size : Int) - 1 + (n : Int) * (-1)).toNat = xs.size - 1 - n := by omega
      have h1 : xs[xs.size - 1 - n]? = xs.toList.reverse[n]? := by
        rw [List.getElem?_reverse (by rw [Array.length_toList]; omega), Array.length_toList, Array.getElem?_toList]
      rw [List.filterMap_cons, e, h1]
      cases xs.toList.reverse[n]? <;> rfl
  rw [key _ (Nat.le_refl _), List.take_of_length_le (by simp)]
section
variable {prog : Program} {w : World} {A : Around} {E : Value → Shared → Prop} {s : Shared}
theorem tuple_back {t sl : Addr} {items : Array Value} {k : Tok} {Q : Value → Shared → Prop} (ht : IsTup s.heap t items) (hs : s.heap.IsSliceOf sl .none .none (.int (-1) k))
    (h : Q (.ref s.heap.objs.size) { s with heap := s.heap.push { cls := .type "tuple", data := .seq items.toList.reverse.toArray } }) (hsz : items.size ≤ sizeLine) : wpAny (model prog w) A (getItem (.ref t) (.ref sl)) Q E s := by
  have hz : sizeOk (.seq items.toList.reverse.toArray) := by
    show items.toList.reverse.toArray.size ≤ sizeLine
    simpa using hsz
  obtain ⟨os, hos, hcs, hds⟩ := id hs
  have hTs : s.TypeIs (.ref sl) "slice" := ⟨os, hos, hcs⟩
  unfold getItem
  try with_reducible refine wpAny_holding ?_
  first | refine wpAny_bind (wpAny_pure ?_) | skip
  refine wpAny_bind (wpAny_sequenceKey ht.typeIs (by decide) (wpAny_bind (wpAny_callSpecial?_slot (name := Str.ofString "__getitem__") ht.typeIs PyProof.Rows.slot_tuple_getitem
    (wpAny_call_entry PyProof.Rows.slot_tuple_getitem ht.typeIs entry_tuple_getitem ?_ (args_tuple_getitem _ _)))))
  show wpAny _ _ (Builtin.Tuple.tupleItemsOf (.ref t) >>= _) _ _ s
  refine wpAny_bind (tupleItemsOf_ ht (wpAny_bind (wpAny_typeOf hTs ?_)))
  rw [if_pos (by decide)]
  refine wpAny_bind ?_
  unfold Builtin.Slice.sliceApplied Builtin.Slice.sliceFields
  refine wpAny_bind (wpAny_bind (wpAny_field hos hds (x := .none) rfl (wpAny_bind (wpAny_field hos hds (x := .none) rfl (wpAny_bind (wpAny_field hos hds (x := .int (-1) k) rfl (wpAny_pure ?_)))))))
  refine wpAny_bind (slicePart_int ?_)
  show wpAny _ _ (if ((-1 : Int) == 0) = true then _ else _) _ _ s
  rw [if_neg (by decide)]
  refine wpAny_bind (slicePart_none (wpAny_bind (slicePart_none (wpAny_bind (wpAny_pure ?_)))))
  show wpAny _ _ (pure ((items.size : Int) - 1, (-1 : Int), Builtin.Slice.slicePlaces ((items.size : Int) - 1) (-1) (-1))) _ _ s
  rw [places_back]
  refine wpAny_pure ?_
  show wpAny _ _ (if (((items.size : Int) - 1) == 0 && ((-1 : Int) == 1) && (items.size == items.size)) = true then _ else _) _ _ s
  rw [if_neg (by rw [show ((-1 : Int) == 1) = false from rfl, Bool.and_false]; exact Bool.false_ne_true), pick_back]
  first
    | exact wpAny_bind (m := Builtin.Tuple.tupleExact _) (wpAny_newObj_type (wpAny_pure ⟨_, rfl, wpAny_pure h⟩) hz)
    | exact wpAny_bind (m := Builtin.Tuple.tupleExact _) (wpAny_newObj_type (wpAny_bind (wpAny_pure (wpAny_pure ⟨_, rfl, wpAny_pure h⟩))) hz)
    | exact wpAny_bind (wpAny_bind (m := Builtin.Tuple.tupleExact _) (wpAny_newObj_type (wpAny_pure (wpAny_pure ⟨_, rfl, wpAny_pure h⟩)) hz))
    | exact wpAny_bind (wpAny_bind (m := Builtin.Tuple.tupleExact _) (wpAny_newObj_type (wpAny_pure ⟨_, rfl, wpAny_pure h⟩) hz))
end
theorem AtAll.reverse {K : PySem.W.Frag} {F : Hp} : ∀ {vs : List V} {ds : List D}, AtAll K F vs ds → AtAll K F vs.reverse ds.reverse
  | _, _, .nil => .nil
  | _, _, .cons q r => by
    rw [List.reverse_cons, List.reverse_cons]
    exact (AtAll.reverse r).append (.cons q .nil)
def dRevT (t : DE) : DE := fun ρ Q => t ρ fun x => ∃ l, x = .tup l ∧ Q (.tup l.reverse)
section
variable {X : Cx} {F0 H0 : Hp} {a b e o : Expr} {pos : Pos}
theorem pd_revT {t : DE} {k} {p1 p2 p3 : Pos} (h : PD X F0 H0 e t) : PD X F0 H0 (.Subscript e (.Slice none none (some (.UnaryOp .USub (.Constant (.int 1) k p1) p2)) p3) pos) (dRevT t) := by
  refine ⟨⟨fun pins s σ H Q I hh => ?_⟩⟩
  obtain ⟨F, ρ, QQ, E, q, kk⟩ := hh
  refine Subscript_ (thn (h.pe.run pins s σ H (fun v H1 => ∃ F1 l, v = v ∧ Stp F H F1 H1 ∧ At X.K F1 v (.tup l) ∧ QQ (.tup l.reverse)) I ⟨F, ρ, _, E, q, fun d v F1 H1 ⟨l, e1, q1⟩ s1 r1 => ⟨F1, l, rfl, s1, by rw [← e1]; exact r1, q1⟩⟩) fun v s1 ⟨x, H1, I1, r1, F1, l, _, s1', at1, q1⟩ => ?_)
  cases at1 with
  | @tup ad xs _ hx hxs =>
    cases r1
    have hst : PO X (some (.UnaryOp .USub (.Constant (.int 1) k p1) p2)) (tPart (tUn (rU fun i => .int (-i)) (tC (.int 1)))) := po_some (pe_un un_neg pe_int)
    refine wpAny_Slice (thn (po_none.run pins s1 σ H1 (fun o H2 => o = none ∧ H2 = H1) I1 ⟨rfl, rfl⟩) fun vl s2 ⟨l2, H2, I2, pl, el, e2⟩ => ?_)
    subst el e2
    refine thn (po_none.run pins s2 σ H2 (fun o H3 => o = none ∧ H3 = H2) I2 ⟨rfl, rfl⟩) fun vu s3 ⟨u, H3, I3, pu, eu, e3⟩ => ?_
    subst eu e3
    refine thn (hst.run pins s3 σ H3 (fun o H4 => o = some (-1) ∧ H4 = H3) I3 ⟨1, rfl, -1, rfl, rfl, rfl⟩) fun vs s4 ⟨o, H4, I4, ps, eo, e4⟩ => ?_
    subst eo e4
    cases pl
    cases pu
    obtain ⟨tok, rfl⟩ : ∃ t, vs = .int (-1) t := by
      cases ps
      exact ⟨_, rfl⟩
    have I5 : L2.Inv X pins σ H4 { s4 with heap := s4.heap.push { cls := .type "slice", data := .fields #[.none, .none, .int (-1) tok] } } := I4.kept (t' := s4.toks) fun b ob q => Heap.get?_push_of_some _ q
    obtain ⟨its, r, ht, hz⟩ := I5.tuple (Same.sqT s1'.fs hx)
    have hlen := r.length
    refine tail_any (ops := [.ref ad, .ref s4.heap.objs.size]) ht.typeIs (PyProof.Rows.slot_tuple_getitem.lookup) ?_ (by with_unfolding_all rfl)
    refine tuple_back ht (Heap.IsSliceOf.new _ _ _ _) ?_ (by rw [List.size_toArray, ← hlen]; exact hz)
    have hn : H4 ({ s4 with heap := s4.heap.push { cls := .type "slice", data := .fields #[.none, .none, .int (-1) tok] } } : Shared).heap.objs.size = none := I5.hok.fresh (Nat.le_refl _)
    have st := Stp.new s1'.fs hn (.tup xs.reverse)
    refine ⟨.ref _, _, I5.laid (t' := s4.toks) (o := .tup xs.reverse) (fun b ob q => Heap.get?_push_of_some _ q) (Nat.le_refl _) ?_, rfl, kk _ _ _ _ q1 (s1'.trans st) (.tup (SqT.of upd_same) (hxs.reverse.mono st.ff))⟩
    exact ⟨by rw [List.length_reverse]; exact hz, _, r.reverse, IsTup.new _ _⟩
/-! ### s * k, s.upper() -/
def repS (s : Str) (k : Nat) : Str := ⟨(List.replicate k s.cps).foldl (· ++ ·) #[]⟩
def gMulS : D → D → (D → Prop) → Prop := fun x y Q => ∃ (s : Str) (k : Int), x = .str s ∧ y = .int k ∧ 1 < k ∧ k < 1000 ∧ s.length ≤ 10000 ∧ ∀ z : Str, z.length ≤ s.length * k.toNat → Q (.str z)
theorem rep_len (c : Array Nat) : ∀ (k : Nat) (acc : Array Nat), ((List.replicate k c).foldl (· ++ ·) acc).size = acc.size + c.size * k
  | 0, acc => by simp
  | k + 1, acc => by
    rw [List.replicate_succ, List.foldl_cons, rep_len c k, Array.size_append, Nat.mul_succ]
    omega
theorem op_mulS : OpR X (binaryOp .Mult) fun x y H Q => ∃ (s : Str) (k : Int), x = .str s ∧ y = .int k ∧ 1 < k ∧ k < 1000 ∧ s.length ≤ 10000 ∧ ∀ z : Str, z.length ≤ s.length * k.toNat → Q (.str z) H := by
  rintro pins s σ H x y v u Q I rx ry ⟨z, k, rfl, rfl, h1, h2, h3, q⟩
  obtain ⟨t, rfl⟩ := rx
  obtain ⟨t', rfl⟩ := ry
  have hm : z.length * k.toNat ≤ 10000 * 1000 := Nat.mul_le_mul h3 (by omega)
  refine PySem.P.mul_str (by rw [decide_eq_false (by omega), decide_eq_false (by omega)]; rfl) (fun _ _ => ?_) (fun _ _ => ?_) ?_
  · have : (10000 : Int) ≤ (2 ^ 63 - 1) / k := by
      rw [Int.le_ediv_iff_mul_le (by omega)]
      omega
    omega
  · exact PyProof.Rows.short24 (by omega)
  · rw [if_neg (by omega)]
    split
    · exact ⟨.str z, H, I, ⟨_, rfl⟩, q z (Nat.le_mul_of_pos_right _ (by omega))⟩
    · have hs : (repS z k.toNat).length ≤ z.length * k.toNat := by
        show ((List.replicate k.toNat z.cps).foldl (· ++ ·) #[]).size ≤ _
        rw [rep_len]
        simp [Str.length]
      refine ⟨?_, ⟨.str _, H, I.tok _, ⟨_, rfl⟩, q (repS z k.toNat) hs⟩⟩
      exact Nat.le_trans hs (Nat.le_trans hm (by decide))
theorem o_mulS : OpD X (binaryOp .Mult) (RD X.K) (RD X.K) (RD X.K) gMulS := by
  refine ⟨_, op_mulS, ?_⟩
  rintro F H x y d e QQ Q fs rx ry ⟨s, k, rfl, rfl, h1, h2, h3, q⟩ kk
  cases rx
  cases ry
  exact ⟨s, k, rfl, rfl, h1, h2, h3, fun z hz => kk _ _ F H (q z hz) (Stp.refl fs) (.str _)⟩
def dUpper (t : DE) : DE := fun ρ Q => t ρ fun x => ∃ s : Str, x = .str s ∧ s.length ≤ 10000 ∧ ∀ z : Str, z.length ≤ 3 * s.length → Q (.str z)
theorem pd_upper {t : DE} {apos : Pos} (ho : PD X F0 H0 o t) (hbase : attributeBase o "upper" X.env (eval o X.env) = eval o X.env := by rfl) (hline : (apos.endLine == pos.line) = true := by rfl) : PD X F0 H0 (.Call (.Attribute o "upper" apos) [] [] pos) (dUpper t) := by
  refine ⟨pe_imp (pe_upper ho.pe hbase hline) ?_⟩
  rintro σ H Q ⟨F, ρ, QQ, E, q, k⟩
  refine ⟨F, ρ, _, E, q, fun d v F1 H1 ⟨s, e1, hz, q1⟩ s1 r1 => ?_⟩
  subst e1
  cases r1
  exact ⟨⟨_, rfl⟩, s, rfl, rfl, by omega, k _ _ F1 H1 (q1 _ (PyProof.Rows.len_upper s)) s1 (.str _)⟩
end
end DL

namespace DL
open PySem PySem.Spec PyProof.Rows L2
variable [Tb]
/-! ### texts -/
section
variable {X : Cx} {F0 H0 : Hp} {a b e o iter tg : Expr} {pos : Pos}
def gStrI : D → (D → Prop) → Prop := fun x Q => ∃ i : Int, x = .int i ∧ i.natAbs.log2 < 1920 ∧ Q (.str (toString i))
theorem c_str : ClD X (.type "str") (RD X.K) (RD X.K) gStrI := by
  refine ⟨_, call_str_int, ?_⟩
  rintro F H x d QQ Q fs rx ⟨i, rfl, hz, q⟩ k
  cases rx
  exact ⟨i, rfl, hz, k _ _ F H q (Stp.refl fs) (.str _)⟩
def gIntS : D → (D → Prop) → Prop := fun x Q => ∃ (s : Str) (n : Int), x = .str s ∧ PySem.intText? s = some n ∧ s.length ≤ 640 ∧ Q (.int n)
theorem c_intS : ClD X (.type "int") (RD X.K) (RD X.K) gIntS := by
  refine ⟨_, call_int_str, ?_⟩
  rintro F H x d QQ Q fs rx ⟨s, n, rfl, h1, h2, q⟩ k
  cases rx
  exact ⟨s, n, rfl, h1, h2, k _ _ F H q (Stp.refl fs) (.int _)⟩
def gIntB : D → (D → Prop) → Prop := fun x Q => ∃ c : Bool, x = .bl c ∧ Q (.int (if c then 1 else 0))
theorem c_intB : ClD X (.type "int") (RD X.K) (RD X.K) gIntB := by
  refine ⟨_, call_int1, ?_⟩
  rintro F H x d QQ Q fs rx ⟨c, rfl, q⟩ k
  cases rx
  exact .inr ⟨c, rfl, k _ _ F H q (Stp.refl fs) (.int _)⟩
/-- a text by a truth -/
def gMulB : D → D → (D → Prop) → Prop := fun x y Q => ∃ (s : Str) (k : Int), x = .str s ∧ y = .int k ∧ (k = 0 ∨ k = 1) ∧ s.length ≤ 10000 ∧ Q (.str (if k = 1 then s else Str.empty))
theorem op_mulB : OpR X (binaryOp .Mult) fun x y H Q => ∃ (s : Str) (k : Int), x = .str s ∧ y = .int k ∧ (k = 0 ∨ k = 1) ∧ s.length ≤ 10000 ∧ Q (.str (if k = 1 then s else Str.empty)) H := by
  rintro pins s σ H x y v u Q I rx ry ⟨z, k, rfl, rfl, h1, h3, q⟩
  obtain ⟨t, rfl⟩ := rx
  obtain ⟨t', rfl⟩ := ry
  rcases h1 with rfl | rfl
  · exact PySem.P.mul_str_none (by decide) (by decide) ⟨.str _, H, I.tok _, ⟨_, rfl⟩, q⟩
  · refine PySem.P.mul_str rfl (fun _ z => nomatch z) (fun _ z => nomatch z) ?_
    exact ⟨.str z, H, I, ⟨_, rfl⟩, q⟩
theorem o_mulB : OpD X (binaryOp .Mult) (RD X.K) (RD X.K) (RD X.K) gMulB := by
  refine ⟨_, op_mulB, ?_⟩
  rintro F H x y d e QQ Q fs rx ry ⟨s, k, rfl, rfl, h1, h3, q⟩ kk
  cases rx
  cases ry
  exact ⟨s, k, rfl, rfl, h1, h3, kk _ _ F H q (Stp.refl fs) (.str _)⟩
/-- the signs of a text -/
def sgnL (z : Str) : List D := z.cps.toList.map fun c => D.str ⟨#[c]⟩
def dSeqS (t : DE) : DA := fun ρ Q => t ρ fun d => ∃ z, d = .str z ∧ Q (sgnL z)
theorem sgn_len (z : Str) : (sgnL z).length = z.cps.size := by
  unfold sgnL
  rw [List.length_map, Array.length_toList]
theorem sgn_get {z : Str} {i : Nat} {d : D} (h : (sgnL z)[i]? = some d) : ∃ c, z.cps[i]? = some c ∧ d = .str ⟨#[c]⟩ := by
  unfold sgnL at h
  rw [List.getElem?_map, Array.getElem?_toList] at h
  cases e : z.cps[i]? with
  | none => rw [e] at h; cases h
  | some c => rw [e] at h; cases h; exact ⟨c, rfl, rfl⟩
theorem walk_sgn {K : PySem.W.Frag} {F1 : Hp} {z : Str} : Walk K (okS F1) (Its z) (sgnL z) where
  go := fun i F H _ hi => by rw [sgn_len] at hi; exact hi
  stop := fun F H _ => by rw [sgn_len]; exact Nat.le_refl _
  yld := fun i d F H x H' ⟨a, b⟩ hd ⟨e1, c, h1, e2⟩ => by
    subst e1
    subst e2
    obtain ⟨c', h2, rfl⟩ := sgn_get hd
    rw [h1] at h2
    cases h2
    exact ⟨F, Stp.refl b, .str _⟩
theorem pid_str {t : DE} (h : PD X F0 H0 iter t) : PID X F0 H0 true tg iter (dSeqS t) := by
  refine ⟨pi_imp (pi_str h.pe) ?_⟩
  rintro σ H R ⟨F, ρ, QQ, E, q, k⟩
  refine ⟨F, ρ, _, E, q, fun d v F' H' ⟨z, e1, q'⟩ s r => ?_⟩
  subst e1
  cases r
  exact ⟨z, rfl, k _ _ F' H' q' s walk_sgn⟩
/-! ### split, partition, join -/
def dSplit (t u : DE) : DA := fun ρ Q => t ρ fun x => ∃ s : Str, x = .str s ∧ u ρ fun y => ∃ p : Str, y = .str p ∧ (p.length == 0) = false ∧ s.length + 2 ≤ sizeLine ∧ Q ((Txt.split s p).map D.str)
theorem AtAll.strsI {K : PySem.W.Frag} {F : Hp} : ∀ l : List Str, AtAll K F (l.map V.str) (l.map D.str)
  | [] => .nil
  | s :: l => .cons (.str s) (AtAll.strsI l)
theorem pn_split {to te : DE} {apos : Pos} (ho : PD X F0 H0 o to) (he : PD X F0 H0 e te) (hs : starEach [e] X.env = [(false, eval e X.env)] := by rfl) (hbase : attributeBase o "split" X.env (eval o X.env) = eval o X.env := by rfl) (hline : (apos.endLine == pos.line) = true := by rfl) :
    PN X F0 H0 (.Call (.Attribute o "split" apos) [e] [] pos) (dSplit to te) := by
  refine ⟨pe_imp (pe_split ho.pe he.pe hs hbase hline) ?_⟩
  rintro σ H Q ⟨F, ρ, QQ, E, q, k⟩
  refine ⟨F, ρ, _, E, q, fun d v F1 H1 ⟨s, e1, q1⟩ s1 r1 => ?_⟩
  subst e1
  cases r1
  refine ⟨⟨_, rfl⟩, F1, ρ, _, E.step s1, q1, fun d v F2 H2 ⟨p, e2, h1, h2, q2⟩ s2 r2 => ?_⟩
  subst e2
  cases r2
  refine ⟨s, p, rfl, rfl, h1, h2, fun a ha => ?_⟩
  have s3 : Stp F H F2 H2 := s1.trans s2
  exact k _ a _ F2 _ q2 (s3.trans (Stp.own s2.fs ha _)) (s3.hh.nfree ha) upd_same (s2.fs.free ha) (AtAll.strsI _)
def dPartn (t u : DE) : DE := fun ρ Q => t ρ fun x => ∃ s : Str, x = .str s ∧ u ρ fun y => ∃ p : Str, y = .str p ∧ (p.length == 0) = false ∧ s.length ≤ sizeLine ∧ Q (.tup [.str (Txt.partition s p).1, .str (Txt.partition s p).2.1, .str (Txt.partition s p).2.2])
theorem pd_partition {to te : DE} {apos : Pos} (ho : PD X F0 H0 o to) (he : PD X F0 H0 e te) (hs : starEach [e] X.env = [(false, eval e X.env)] := by rfl) (hbase : attributeBase o "partition" X.env (eval o X.env) = eval o X.env := by rfl) (hline : (apos.endLine == pos.line) = true := by rfl) :
    PD X F0 H0 (.Call (.Attribute o "partition" apos) [e] [] pos) (dPartn to te) := by
  refine ⟨pe_imp (pe_partition ho.pe he.pe hs hbase hline) ?_⟩
  rintro σ H Q ⟨F, ρ, QQ, E, q, k⟩
  refine ⟨F, ρ, _, E, q, fun d v F1 H1 ⟨s, e1, q1⟩ s1 r1 => ?_⟩
  subst e1
  cases r1
  refine ⟨⟨_, rfl⟩, F1, ρ, _, E.step s1, q1, fun d v F2 H2 ⟨p, e2, h1, h2, q2⟩ s2 r2 => ?_⟩
  subst e2
  cases r2
  refine ⟨s, p, rfl, rfl, h1, h2, fun a ha => ?_⟩
  have st := Stp.new s2.fs ha (.tup [V.str (Txt.partition s p).1, .str (Txt.partition s p).2.1, .str (Txt.partition s p).2.2])
  exact k _ _ _ _ q2 ((s1.trans s2).trans st) (.tup (SqT.of upd_same) (.cons (.str _) (.cons (.str _) (.cons (.str _) .nil))))
def dJoin (t : DE) (u : DA) : DE := fun ρ Q => t ρ fun x => ∃ s : Str, x = .str s ∧ u ρ fun l => ∃ ys : List Str, l = ys.map D.str ∧ (ys.map (·.length)).sum + ys.length * s.length ≤ 16777216 ∧ Q (.str (Txt.join s ys))
theorem pd_join {to : DE} {te : DA} {apos : Pos} (ho : PD X F0 H0 o to) (he : PL X F0 H0 e te) (hs : starEach [e] X.env = [(false, eval e X.env)] := by rfl) (hbase : attributeBase o "join" X.env (eval o X.env) = eval o X.env := by rfl) (hline : (apos.endLine == pos.line) = true := by rfl) :
    PD X F0 H0 (.Call (.Attribute o "join" apos) [e] [] pos) (dJoin to te) := by
  refine ⟨pe_imp (pe_join ho.pe he.pe hs hbase hline) ?_⟩
  rintro σ H Q ⟨F, ρ, QQ, E, q, k⟩
  refine ⟨F, ρ, _, E, q, fun d v F1 H1 ⟨s, e1, q1⟩ s1 r1 => ?_⟩
  subst e1
  cases r1
  refine ⟨⟨_, rfl⟩, F1, ρ, _, E.step s1, q1, fun d v F2 H2 ⟨ys, e2, h1, q2⟩ s2 r2 => ?_⟩
  subst e2
  obtain ⟨p, xs, rfl, h3, h4⟩ := r2
  have e := h4.strs
  subst e
  exact ⟨s, p, ys, rfl, rfl, .inl (SqL.of h3), h1, k _ _ F2 H2 q2 (s1.trans s2) (.str _)⟩
/-! ### try, where nothing is raised -/
theorem psd_tryN {body : List Stmt} {h₀ : ExceptHandler} {hs : List ExceptHandler} {t : DS} (h : PSsD X.nox F0 H0 body t) : PSD X F0 H0 (.Try body (h₀ :: hs) [] [] pos) t :=
  ⟨ps_imp (ps_try_thru0 h.ps) fun _ _ _ q => q⟩
end
end DL

namespace DL
open PySem PySem.W PySem.Calls PySem.Spec PyProof.Rows L2
variable [Tb]
/-! ### sorted by a key that is a call of ours -/
section
variable {X : Cx} {pins : List (Addr × Obj)} {σ : L2.St}
/-- a new thing of ours that is not tracked -/
structure NewAt (X : Cx) (pins : List (Addr × Obj)) (b : Addr) : Prop where
  sz : X.s_0.heap.objs.size ≤ b
  loc : b ≠ X.env.locals
  frs : b ∉ frs X.stack
  cell : ∀ x c, X.env.cells.lookup x = some c → c ≠ b
  pin : ∀ p ∈ X.pn ++ pins, p.1 ≠ b
theorem newAt {H : Hp} {s : Shared} (I : Inv X pins σ H s) {b : Addr} (h : s.heap.objs.size ≤ b) : NewAt X pins b where
  sz := Nat.le_trans I.sz h
  loc := fun z => by
    have h1 := I.lt
    rw [← z] at h1
    exact Nat.lt_irrefl _ (Nat.lt_of_lt_of_le h1 h)
  frs := fun z => by
    rcases List.mem_cons.mp (I.stkSub _ z) with e | e
    · have h1 := I.lt
      rw [← e] at h1
      exact Nat.lt_irrefl _ (Nat.lt_of_lt_of_le h1 h)
    · exact I.nofs h e
  cell := fun x c e z => by
    obtain ⟨v, o, ho, _⟩ := I.cell x c e
    rw [z] at ho
    exact Nat.lt_irrefl _ (Nat.lt_of_lt_of_le (Heap.lt_size ho) h)
  pin := fun p hp z => by
    obtain ⟨e, _⟩ := I.pin p hp
    rw [z] at e
    exact Nat.lt_irrefl _ (Nat.lt_of_lt_of_le (Heap.lt_size e) h)
/-- what a key's call leaves -/
def KeyEnd (X : Cx) (pins : List (Addr × Obj)) (σ : L2.St) (F H : Hp) (s : Shared) (d : D) (v : Value) (s' : Shared) : Prop :=
  ∃ (y : V) (F' H' : Hp), Inv X pins σ H' s' ∧ Un (L2.frs X.stack) [] H H' s.heap s'.heap ∧ RelV y v ∧ Stp F H F' H' ∧ At X.K F' y d
/-- one thing that stands untracked while keys are made -/
def Stands (s : Shared) (H : Hp) (b : Addr) (o : Obj) : Prop := s.heap.get? b = some o ∧ H b = none
theorem Stands.un {s s' : Shared} {H H' : Hp} {b : Addr} {o : Obj} (h : Stands s H b o) (u : Un (L2.frs X.stack) [] H H' s.heap s'.heap) (n : b ∉ L2.frs X.stack) : Stands s' H' b o :=
  ⟨u.keep b o h.1 h.2 n (by simp), u.free b o h.1 h.2 (by simp)⟩
theorem each_mono {K : PySem.W.Frag} {F F' : Hp} (ff : Same F F') {us : List Value} {ds : List D} (e : EachIs (fun u d => ∃ x, RelV x u ∧ At K F x d) us ds) : EachIs (fun u d => ∃ x, RelV x u ∧ At K F' x d) us ds :=
  e.mono fun u d ⟨x, r, a⟩ => ⟨x, r, a.mono ff⟩
theorem each_map {α β : Type} {R : Value → β → Prop} {f : α → β} : ∀ {us : List Value} {bs : List α}, EachIs (fun v b => R v (f b)) us bs → EachIs R us (bs.map f)
  | _, _, .nil => .nil
  | _, _, .cons a t => .cons a (each_map t)
theorem key_sort {A : Around} {F H : Hp} {s : Shared} {a kS f : Addr} {fo : Obj} {e1 : Nat} {vs : List Value} {ds : List D} {key : D → D} {P : PySem.Fin → Shared → Prop} {E : Value → Shared → Prop}
    (I : Inv X pins σ H s) (fs : Same F H) (na : NewAt X pins a) (nk : NewAt X pins kS) (nf : f ∉ L2.frs X.stack) (hka : kS ≠ a) (hfa : f ≠ a) (hfk : f ≠ kS)
    (sk : Stands s H kS (seqObj "list" #[] 0)) (sa : Stands s H a (seqObj "list" #[] e1)) (sf : Stands s H f fo) (hZ : vs.length ≤ sizeLine)
    (ev : EachIs (fun u d => ∃ x, RelV x u ∧ At X.K F x d) vs ds) (ok : SortOk (ds.map key)) (hu : A.units + 60 < cLine)
    (turn : ∀ (u : Value) (x : V) (d : D), RelV x u → d ∈ ds → ∀ (sj : Shared) (Hj Fj : Hp), At X.K Fj x d → Inv X pins σ Hj sj → Same Fj Hj → Stp F H Fj Hj → Stands sj Hj f fo →
      wpAny (model X.prog X.w) A (call (.ref f) [u]) (KeyEnd X pins σ Fj Hj sj (key d)) (fun _ _ => False) sj)
    (h : ∀ (ys : List V) (F' H' : Hp) (s' : Shared), Stp F H F' H' → H' a = none → AtAll X.K F' ys (ds.mergeSort (dataLe false fun d => (key d).py)) → Inv X pins σ (upd H' a (.lst ys)) s' → P (.done (.ret .none)) s') :
    wpAny (model X.prog X.w) A (ksk_rest a (.ref f) false vs.toArray e1 (.ref kS)) P E s := by
  have hlen := ev.length
  unfold ksk_rest
  refine wpAny_bind (wpAny_rule ?_)
  first
    | rw [List.forIn_toArray]
    | (rw [← Array.forIn_toList]; simp only [List.toList_toArray])
    | rw [← Array.forIn_toList]
  refine wpAny_bind (ksk_fold (fun i s' => ∃ (Fj Hj : Hp) (kA : Array Value) (e : Nat), Inv X pins σ Hj s' ∧ Stp F H Fj Hj ∧ Stands s' Hj kS (seqObj "list" kA e) ∧ Stands s' Hj a (seqObj "list" #[] e1) ∧ Stands s' Hj f fo ∧
      EachIs (fun u d => ∃ x, RelV x u ∧ At X.K Fj x d) kA.toList ((ds.map key).take i)) vs 0 s
    ⟨F, H, #[], 0, I, Stp.refl fs, sk, sa, sf, by rw [List.take_zero]; exact EachIs.nil⟩ ?step ?done)
  case step =>
    rintro j x s' hx ⟨Fj, Hj, kA, e, Ij, st, skj, saj, sfj, hk⟩
    simp only [Nat.zero_add] at hk ⊢
    have hj : j < vs.length := (List.getElem?_eq_some_iff.mp hx).1
    obtain ⟨d, hd⟩ : ∃ d, ds[j]? = some d := ⟨_, List.getElem?_eq_getElem (by omega)⟩
    obtain ⟨xv, rv, av⟩ := ev.zip (x, d) (List.mem_of_getElem? (i := j) (by rw [List.getElem?_zip_eq_some]; exact ⟨hx, hd⟩))
    have hz : kA.size ≤ vs.length := by
      have h1 := hk.length
      rw [Array.length_toList, List.length_take] at h1
      omega
    refine wpAny_bind (wpAny_attempt (wpAny_mono (turn x xv d rv (List.mem_of_getElem? hd) s' Hj Fj (av.mono st.ff) Ij st.fs st sfj) (fun v s'' he => ?_) fun _ _ hF => hF.elim))
    obtain ⟨y, F', H', I', un, ry, st', ay⟩ := he
    try dsimp only
    have sk' := skj.un un nk.frs
    have sa' := saj.un un na.frs
    have sf' := sfj.un un nf
    have s1 := Heap.SameBut.update s''.heap kS (Obj.mapSeq (·.push v))
    obtain ⟨c2, hc2⟩ : ∃ c2, (s''.heap.update kS (Obj.mapSeq (·.push v))).get? kS = some (seqObj "list" (kA.push v) c2) := ⟨_, get?_update_seq sk'.1 (·.push v)⟩
    have ek : (ds.map key).take (j + 1) = (ds.map key).take j ++ [key d] := by rw [List.take_add_one, List.getElem?_map, hd]; rfl
    have ea : (kA.push v).toList = kA.toList ++ [v] := by simp
    refine wpAny_bind (listUpdate_at sk'.1 rfl ?_ (Nat.le_trans hz hZ) (Nat.le_trans (Nat.le_of_eq (Array.size_push ..)) (Nat.succ_le_succ (Nat.le_trans hz hZ))))
    refine wpAny_pure ⟨rfl, F', H', kA.push v, c2, ?_, st.trans st', ⟨hc2, sk'.2⟩, ⟨(s1.2 a hka.symm).trans sa'.1, sa'.2⟩, ⟨(s1.2 f hfk).trans sf'.1, sf'.2⟩, ?_⟩
    · exact I'.turned (t' := s''.toks) (fun b o hb e => (s1.2 b hb).trans e) sk'.2 nk.loc (.inr nk.sz) nk.cell nk.pin
    · rw [ea, ek]
      exact each_snoc (R := fun (u : Value) (d : D) => ∃ x, RelV x u ∧ At X.K F' x d) ⟨y, ry, ay⟩ (each_mono st'.ff hk)
  case done =>
    rintro s' ⟨Fj, Hj, kA, e, Ij, st, skj, saj, sfj, hk⟩
    have e3 : (ds.map key).take (0 + vs.length) = ds.map key := List.take_of_length_le (by rw [List.length_map]; omega)
    rw [e3] at hk
    have hsz : kA.size = vs.length := by
      have h1 := hk.length
      rw [Array.length_toList, List.length_map] at h1
      omega
    obtain ⟨hal, hso, hpl⟩ := ok
    have hk' : EachIs (fun v k => ∃ as, Reads s'.heap v k as) kA.toList ((ds.map key).map D.py) :=
      each_map (each_reads Ij st.fs hk fun d hd => (hpl d hd).1)
    obtain ⟨G, g1, g2⟩ := restrict s'.heap fun b => decide (b ≠ kS)
    have kp : KeepsBut a G s'.heap := fun b o hb e => by
      by_cases hk : b = kS
      · rw [hk, g2 kS (by simp)] at e
        cases e
      · rw [g1 b (by simpa using hk)] at e
        exact e
    try dsimp only
    refine wpAny_bind (listItems_at skj.1 rfl ?_)
    refine keyH_end (κ := dataKind s'.heap ((ds.map key).map D.py)) (h₁ := G) kp (g2 kS (by simp)) skj.1 saj.1 hka (SortsAt.data (s := s') hk' hal hso fun d hd => ?_) hsz hZ fun h3 tk3 c k3 n3 => ?_
    · obtain ⟨d', hd', rfl⟩ := List.mem_map.mp hd
      have := (hpl d' hd').2
      omega
    · have ko : KeyedOut false ((ds.map key).map D.py) vs (sortVals (dataKind s'.heap ((ds.map key).map D.py)) false kA.toList vs) := ⟨s'.heap, kA.toList, hal, rfl, hk'⟩
      rw [List.map_map] at ko n3
      have eo := keyedOut_each (fun d => (key d).py) ko (each_mono st.ff ev)
      obtain ⟨ys, h1, h2⟩ := each_to eo
      have al : ∀ b o, b ≠ a → b ≠ kS → s'.heap.get? b = some o → h3.get? b = some o := fun b o n1 n2 e => k3 b o n1 (by rw [g1 b (by simpa using n2)]; exact e)
      have ch2 : ∀ {b : Addr}, b ∉ [a, kS] → b ≠ a ∧ b ≠ kS := fun {b} hb => by
        simp only [List.mem_cons, List.not_mem_nil, or_false, not_or] at hb
        exact hb
      have nA : ∀ b u, Hj b = some u → b ≠ a := fun b u e => ne_of_none e saj.2
      have nK : ∀ b u, Hj b = some u → b ≠ kS := fun b u e => ne_of_none e skj.2
      refine h ys Fj Hj _ st saj.2 h2 (Ij.step (g' := s'.gens) (d' := s'.drawn) (t' := tk3) (h' := h3) (ch := [a, kS]) (fun b hb => ?_) (fun b o _ _ hc e _ => al b o (ch2 hc).1 (ch2 hc).2 e) (fun b o _ _ hc e _ => ⟨o.slots, al b o (ch2 hc).1 (ch2 hc).2 e⟩)
        (fun b o hc _ e => by rw [upd_ne (ch2 hc).1]; exact e) (fun b o hc e => ⟨o, al b o (ch2 hc).1 (ch2 hc).2 e⟩) (fun b xs e => by rw [upd_ne (nA b _ e)]; exact e) (fun b o u e => by rw [upd_ne (nA b _ e)]; exact e)
        (fun b ps e => ⟨#[], by rw [upd_ne (nA b _ e), e]; simp⟩) (fun m hm => ?_) (fun b u e => ?_) Ij.bare)
      · simp only [List.mem_cons, List.not_mem_nil, or_false] at hb
        rcases hb with rfl | rfl
        · exact ⟨.inr na.sz, na.loc, na.cell, na.pin⟩
        · exact ⟨.inr nk.sz, nk.loc, nk.cell, nk.pin⟩
      · obtain ⟨o, es, ep, ho, r⟩ := hm
        exact ⟨o, es, ep, al _ o (Ne.symm na.loc) (Ne.symm nk.loc) ho, r⟩
      · by_cases hb : b = a
        · subst hb
          rw [upd_same] at e
          cases e
          refine ⟨?_, _, c, h1, n3⟩
          rw [h1.length, sortVals_length false (by rw [Array.length_toList]; exact hsz)]
          exact hZ
        · rw [upd_ne hb] at e
          refine (Ij.hok b u e).stay (fun d v hd q => al d v ?_ ?_ q) (fun d q => by rw [upd_ne (nA d _ q)]; exact q) fun d xs q => by rw [upd_ne (nA d _ q)]; exact q
          · rcases hd with z | z
            · rw [z]
              exact hb
            · exact nA d _ z
          · rcases hd with z | z
            · rw [z]
              exact nK b u e
            · exact nK d _ z
theorem sorted_key {F H : Hp} {s : Shared} {l f : Addr} {fo : Obj} {xs : List V} {ds : List D} {key : D → D} {Q : VK} {E : Value → Shared → Prop}
    (I : Inv X pins σ H s) (fs : Same F H) (hs : SqL X.K H l xs) (ax : AtAll X.K F xs ds) (ok : SortOk (ds.map key)) (hu : X.A.units + 64 < cLine) (nf : f ∉ L2.frs X.stack) (sf : Stands s H f fo)
    (turn : ∀ (u : Value) (x : V) (d : D), RelV x u → d ∈ ds → ∀ (sj : Shared) (Hj Fj : Hp), At X.K Fj x d → Inv X pins σ Hj sj → Same Fj Hj → Stp F H Fj Hj → Stands sj Hj f fo →
      wpAny (model X.prog X.w) X.A.in1.in1 (call (.ref f) [u]) (KeyEnd X pins σ Fj Hj sj (key d)) (fun _ _ => False) sj)
    (h : ∀ (ys : List V) (p : Addr) (F' H' : Hp), Stp F H F' H' → H p = none → H' p = none → AtAll X.K F' ys (ds.mergeSort (dataLe false fun d => (key d).py)) → Q (.ref p) (upd H' p (.lst ys))) :
    wpAny (model X.prog X.w) X.A (call (.builtin "sorted") [.ref l] [(Str.ofString "key", .ref f)]) (EP X pins σ Q) E s := by
  obtain ⟨its, rv, hl, hz⟩ := I.list hs
  have hZ : its.length ≤ sizeLine := by rw [← rv.length]; exact hz
  have ev := each_of rv ax
  refine sorted_of_sort hl.isList hZ (ksk_s1 _ _) (fun _ => ksk_l1 _ _) fun E' => ?_
  rw [ksk_t1]
  have ho := copyHeap_at s.heap its
  obtain ⟨e1, ho1⟩ : ∃ e1, ((copyHeap s.heap its).update (s.heap.objs.size + 1) (Obj.mapSeq fun _ => (#[] : Array Value))).get? (s.heap.objs.size + 1) = some (seqObj "list" #[] e1) := ⟨_, get?_update_seq ho fun _ => #[]⟩
  have hcs : s.heap.objs.size + 1 < (copyHeap s.heap its).objs.size := Heap.lt_size ho
  have hkS : (((copyHeap s.heap its).update (s.heap.objs.size + 1) (Obj.mapSeq fun _ => (#[] : Array Value))).push (seqObj "tuple" its.toArray 0)).objs.size = (copyHeap s.heap its).objs.size + 1 := by rw [size_push', Heap.size_update]
  unfold ksk_tree
  refine wpAny_bind (listItems_at ho rfl ?_)
  refine wpAny_bind (listUpdate_at ho rfl ?_ (by rw [List.size_toArray]; exact hZ) (Nat.zero_le _))
  refine wpAny_bind (seqEpoch_at ho1 rfl ?_)
  refine wpAny_bind (wpAny_newTuple ?_ (by show its.length ≤ _; exact hZ))
  refine wpAny_bind (wpAny_newList ?_ (Nat.zero_le _))
  refine wpAny_holding ?_
  have old : ∀ b o, s.heap.get? b = some o → (sortingHeap (copyHeap s.heap its) (s.heap.objs.size + 1) its).get? b = some o := fun b o e =>
    sortingHeap_old (Nat.ne_of_lt (Nat.lt_succ_of_lt (Heap.lt_size e))) (copyHeap_old e)
  have le1 : s.heap.objs.size ≤ s.heap.objs.size + 1 := Nat.le_succ _
  have le2 : s.heap.objs.size ≤ (((copyHeap s.heap its).update (s.heap.objs.size + 1) (Obj.mapSeq fun _ => (#[] : Array Value))).push (seqObj "tuple" its.toArray 0)).objs.size := by
    rw [hkS]
    exact Nat.le_trans le1 (Nat.le_trans (Nat.le_of_lt hcs) (Nat.le_succ _))
  have hfl := Heap.lt_size sf.1
  refine key_sort (s := { s with heap := sortingHeap (copyHeap s.heap its) (s.heap.objs.size + 1) its }) (a := s.heap.objs.size + 1) (F := F) (H := H) (ds := ds) (key := key) (fo := fo) (I.kept (t' := s.toks) old) fs (newAt I le1) (newAt I le2) nf ?_ ?_ ?_
    ⟨Heap.get?_push_size _ rfl, I.hok.fresh le2⟩ ⟨Heap.get?_push_of_some _ (Heap.get?_push_of_some _ ho1), I.hok.fresh le1⟩ ⟨old _ _ sf.1, sf.2⟩ hZ ev ok (by show X.A.units + 1 + 1 + 60 < _; omega) turn ?_
  · rw [hkS]
    exact Nat.ne_of_gt (Nat.lt_succ_of_lt hcs)
  · exact Nat.ne_of_lt (Nat.lt_succ_of_lt hfl)
  · exact Nat.ne_of_lt (Nat.lt_of_lt_of_le hfl le2)
  · exact fun ys F' H' s' st ha hy Iy => ⟨rfl, .ref _, _, Iy, rfl, h ys _ F' H' st (I.hok.fresh le1) ha hy⟩
end
end DL
namespace DL
open PySem PySem.W PySem.Calls PySem.Spec PyProof.Rows L2
variable [Tb]
theorem cloFrom_nil {cells : List (Str × Addr)} : ∀ {names : List (Str × NameKind)} {acc : List (Str × Addr)}, (∀ y ∈ names, y.2 ≠ .free) → cloFrom cells names acc = acc
  | [], _, _ => rfl
  | (n, k) :: r, acc, h => by
    unfold cloFrom
    have hk : (k == NameKind.free) = false := by
      have := h (n, k) List.mem_cons_self
      cases k <;> first | rfl | exact absurd rfl this
    rw [hk]
    exact cloFrom_nil fun y hy => h y (List.mem_cons_of_mem _ hy)
/-- a lambda of parameters is called -/
theorem lam_run {P : Program} {w : World} {K : PySem.W.Frag} {mg : Str → Option Value} {base : Heap} {k : Nat} {f c' : Addr} {q : Str} {params : Arguments} {body : Expr} {scope : Scope} {pm ctv : Value} {N ps : List Str} {A : Around} {outer : List Env} {s : Shared} {H : Hp} {us : List Value} {vs : List V} {Q : VK}
    (of : s.heap.get? f = some (kla_obj "<lambda>" q params body scope [] pm c' ctv)) (hc : H c' = some (LamX.CodeO c' q)) (S : FnScope N ps scope) (hr : Room (k + 1) A) (e0 : Env0 P w K mg base A outer s H)
    (hb : bindArgs (kla_fn "<lambda>" q params body scope [] pm (.ref c') ctv) ⟨us, []⟩ = pure (ps.zip us)) (r : Vals vs us) (hl : vs.length = ps.length)
    (hbody : Room k (A.deeper (envOfC q scope s.heap.objs.size f (.ref c'))) → ∃ t, PE (cxOf CX0 P w K mg base N q scope f (.ref c') A outer s H E0) body t ∧ t (L2.start N vs) H Q) :
    codeAny (model P w) A (.call (.ref f) ⟨us, []⟩) (CR CX0 outer P w H s Q E0) s := by
  have lim : s.heap.NoLimit := e0.mod.nolimit.keeps fun b o e => (e0.bs b o e).1
  obtain ⟨⟨oc, vs0, t0, hoc, hdc, hvc⟩, _, _⟩ := e0.hok c' _ hc
  have hkind : ∀ y ∈ ps.zip us, scope.names.lookup y.1 = some .local ∨ (scope.names.lookup y.1 = some .cell ∧ ((cellsFrom (s.heap.objs.size + 1) scope.names []).lookup y.1).isSome = true) := fun ⟨n, v⟩ hy => by
    rcases S.par n (List.of_mem_zip hy).1 with q | q
    · exact .inl q
    · exact .inr ⟨q, PySem.W.cellsFrom_some _ _ _ (.inl q)⟩
  refine kla_callFunE hr.depth of rfl S.co S.gen rfl ⟨c', oc, vs0, t0, rfl, hoc, hdc, hvc⟩ ?_
  rw [hb]
  refine wpAny_pure (wpAny_newFunctionEnv_cells S.kind hkind fun env he s1 x => ?_)
  subst he
  refine ⟨lim.keeps x.toInCall.keep, kla_codeExpr ?_⟩
  obtain ⟨t, ht, hq⟩ := hbody (hr.deeper _)
  have I : Inv (cxOf CX0 P w K mg base N q scope f (.ref c') A outer s H E0) [] (L2.start N vs) H s1 := inv_start S hr.hd e0 hl r x
  refine wpAny_mono (ht.run [] s1 (L2.start N vs) H Q I hq) (fun v s' hs => ?_) fun e s' hs => hs
  obtain ⟨v', H', J, rv, q⟩ := hs
  exact ⟨v', H', J.os, J.bare, J.base, J.hok, rv, q⟩
section
variable {X : Cx} {F0 H0 : Hp} {a : Expr} {pos : Pos}
/-- sorted by a key: what it reads -/
def dSortK (tE : DE) (n : Nat) (t : DA) : DA := fun ρ Q => t ρ fun l => ∃ key : D → D, (∀ d ∈ l, tE (some (.d d) :: List.replicate n none) fun e => e = key d) ∧ SortOk (l.map key) ∧ Q (l.mergeSort (dataLe false fun d => (key d).py))
theorem pn_sortK {k : Nat} {c P : Addr} {x pn : Str} {ta : DA} {N : List Str} {tE : DE} {params : Arguments} {body : Expr} {scope : Scope} {p kpos lpos : Pos} (hg : Gl X x) (hm : X.mg x = none) (hv : bootBuiltins x = some (.builtin "sorted")) (ha : PL X F0 H0 a ta)
    (TB : LamX.TabB X.base X.mg c P) (hcode : X.env.code = .ref c) (hmT : (P, X.env.qual ++ "<lambda>") ∈ Tb.T) (huT : ∀ p ∈ Tb.T, p.1 = P → p.2 = X.env.qual ++ "<lambda>") (hr : Room (k + 3) X.A) (S : FnScope N [pn] scope) (hdef : defaultsOf params X.env = ([], []))
    (hbind : ∀ (q : Str) (pm cv ctv u : Value), bindArgs (kla_fn "<lambda>" q params body scope [] pm cv ctv) ⟨[u], []⟩ = pure [(pn, u)])
    (hbody : ∀ (q : Str) (f c' : Addr) (A : Around) (outer : List Env) (s : Shared) (F1 H : Hp), Room k (A.deeper (envOfC q scope s.heap.objs.size f (.ref c'))) → PD (cxOf CX0 X.prog X.w X.K X.mg X.base N q scope f (.ref c') A outer s H E0) F1 H body tE)
    (hn : x ≠ "__name__" := by decide) (hdb : (x == ("__debug__" : Str)) = false := by decide) (hk1 : (Str.ofString "key") = Str.ofString "key" := by rfl)
    (he0 : starEach [a] X.env = (false, eval a X.env) :: starEach [] X.env := by rfl) (he : backTo pos (starEach [a] X.env) = (false, eval a X.env) :: backTo pos (starEach [] X.env) := by rfl) (hpl : (backTo pos (starEach [a] X.env)).any (·.1) = false := by rfl)
    (hall : (backToKw pos (keywordEach [⟨some (Str.ofString "key"), .Lambda params body scope lpos, kpos⟩] X.env)).all (·.1.isSome) = true := by rfl) (hnone : (backToKw pos (keywordEach [⟨some (Str.ofString "key"), .Lambda params body scope lpos, kpos⟩] X.env)).any (·.1.isNone) = false := by rfl)
    (hks : (backToKw pos (keywordEach [⟨some (Str.ofString "key"), .Lambda params body scope lpos, kpos⟩] X.env)).filterMap (·.1) = [Str.ofString "key"] := by rfl) :
    PN X F0 H0 (.Call (.Name x p) [a] [⟨some (Str.ofString "key"), .Lambda params body scope lpos, kpos⟩] pos) (dSortK tE (N.length - 1) ta) := by
  refine ⟨⟨fun pins s σ H Q I h => ?_⟩⟩
  obtain ⟨F, ρ, QQ, E, q, kk⟩ := h
  refine wpAny_Call_Name_kw (ld_blt I hg hm hv ?_ hn hdb)
  refine PyProof.Rows.callWith_kw (thn ((pa_cons ha.pe pa_nil he0).run pos pins s σ H (fun vs H1 => ∃ l v F1, vs = [v] ∧ (∃ key : D → D, (∀ d ∈ l, tE (some (.d d) :: List.replicate (N.length - 1) none) fun e => e = key d) ∧ SortOk (l.map key) ∧ QQ (l.mergeSort (dataLe false fun d => (key d).py))) ∧ Stp F H F1 H1 ∧ RL X.K F1 H1 v l) I
    ⟨F, ρ, _, E, q, fun l v F1 H1 q1 s1 r1 => ⟨l, v, F1, rfl, q1, s1, r1⟩⟩) fun us s1 ⟨vs, H1, I1, r1, q1⟩ => ?_) he hpl hall hnone
  obtain ⟨l, v, F1, rfl, ⟨key, hkey, hok, hq⟩, st1, rl⟩ := q1
  obtain ⟨b, xs, rfl, hbs, hxs⟩ := rl
  rw [Vals.ref1 r1, hks]
  show wpAny _ _ (evalAll [do let v ← eval (.Lambda params body scope lpos) X.env; standAt pos; pure v]) _ _ s1
  have E1 := E.step st1
  have hfree : ∀ y ∈ scope.names, y.2 = .free → ∃ c, X.env.cells.lookup y.1 = some c := fun y hy e => absurd e (S.nofree y hy)
  refine wpAny_evalAll_cons (wpAny_bind (LamX.lam_make2 I1 TB hcode hmT huT E1.tb hdef hfree fun f c' pm ctv H2 s2 I2 eN T2 of hfn hfr hco => wpAny_bind (wpAny_standAt (wpAny_pure (wpAny_evalAll_nil ?_)))))
  rw [cloFrom_nil S.nofree] at of
  have fs2 : Same F1 H2 := fun b u e => eN b u (st1.fs b u e) fun ps z => E1.nt b ps (by rw [e, z])
  have st2 : Stp F1 H1 F1 H2 := ⟨⟨eN, fun _ => T2⟩, Same.refl _, fs2, fun _ _ _ _ n => n, fun _ _ z => z⟩
  show wpAny _ _ (call (.builtin "sorted") [.ref b] [(Str.ofString "key", .ref f)]) _ _ _
  refine sorted_key (F := F1) (ds := l) (key := key) I2 fs2 (SqL.of (st2.hh.lst hbs)) hxs hok (by have := hr.un; omega) hfr ⟨of, hfn⟩ (fun u y d ry hd sj Hj Fj ay Ij fj stj sfj => ?_) fun ys p' F' H' st hp hp' hys => ?_
  · have Ej := E1.step (st2.trans stj)
    have rc : codeAny (model X.prog X.w) X.A.in1.in1 (.call (.ref f) ⟨[u], []⟩) (CR CX0 X.stack X.prog X.w Hj sj (fun v H' => ∃ F', Stp Fj Hj F' H' ∧ At X.K F' v (key d)) E0) sj := by
      refine lam_run (N := N) (ps := [pn]) (vs := [y]) sfj.1 (stj.hh.ob c' _ hco fun ps => LamX.codeO_ne ps) S hr.in1.in1 Ij.env0.in1.in1 (hbind _ _ _ _ _) (.cons ry .nil) rfl fun hr' => ?_
      refine ⟨_, (hbody _ f c' _ _ sj Fj Hj hr').pe, Fj, startD N [d], _, EnvAt.start ⟨fj, Ej.nt, Ej.tb⟩ (.cons ay .nil), hkey d hd, fun e v F' H' he st r => ?_⟩
      subst he
      exact ⟨F', st, r⟩
    refine wpAny_call (codeAny_mono rc fun r s' hq => ?_)
    cases r with
    | error e => exact (show False from hq).elim
    | ok fl =>
      cases fl with
      | ret v =>
        obtain ⟨y', H', os, bare, un, hok', rv, F', st', a'⟩ := hq
        obtain ⟨hh, g, dd, t, os'⟩ := s'
        obtain rfl : os' = sj.os := os
        exact ⟨y', F', H', Ij.call (h' := hh) (g' := g) (d' := dd) (t' := t) (ch := []) un hok' bare (fun b z => absurd z (by simp)), un, rv, st', a'⟩
      | next => exact False.elim hq
      | brk => exact False.elim hq
      | cont => exact False.elim hq
  · exact kk _ p' ys F' _ hq ((st1.trans st2).trans (st.trans (Stp.own st.fs hp' _))) ((st1.trans st2).hh.nfree hp) upd_same (st.fs.free hp') hys
end
end DL
namespace DL
open PySem PySem.W PySem.Calls PySem.Spec PyProof.Rows L2
variable [Tb]
/-- the name of a lambda in a def -/
abbrev lamName (x : Str) : Str := x ++ ".<locals>." ++ "<lambda>"
/-- a def of the top whose body makes lambdas: its code object c, that one's table P -/
def DfL (K : PySem.W.Frag) (mg : Str → Option Value) (base : Heap) (x : Str) (st : Stmt) (ps : List Str) : Prop :=
  ∃ (f c P : Addr) (fd : FuncData), Fun K x x st f fd ∧ fd.code = .ref c ∧ mg x = some (.ref f) ∧ Binds K fd ps [] ∧ LamX.TabB base mg c P ∧ (P, lamName x) ∈ Tb.T ∧ ∀ p ∈ Tb.T, p.1 = P → p.2 = lamName x
theorem DfL.has {P : Program} {w : World} {K : PySem.W.Frag} {mg : Str → Option Value} {base : Heap} {x : Str} {st : Stmt} {N ps : List Str} {k n : Nat} {t : List D → (D → Prop) → Prop} {T : DS} (F : DfL K mg base x st ps) (S : FnScope N ps (defScope st)) (hn : ps.length = n)
    (hb : ∀ (c Pt : Addr), LamX.TabB base mg c Pt → (Pt, lamName x) ∈ Tb.T → (∀ p ∈ Tb.T, p.1 = Pt → p.2 = lamName x) → ∀ (f : Addr) (A : Around) (outer : List Env) (s : Shared) (H : Hp) (E : XK) (F0 : Hp), Room k (A.deeper (PyProof.Rows.envOfC x (defScope st) s.heap.objs.size f (.ref c))) → PSsD (cxOf CX0 P w K mg base N x (defScope st) f (.ref c) A outer s H E).nox F0 H (defBody st) T)
    (hv : ∀ ds Q, ds.length = n → t ds Q → T ⟨fun _ => Q .non, Q, fun _ => False, fun _ => False⟩ (startD N ds)) : Has P w K mg base (k + 1) x n t := by
  obtain ⟨f, c, Pt, fd, F, hc, hm, hb', TB, h1, h2⟩ := F
  refine ⟨f, fd, ps, ?_, hm, F.kp, hb'⟩
  obtain ⟨oc, od, kV, doc, pm, an, cdv, ct, osl, rfl, lk, hcd⟩ := F.ex
  have hc : cdv = .ref c := hc
  subst hc
  refine fn_of lk hcd S (fun vs H Q E h => by rw [spD_len h, hn]) fun A outer s H vs Q E hr h => ?_
  obtain ⟨F0, ds, QQ, fs, r, hl, ht, k⟩ := h
  have hps := (hb c Pt TB h1 h2 f A outer s H E F0 hr).ps
  refine ⟨_, hps.nox, F0, _, _, EnvAt.start fs r, hv ds QQ hl ht, ⟨fun ρ σ F' H' q _ E' => ?_, fun ρ σ F' H' q _ E' => q.elim, fun ρ σ F' H' q _ E' => q.elim, fun d v F' H' q _ s' r' => k d v F' H' q s' r'⟩⟩
  exact k .non .non F' H' q E'.st .non
theorem DfL_mk {K : PySem.W.Frag} {h base : Heap} {mg : Str → Option Value} (X : K.In h) (G : h.Ns mainGlobals mg) {x : Str} {st : Stmt} {ps : List Str} {f c P : Addr} {oc : Value} {od an : Option Addr} {osl : Array (Option Value)} {kV doc pm ct : Value} (TB : LamX.TabB base mg c P) (m1 : (P, lamName x) ∈ Tb.T)
    (m2 : ∀ p ∈ Tb.T, p.1 = P → p.2 = lamName x) (a : PySem.W.nsIn K mainGlobals x = some (some (.ref f))) (l : K.lookup f = some ⟨oc, od, .func (PySem.W.fnOf x x (defArgs st) (defBody st) (defScope st) .none kV doc pm an (.ref c) ct), osl⟩) (cd : PySem.W.codeIn K (.ref c) x = true) (k : PySem.W.keepIn K (.ref f) = true)
    (hb : ∀ (kV doc pm : Value) (an : Option Addr) (cdv ct : Value) (us : List Value), us.length = ps.length → bindArgs (PySem.W.fnOf x x (defArgs st) (defBody st) (defScope st) .none kV doc pm an cdv ct) ⟨us, []⟩ = pure (ps.zip us)) : DfL K mg base x st ps := by
  have F := fun_mk (st := st) l cd k
  exact ⟨f, c, P, _, F, rfl, PySem.W.mg_of X G a, F.binds hb, TB, m1, m2⟩
end DL
namespace DL
open PySem PySem.Spec PyProof.Rows L2
variable [Tb]
section
variable {X : Cx} {F0 H0 : Hp} {a b c : Expr} {pos : Pos}
/-! ### max(i, j, k) -/
theorem cr_max3 (hc : X.calm = true) : CallR X (.builtin "max") (fun xs H Q => ∃ i j k : Int, xs = [.int i, .int j, .int k] ∧ Q (.int (max (max i j) k)) H) := by
  intro pins s σ H xs us Q I rs h
  obtain ⟨i, j, k, rfl, q⟩ := h
  cases rs with
  | cons r1 rs =>
    cases rs with
    | cons r2 rs =>
      cases rs with
      | cons r3 rs =>
        cases rs
        obtain ⟨t1, rfl⟩ := r1
        obtain ⟨t2, rfl⟩ := r2
        obtain ⟨t3, rfl⟩ := r3
        refine max_three_ints (I.ok.hd hc) fun h' tk hk => ?_
        have I' := I.kept (t' := tk) hk
        split
        · split
          · rw [show max (max i j) k = k by omega] at q
            exact ⟨.int k, H, I', ⟨_, rfl⟩, q⟩
          · rw [show max (max i j) k = j by omega] at q
            exact ⟨.int j, H, I', ⟨_, rfl⟩, q⟩
        · split
          · rw [show max (max i j) k = k by omega] at q
            exact ⟨.int k, H, I', ⟨_, rfl⟩, q⟩
          · rw [show max (max i j) k = i by omega] at q
            exact ⟨.int i, H, I', ⟨_, rfl⟩, q⟩
def dMax3 (ta tb tc : DE) : DE := fun ρ Q => ta ρ fun x => tb ρ fun y => tc ρ fun z => ∃ i j k : Int, x = .int i ∧ y = .int j ∧ z = .int k ∧ Q (.int (max (max i j) k))
theorem pd_max3 {x : Str} {p : Pos} {ta tb tc : DE} (hcm : X.calm = true) (hg : Gl X x) (hm : X.mg x = none) (ha : PD X F0 H0 a ta) (hb : PD X F0 H0 b tb) (hc : PD X F0 H0 c tc) (hv : bootBuiltins x = some (.builtin "max") := by decide +kernel) (hn : x ≠ "__name__" := by decide) (hdb : (x == ("__debug__" : Str)) = false := by decide)
    (e1 : starEach [a, b, c] X.env = (false, eval a X.env) :: starEach [b, c] X.env := by rfl) (e2 : starEach [b, c] X.env = (false, eval b X.env) :: starEach [c] X.env := by rfl) (e3 : starEach [c] X.env = (false, eval c X.env) :: starEach [] X.env := by rfl) (e4 : (backTo pos (starEach [b, c] X.env)).any (·.1) = false := by rfl) :
    PD X F0 H0 (.Call (.Name x p) [a, b, c] [] pos) (dMax3 ta tb tc) := by
  refine ⟨pe_imp (pe_callB (cr_max3 hcm) hg hm hv (pa_cons ha.pe (pa_cons hb.pe (pa_cons hc.pe pa_nil e3) e2) e1) hn hdb e1 e4) ?_⟩
  rintro σ H Q ⟨F, ρ, QQ, E, q, k⟩
  refine ⟨F, ρ, _, E, q, fun d v F1 H1 q1 s1 r1 => ?_⟩
  refine ⟨F1, ρ, _, E.step s1, q1, fun d2 v2 F2 H2 q2 s2 r2 => ?_⟩
  refine ⟨F2, ρ, _, (E.step s1).step s2, q2, fun d3 v3 F3 H3 ⟨i, j, kk, z1, z2, z3, q3⟩ s3 r3 => ?_⟩
  subst z1 z2 z3
  cases r1
  cases r2
  cases r3
  exact ⟨i, j, kk, rfl, k _ _ F3 H3 q3 ((s1.trans s2).trans s3) (.int _)⟩
end
end DL

namespace DL
open PySem L2
variable [Tb]
/-! ### fractions -/
def frD (q : Rat) : D := .tup [.int q.num, .int q.den]
theorem frD_inj {p q : Rat} : (frD p = frD q) ↔ p = q := by
  constructor
  · intro h
    unfold frD at h
    simp only [D.tup.injEq, List.cons.injEq, D.int.injEq, and_true] at h
    exact Rat.ext h.1 (by omega)
  · rintro rfl; rfl
def byOf (u l : Int) : Int := if l < 0 then 0 - (Int.gcd u l : Int) else (Int.gcd u l : Int)
theorem gcd_pos {u l : Int} (h : l ≠ 0) : 0 < Int.gcd u l := Int.gcd_pos_of_ne_zero_right u h
theorem byOf_ne {u l : Int} (h : l ≠ 0) : byOf u l ≠ 0 := by
  have := gcd_pos (u := u) h
  unfold byOf
  split <;> omega
theorem byOf_abs {u l : Int} : (byOf u l).natAbs = Int.gcd u l := by
  unfold byOf
  split <;> omega
theorem fr_num {u l : Int} (h : l ≠ 0) : u.fdiv (byOf u l) = (Rat.divInt u l).num := by
  have g0 := gcd_pos (u := u) h
  have d1 : ((Int.gcd u l : Int)) ∣ u := Int.gcd_dvd_left u l
  rw [Rat.num_divInt, Int.gcd_comm l u]
  unfold byOf
  by_cases hl : l < 0
  · rw [if_pos hl, Int.sign_eq_neg_one_of_neg hl, Int.zero_sub, Int.fdiv_eq_ediv_of_dvd (Int.neg_dvd.mpr d1), Int.ediv_neg, Int.neg_one_mul, Int.neg_ediv_of_dvd d1]
  · rw [if_neg hl, Int.sign_eq_one_of_pos (by omega), Int.one_mul, Int.fdiv_eq_ediv_of_dvd d1]
theorem fr_den {u l : Int} (h : l ≠ 0) : l.fdiv (byOf u l) = ((Rat.divInt u l).den : Int) := by
  have g0 := gcd_pos (u := u) h
  have d1 : ((Int.gcd u l : Int)) ∣ l := Int.gcd_dvd_right u l
  rw [Rat.den_divInt, if_neg h, Int.gcd_comm l u, Int.natCast_ediv]
  unfold byOf
  by_cases hl : l < 0
  · rw [if_pos hl, Int.zero_sub, Int.fdiv_eq_ediv_of_dvd (Int.neg_dvd.mpr d1), Int.ediv_neg, ← Int.neg_ediv_of_dvd d1, Int.ofNat_natAbs_of_nonpos (by omega)]
  · rw [if_neg hl, Int.fdiv_eq_ediv_of_dvd d1, Int.natAbs_of_nonneg (by omega)]
/-- at most so many bits in both parts -/
def Bd (q : Rat) (n : Nat) : Prop := q.num.natAbs < 2 ^ n ∧ q.den < 2 ^ n
theorem Bd.le {q : Rat} {m n : Nat} (h : Bd q m) (i : m ≤ n) : Bd q n :=
  ⟨Nat.lt_of_lt_of_le h.1 (Nat.pow_le_pow_right (by decide) i), Nat.lt_of_lt_of_le h.2 (Nat.pow_le_pow_right (by decide) i)⟩
theorem divInt_num_le {u l : Int} (h : l ≠ 0) : (Rat.divInt u l).num.natAbs ≤ u.natAbs := by
  rw [Rat.num_divInt]
  have g0 := gcd_pos (u := u) h
  have d1 : ((Int.gcd l u : Int)) ∣ l.sign * u := Int.dvd_mul_of_dvd_right (Int.gcd_dvd_right l u)
  have e : (l.sign * u).natAbs = u.natAbs := by
    rw [Int.natAbs_mul, Int.natAbs_sign_of_ne_zero h, Nat.one_mul]
  rw [Int.natAbs_ediv_of_dvd d1, e]
  exact Nat.div_le_self _ _
theorem divInt_den_le {u l : Int} (h : l ≠ 0) : (Rat.divInt u l).den ≤ l.natAbs := by
  rw [Rat.den_divInt, if_neg h]
  exact Nat.div_le_self _ _
theorem Bd.divInt {u l : Int} {n : Nat} (h : l ≠ 0) (hu : u.natAbs < 2 ^ n) (hl : l.natAbs < 2 ^ n) : Bd (Rat.divInt u l) n :=
  ⟨Nat.lt_of_le_of_lt (divInt_num_le h) hu, Nat.lt_of_le_of_lt (divInt_den_le h) hl⟩
theorem mul_lt_pow {a b : Int} {m n : Nat} (ha : a.natAbs < 2 ^ m) (hb : b.natAbs < 2 ^ n) : (a * b).natAbs < 2 ^ (m + n) := by
  rw [Int.natAbs_mul, Nat.pow_add]
  exact Nat.mul_lt_mul'' ha hb
theorem add_lt_pow {a b : Int} {n : Nat} (ha : a.natAbs < 2 ^ n) (hb : b.natAbs < 2 ^ n) : (a + b).natAbs < 2 ^ (n + 1) := by
  have := Int.natAbs_add_le a b
  rw [Nat.pow_succ]
  omega
theorem sub_lt_pow {a b : Int} {n : Nat} (ha : a.natAbs < 2 ^ n) (hb : b.natAbs < 2 ^ n) : (a - b).natAbs < 2 ^ (n + 1) := by
  have := Int.natAbs_sub_le a b
  rw [Nat.pow_succ]
  omega
theorem lt_pow_le {a : Nat} {m n : Nat} (h : a < 2 ^ m) (i : m ≤ n) : a < 2 ^ n := Nat.lt_of_lt_of_le h (Nat.pow_le_pow_right (by decide) i)
theorem Bd.den' {q : Rat} {n : Nat} (h : Bd q n) : (q.den : Int).natAbs < 2 ^ n := by
  rw [Int.natAbs_natCast]; exact h.2
theorem den_ne {q : Rat} : (q.den : Int) ≠ 0 := by
  have := q.den_nz
  omega
theorem mul_divInt (p q : Rat) : Rat.divInt (p.num * q.num) (p.den * q.den) = p * q := by
  rw [← Rat.divInt_mul_divInt, Rat.num_divInt_den, Rat.num_divInt_den]
theorem add_divInt (p q : Rat) : Rat.divInt (p.num * q.den + q.num * p.den) (p.den * q.den) = p + q := by
  rw [← Rat.divInt_add_divInt _ _ den_ne den_ne, Rat.num_divInt_den, Rat.num_divInt_den]
theorem den_mul_ne {p q : Rat} : (p.den : Int) * (q.den : Int) ≠ 0 := Int.mul_ne_zero den_ne den_ne
theorem Bd.mul {p q : Rat} {m n : Nat} (hp : Bd p m) (hq : Bd q n) : Bd (p * q) (m + n) := by
  rw [← mul_divInt]
  exact Bd.divInt den_mul_ne (mul_lt_pow hp.1 hq.1) (mul_lt_pow hp.den' hq.den')
theorem Bd.add {p q : Rat} {m n : Nat} (hp : Bd p m) (hq : Bd q n) : Bd (p + q) (m + n + 1) := by
  rw [← add_divInt]
  refine Bd.divInt den_mul_ne (add_lt_pow (mul_lt_pow hp.1 hq.den') ?_) (lt_pow_le (mul_lt_pow hp.den' hq.den') (by omega))
  have := mul_lt_pow hq.1 hp.den'
  rw [Nat.add_comm] at this
  exact this
theorem Bd.neg {p : Rat} {m : Nat} (hp : Bd p m) : Bd (-p) m := by
  refine ⟨?_, ?_⟩
  · rw [Rat.neg_num, Int.natAbs_neg]; exact hp.1
  · rw [Rat.neg_den]; exact hp.2
theorem Bd.int {z : Int} {m : Nat} (h : z.natAbs < 2 ^ m) (h0 : 0 < m) : Bd (z : Rat) m := by
  refine ⟨?_, ?_⟩
  · rw [Rat.num_intCast]; exact h
  · rw [Rat.den_intCast]; exact Nat.one_lt_two_pow (by omega)
theorem Bd.inv {p : Rat} {m : Nat} (hp : Bd p m) (h0 : p ≠ 0) : Bd p⁻¹ m := by
  have hn : p.num ≠ 0 := fun e => h0 (Rat.num_eq_zero.mp e)
  rw [Rat.inv_def]
  exact Bd.divInt hn hp.den' hp.1
theorem Bd.div {p q : Rat} {m n : Nat} (hp : Bd p m) (hq : Bd q n) (h0 : q ≠ 0) : Bd (p / q) (m + n) := by
  rw [Rat.div_def]
  exact hp.mul (hq.inv h0)
theorem div_divInt {p q : Rat} : Rat.divInt (p.num * q.den) (p.den * q.num) = p / q := by
  rw [Rat.div_def, Rat.inv_def, ← Rat.divInt_mul_divInt, Rat.num_divInt_den]
theorem times_divInt {z : Int} {q : Rat} : Rat.divInt (z * q.num) q.den = (z : Rat) * q := by
  have := mul_divInt (z : Rat) q
  rw [Rat.num_intCast, Rat.den_intCast] at this
  simpa using this
theorem fr_int (z : Int) : (D.tup [.int z, .int 1]) = frD (z : Rat) := by
  unfold frD
  rw [Rat.num_intCast, Rat.den_intCast]
  rfl
theorem fr_neg (q : Rat) : (D.tup [.int (0 - q.num), .int q.den]) = frD (-q) := by
  unfold frD
  rw [Rat.neg_num, Rat.neg_den, Int.zero_sub]
theorem ok_fr (q : Rat) : (frD q).ok = true := rfl
theorem eqD_fr (p q : Rat) : eqD (frD p) (frD q) = decide (p = q) := by
  have e : eqD (frD p) (frD q) = ((p.num == q.num) && ((p.den : Int) == (q.den : Int))) := by
    unfold eqD frD
    simp [D.py, D.pys, PyData.eqv, PyData.eqvAll]
  rw [e]
  by_cases h : p = q
  · subst h; simp
  · have : ¬ (p.num = q.num ∧ (p.den : Int) = (q.den : Int)) := fun ⟨a, b⟩ => h (Rat.ext a (by omega))
    simp only [h, decide_false]
    rw [Bool.and_eq_false_iff]
    by_cases e : p.num = q.num
    · exact .inr (by simpa using fun z => this ⟨e, by omega⟩)
    · exact .inl (by simpa using e)
theorem ixV_fr0 {q : Rat} {z : D} : ixV (frD q) 0 z ↔ z = .int q.num := by
  show atI [D.int q.num, D.int q.den] 0 = some z ↔ _
  rw [atI_0]
  constructor
  · intro h; cases h; rfl
  · rintro rfl; rfl
theorem ixV_fr1 {q : Rat} {z : D} : ixV (frD q) 1 z ↔ z = .int q.den := by
  show atI [D.int q.num, D.int q.den] 1 = some z ↔ _
  rw [atI_1]
  constructor
  · intro h; cases h; rfl
  · rintro rfl; rfl
end DL

namespace DL
open PySem L2
variable [Tb]
/-! ### points, curves; what the laws draw -/
def ptD (x y : Rat) : D := .tup [frD x, frD y]
def crD (a b c : Int) : D := .tup [.int a, .int b, .int c]
theorem ixV_pt0 {x y : Rat} {z : D} : ixV (ptD x y) 0 z ↔ z = frD x := by
  show atI [frD x, frD y] 0 = some z ↔ _
  rw [atI_0]
  constructor
  · intro h; cases h; rfl
  · rintro rfl; rfl
theorem ixV_pt1 {x y : Rat} {z : D} : ixV (ptD x y) 1 z ↔ z = frD y := by
  show atI [frD x, frD y] 1 = some z ↔ _
  rw [atI_1]
  constructor
  · intro h; cases h; rfl
  · rintro rfl; rfl
theorem ptD_inj {x y u v : Rat} : ptD x y = ptD u v ↔ x = u ∧ y = v := by
  unfold ptD
  simp only [D.tup.injEq, List.cons.injEq, frD_inj, and_true]
theorem crD_inj {a b c d e f : Int} : crD a b c = crD d e f ↔ a = d ∧ b = e ∧ c = f := by
  unfold crD
  simp only [D.tup.injEq, List.cons.injEq, D.int.injEq, and_true]
/-- the least common lower number -/
def low (x y : Rat) : Int := (x.den * y.den : Int) / (Int.gcd x.den y.den : Int)
theorem low_dvd_left (x y : Rat) : (x.den : Int) ∣ low x y := by
  unfold low
  rw [Int.mul_ediv_assoc _ (Int.gcd_dvd_right _ _)]
  exact Int.dvd_mul_right _ _
theorem low_dvd_right (x y : Rat) : (y.den : Int) ∣ low x y := by
  unfold low
  rw [Int.mul_comm, Int.mul_ediv_assoc _ (Int.gcd_dvd_left _ _)]
  exact Int.dvd_mul_right _ _
def forOne (x y : Rat) : D := .tup [.int (low x y), .int (x.num * (low x y / x.den)), .int (y.num * (low x y / y.den))]
def up (x y : Rat) : Int := x.num * (low x y / x.den)
def up2 (x y : Rat) : Int := y.num * (low x y / y.den)
def sizeQ (x y : Rat) : Int := max (max ((low x y).natAbs : Int) ((up x y).natAbs : Int)) ((up2 x y).natAbs : Int)
theorem den_pos {q : Rat} : (0 : Int) < q.den := by
  have := q.den_nz
  omega
theorem low_pos (x y : Rat) : 0 < low x y := by
  unfold low
  have h1 : (0 : Int) < x.den * y.den := Int.mul_pos den_pos den_pos
  have h2 : ((Int.gcd x.den y.den : Int)) ∣ (x.den * y.den : Int) := Int.dvd_trans (Int.gcd_dvd_left _ _) (Int.dvd_mul_right _ _)
  have h3 : 0 < (Int.gcd (x.den : Int) y.den : Int) := by
    have := gcd_pos (u := (x.den : Int)) (l := (y.den : Int)) den_ne
    omega
  obtain ⟨k, hk⟩ := h2
  rw [hk, Int.mul_ediv_cancel_left _ (by omega)]
  rw [hk] at h1
  exact Int.pos_of_mul_pos_right h1 (by omega)
theorem low_lt {x y : Rat} {m n : Nat} (hx : Bd x m) (hy : Bd y n) : (low x y).natAbs < 2 ^ (m + n) := by
  have h := mul_lt_pow hx.den' hy.den'
  unfold low
  have h2 : ((Int.gcd x.den y.den : Int)) ∣ (x.den * y.den : Int) := Int.dvd_trans (Int.gcd_dvd_left _ _) (Int.dvd_mul_right _ _)
  rw [Int.natAbs_ediv_of_dvd h2]
  exact Nat.lt_of_le_of_lt (Nat.div_le_self _ _) h
/-- the cells of the script, and what is mixed of them -/
def cellOf (ns : List Int) (k : Nat) : Int := ns.getD k 0
def mixOf (c p m : Int) : Int := (c * 48271 % p) * (c * 48271 % p + 7) % p % m
theorem mixOf_nonneg {c p m : Int} (h : 0 < m) : 0 ≤ mixOf c p m := Int.emod_nonneg _ (by omega)
theorem mixOf_lt {c p m : Int} (h : 0 < m) : mixOf c p m < m := Int.emod_lt_of_pos _ h
def numOf (c m : Int) : Int := if mixOf c 9949 (2 * m) - m < 0 then mixOf c 9949 (2 * m) - m else mixOf c 9949 (2 * m) - m + 1
theorem numOf_ne {c m : Int} (h : 0 < m) : numOf c m ≠ 0 := by
  unfold numOf
  split <;> omega
theorem numOf_abs {c m : Int} (h : 0 < m) : (numOf c m).natAbs ≤ m.natAbs := by
  have h1 := mixOf_nonneg (c := c) (p := 9949) (m := 2 * m) (by omega)
  have h2 := mixOf_lt (c := c) (p := 9949) (m := 2 * m) (by omega)
  unfold numOf
  split <;> omega
/-- the drawn curve -/
structure Crv where
  a : Int
  b : Int
  c : Int
def Crv.ok (r : Crv) : Prop := r.a ≠ 0 ∧ r.b ≠ 0 ∧ r.c ≠ 0 ∧ r.a.natAbs ≤ 30 ∧ r.b.natAbs ≤ 30 ∧ r.c.natAbs ≤ 30
def curveOf (t : Int) : Crv :=
  if 0 < mixOf t 9941 3 then
    let a := numOf t 5
    let b := numOf (t + 3) 5
    let x := mixOf t 9931 3
    let y := mixOf t 9929 3
    let c := a * x * x + b * y * y
    ⟨a, b, if c = 0 ∨ (30 : Int) < c.natAbs then a else c⟩
  else ⟨numOf t 30, numOf (t + 3) 30, numOf (t + 5) 30⟩
theorem curveOf_ok (t : Int) : (curveOf t).ok := by
  unfold curveOf Crv.ok
  have a1 := numOf_ne (c := t) (m := 5) (by decide)
  have a2 := numOf_abs (c := t) (m := 5) (by decide)
  have b1 := numOf_ne (c := t + 3) (m := 5) (by decide)
  have b2 := numOf_abs (c := t + 3) (m := 5) (by decide)
  have c1 := numOf_ne (c := t) (m := 30) (by decide)
  have c2 := numOf_abs (c := t) (m := 30) (by decide)
  have d1 := numOf_ne (c := t + 3) (m := 30) (by decide)
  have d2 := numOf_abs (c := t + 3) (m := 30) (by decide)
  have e1 := numOf_ne (c := t + 5) (m := 30) (by decide)
  have e2 := numOf_abs (c := t + 5) (m := 30) (by decide)
  split
  · dsimp only
    refine ⟨a1, b1, ?_, by omega, by omega, ?_⟩
    · split <;> omega
    · split <;> omega
  · dsimp only
    exact ⟨c1, d1, e1, by omega, by omega, by omega⟩
def Crv.d (r : Crv) : D := crD r.a r.b r.c
end DL

namespace DL
open PySem L2
variable [Tb]
theorem num_eq (x : Rat) : (x.num : Rat) = x * ((x.den : Int) : Rat) := by
  have h : ((x.den : Int) : Rat) ≠ 0 := by
    intro e
    have := Rat.intCast_inj.mp (e.trans Rat.intCast_zero.symm)
    exact den_ne this
  have e : x = (x.num : Rat) / ((x.den : Int) : Rat) := by
    rw [← Rat.divInt_eq_div, Rat.num_divInt_den]
  have e2 : (x.num : Rat) / ((x.den : Int) : Rat) * ((x.den : Int) : Rat) = x * ((x.den : Int) : Rat) := by rw [← e]
  rw [Rat.div_mul_cancel h] at e2
  exact e2
theorem den_ne_q (x : Rat) : ((x.den : Int) : Rat) ≠ 0 := by
  intro e
  have := Rat.intCast_inj.mp (e.trans Rat.intCast_zero.symm)
  exact den_ne this
theorem on_iff (a b c : Int) (x y : Rat) : (a * x.num * x.num * y.den * y.den + b * y.num * y.num * x.den * x.den = c * x.den * x.den * y.den * y.den) ↔ (a : Rat) * (x * x) + b * (y * y) = c := by
  have h1 := num_eq x
  have h2 := num_eq y
  have d1 := den_ne_q x
  have d2 := den_ne_q y
  rw [← Rat.intCast_inj]
  simp only [Rat.intCast_add, Rat.intCast_mul]
  rw [h1, h2]
  generalize ((x.den : Int) : Rat) = p at *
  generalize ((y.den : Int) : Rat) = q at *
  generalize (a : Rat) = a' at *
  generalize (b : Rat) = b' at *
  generalize (c : Rat) = c' at *
  constructor
  · intro h
    have : (p * p * q * q) * (a' * (x * x) + b' * (y * y) - c') = 0 := by grind
    rcases Rat.mul_eq_zero.mp this with h | h
    · grind
    · grind
  · intro h
    grind
end DL

namespace DL
open PySem L2
variable [Tb]
/-! ### rings -/
def togX (d : Int) (x y u v : Rat) : Rat := x * u + ((0 - d : Int) : Rat) * (y * v)
def togY (d : Int) (x y u v : Rat) : Rat := x * v + u * y
/-- a common lower number, and the size of all three -/
def Cd (x y : Rat) (n : Nat) : Prop := ∃ X Y W : Int, W ≠ 0 ∧ x = Rat.divInt X W ∧ y = Rat.divInt Y W ∧ X.natAbs < 2 ^ n ∧ Y.natAbs < 2 ^ n ∧ W.natAbs < 2 ^ n
theorem Cd.x {x y : Rat} {n : Nat} (h : Cd x y n) : Bd x n := by
  obtain ⟨X, Y, W, h0, rfl, rfl, h1, h2, h3⟩ := h
  exact Bd.divInt h0 h1 h3
theorem Cd.y {x y : Rat} {n : Nat} (h : Cd x y n) : Bd y n := by
  obtain ⟨X, Y, W, h0, rfl, rfl, h1, h2, h3⟩ := h
  exact Bd.divInt h0 h2 h3
theorem Cd.le {x y : Rat} {m n : Nat} (h : Cd x y m) (i : m ≤ n) : Cd x y n := by
  obtain ⟨X, Y, W, h0, e1, e2, h1, h2, h3⟩ := h
  exact ⟨X, Y, W, h0, e1, e2, lt_pow_le h1 i, lt_pow_le h2 i, lt_pow_le h3 i⟩
theorem Cd.one {n : Nat} (h : 0 < n) : Cd 1 0 n := by
  have z : 1 < 2 ^ n := Nat.one_lt_two_pow (by omega)
  refine ⟨1, 0, 1, by decide, by decide +kernel, by decide +kernel, z, by simp; omega, z⟩
theorem Cd.neg {x y : Rat} {n : Nat} (h : Cd x y n) : Cd x (-y) n := by
  obtain ⟨X, Y, W, h0, e1, e2, h1, h2, h3⟩ := h
  exact ⟨X, -Y, W, h0, e1, by rw [e2, Rat.neg_divInt], h1, by rw [Int.natAbs_neg]; exact h2, h3⟩
theorem wz {W V : Int} (hW : W ≠ 0) (hV : V ≠ 0) : W * V ≠ 0 := Int.mul_ne_zero hW hV
theorem Cd.tog {d : Int} {x y u v : Rat} {m n b : Nat} (h : Cd x y m) (k : Cd u v n) (hd : d.natAbs < 2 ^ b) : Cd (togX d x y u v) (togY d x y u v) (m + n + b + 1) := by
  obtain ⟨X, Y, W, hW, rfl, rfl, h1, h2, h3⟩ := h
  obtain ⟨U, V, Z, hZ, rfl, rfl, k1, k2, k3⟩ := k
  have e1 : Rat.divInt X W * Rat.divInt U Z = Rat.divInt (X * U) (W * Z) := Rat.divInt_mul_divInt _ _
  have e2 : Rat.divInt Y W * Rat.divInt V Z = Rat.divInt (Y * V) (W * Z) := Rat.divInt_mul_divInt _ _
  have e3 : Rat.divInt X W * Rat.divInt V Z = Rat.divInt (X * V) (W * Z) := Rat.divInt_mul_divInt _ _
  have e4 : Rat.divInt U Z * Rat.divInt Y W = Rat.divInt (U * Y) (W * Z) := by rw [Rat.divInt_mul_divInt, Int.mul_comm Z W]
  have e5 : ((0 - d : Int) : Rat) * Rat.divInt (Y * V) (W * Z) = Rat.divInt ((0 - d) * (Y * V)) (W * Z) := by
    have := Rat.divInt_mul_divInt (0 - d) (Y * V) (d₁ := 1) (d₂ := W * Z)
    rw [Int.one_mul] at this
    rw [← this, ← Rat.num_divInt_den (((0 - d : Int)) : Rat), Rat.num_intCast, Rat.den_intCast]
    rfl
  have add : ∀ A B : Int, Rat.divInt A (W * Z) + Rat.divInt B (W * Z) = Rat.divInt (A + B) (W * Z) := fun A B => by
    rw [Rat.divInt_add_divInt _ _ (wz hW hZ) (wz hW hZ), ← Int.add_mul, Rat.divInt_mul_right (wz hW hZ)]
  refine ⟨X * U + (0 - d) * (Y * V), X * V + U * Y, W * Z, wz hW hZ, ?_, ?_, ?_, ?_, ?_⟩
  · unfold togX; rw [e1, e2, e5, add]
  · unfold togY; rw [e3, e4, add]
  · refine add_lt_pow (lt_pow_le (mul_lt_pow h1 k1) (by omega)) ?_
    have q := mul_lt_pow (a := 0 - d) (b := Y * V) (m := b) (n := m + n) (by omega) (mul_lt_pow h2 k2)
    rw [Nat.add_comm] at q
    exact q
  · refine lt_pow_le (add_lt_pow (mul_lt_pow h1 k2) ?_) (by omega)
    have q := mul_lt_pow k1 h2
    rw [Nat.add_comm] at q
    exact q
  · exact lt_pow_le (mul_lt_pow h3 k3) (by omega)
/-- so often together -/
def oft (d : Int) (x y : Rat) : Nat → Rat × Rat
  | 0 => (1, 0)
  | n + 1 => (togX d (oft d x y n).1 (oft d x y n).2 x y, togY d (oft d x y n).1 (oft d x y n).2 x y)
theorem oft_cd {d : Int} {x y : Rat} {m b : Nat} (h : Cd x y m) (hm : 0 < m) (hd : d.natAbs < 2 ^ b) : ∀ n, Cd (oft d x y n).1 (oft d x y n).2 ((n + 1) * (m + b + 1))
  | 0 => Cd.one (by omega)
  | n + 1 => by
    refine ((oft_cd h hm hd n).tog h hd).le ?_
    rw [Nat.add_mul (n + 1) 1]
    omega
def oftI (d : Int) (x y : Rat) (k : Int) : Rat × Rat := if k < 0 then ((oft d x y k.natAbs).1, -(oft d x y k.natAbs).2) else oft d x y k.natAbs
def turnsD (d : Int) (x y : Rat) : Option Nat := (List.range 12).find? fun i => decide (oft d x y (i + 1) = (1, 0))
def optD : Option Nat → D
  | some i => .int (i + 1)
  | none => .non
def onR (d : Int) (x y : Rat) : Prop := x * x + (d : Rat) * (y * y) = 1
theorem onR.tog {d : Int} {x y u v : Rat} (h : onR d x y) (k : onR d u v) : onR d (togX d x y u v) (togY d x y u v) := by
  unfold onR togX togY at *
  rw [Rat.intCast_sub]
  generalize (d : Rat) = e at *
  have z : ((0 : Int) : Rat) = 0 := Rat.intCast_zero
  rw [z]
  grind
end DL
namespace DL
open PySem L2
variable [Tb]
theorem eqD_pt (x y u v : Rat) : eqD (ptD x y) (ptD u v) = (decide (x = u) && decide (y = v)) := by
  have h : eqD (ptD x y) (ptD u v) = (eqD (frD x) (frD u) && (eqD (frD y) (frD v) && true)) := by
    unfold eqD ptD
    simp [D.py, D.pys, PyData.eqv, PyData.eqvAll]
  rw [h, eqD_fr, eqD_fr, Bool.and_true]
theorem ok_pt (x y : Rat) : (ptD x y).ok = true := rfl
end DL
namespace DL
open PySem L2
variable [Tb]
theorem divInt_eq {A L : Int} {q : Rat} (hL : L ≠ 0) (h : (A : Rat) = q * (L : Rat)) : Rat.divInt A L = q := by
  have hL' : (L : Rat) ≠ 0 := fun e => hL (Rat.intCast_inj.mp (e.trans Rat.intCast_zero.symm))
  rw [Rat.divInt_eq_div, h, Rat.mul_div_cancel hL']
theorem togX_div (d : Int) (x y u v : Rat) : Rat.divInt (x.num * u.num * y.den * v.den - d * y.num * v.num * x.den * u.den) (x.den * u.den * y.den * v.den) = togX d x y u v := by
  refine divInt_eq (Int.mul_ne_zero (Int.mul_ne_zero (Int.mul_ne_zero den_ne den_ne) den_ne) den_ne) ?_
  unfold togX
  simp only [Rat.intCast_mul, Rat.intCast_sub]
  rw [num_eq x, num_eq y, num_eq u, num_eq v, Rat.intCast_zero]
  grind
theorem togY_div (d : Int) (x y u v : Rat) : Rat.divInt (x.num * v.num * y.den * u.den + u.num * y.num * x.den * v.den) (x.den * v.den * y.den * u.den) = togY d x y u v := by
  refine divInt_eq (Int.mul_ne_zero (Int.mul_ne_zero (Int.mul_ne_zero den_ne den_ne) den_ne) den_ne) ?_
  unfold togY
  simp only [Rat.intCast_mul, Rat.intCast_add]
  rw [num_eq x, num_eq y, num_eq u, num_eq v]
  grind
theorem ring_pt {d m n : Int} (h : n * n + d * m * m ≠ 0) : onR d (Rat.divInt (n * n - d * m * m) (n * n + d * m * m)) (Rat.divInt (2 * m * n) (n * n + d * m * m)) := by
  have hL' : ((n * n + d * m * m : Int) : Rat) ≠ 0 := fun e => h (Rat.intCast_inj.mp (e.trans Rat.intCast_zero.symm))
  unfold onR
  rw [Rat.divInt_eq_div, Rat.divInt_eq_div]
  simp only [Rat.intCast_mul, Rat.intCast_sub, Rat.intCast_add] at hL' ⊢
  have e2 : ((2 : Int) : Rat) = 2 := rfl
  rw [e2]
  generalize (d : Rat) = a at *
  generalize (m : Rat) = b at *
  generalize (n : Rat) = c at *
  grind
/-- a fraction written by a positive divisor -/
theorem fr_pos {u l : Int} (h : 0 < l) : (D.tup [.int (u / (Int.gcd u l : Int)), .int (l / (Int.gcd u l : Int))]) = frD (Rat.divInt u l) := by
  have e1 := fr_num (u := u) (l := l) (by omega)
  have e2 := fr_den (u := u) (l := l) (by omega)
  unfold byOf at e1 e2
  rw [if_neg (by omega), Int.fdiv_eq_ediv_of_nonneg _ (by omega)] at e1 e2
  rw [e1, e2]
  rfl
theorem fr_any {u l : Int} (h : l ≠ 0) : (D.tup [.int (u.fdiv (byOf u l)), .int (l.fdiv (byOf u l))]) = frD (Rat.divInt u l) := by
  rw [fr_num h, fr_den h]
  rfl
theorem gcd_lt {u l : Int} {n : Nat} (h : l ≠ 0) (hl : l.natAbs < 2 ^ n) : (Int.gcd u l : Int).natAbs < 2 ^ n := by
  rw [Int.natAbs_natCast]
  exact Nat.lt_of_le_of_lt (Nat.le_of_dvd (by omega) (Int.gcd_dvd_natAbs_right u l)) hl
theorem gcd_posI {u l : Int} (h : l ≠ 0) : (0 : Int) < (Int.gcd u l : Int) := by
  have := gcd_pos (u := u) h
  omega
end DL
namespace DL
open PySem L2
variable [Tb]
theorem two_get {α : Type} {a b x : α} {i : Nat} (h : [a, b][i]? = some x) : (i = 0 ∧ x = a) ∨ (i = 1 ∧ x = b) := by
  match i, h with
  | 0, h => cases h; exact .inl ⟨rfl, rfl⟩
  | 1, h => cases h; exact .inr ⟨rfl, rfl⟩
theorem take2_0 {α : Type} (a b : α) : [a, b].take 0 = [] := rfl
theorem take2_1 {α : Type} (a b : α) : [a, b].take 1 = [a] := rfl
theorem take2_2 {α : Type} (a b : α) : [a, b].take 2 = [a, b] := rfl
end DL
namespace DL
open PySem L2
variable [Tb]
def homeP (d : Int) (x y : Rat) : D → Bool
  | .int n => decide (oft d x y n.toNat = (1, 0))
  | _ => false
theorem home_first (d : Int) (x y : Rat) : ∃ t, ((rng 1 13).filter (homeP d x y)).map id ++ [D.non] = optD (turnsD d x y) :: t := by
  have h : ((rng 1 13).filter (homeP d x y)).map id = ((List.range 12).filter fun i => decide (oft d x y (i + 1) = (1, 0))).map fun (i : Nat) => D.int (i + 1) := by
    unfold rng
    rw [List.filter_map, List.map_id, show (13 - 1 : Int).toNat = 12 from rfl]
    have e1 : (fun (i : Nat) => D.int (1 + (i : Int))) = fun (i : Nat) => D.int (i + 1) := funext fun i => by rw [Int.add_comm]
    have e2 : (homeP d x y ∘ fun (i : Nat) => D.int ((i : Int) + 1)) = fun (i : Nat) => decide (oft d x y (i + 1) = (1, 0)) := funext fun i => by
      show decide (oft d x y ((i : Int) + 1).toNat = (1, 0)) = _
      rw [show ((i : Int) + 1).toNat = i + 1 by omega]
    rw [e1, e2]
  rw [h]
  have hf : turnsD d x y = ((List.range 12).filter fun i => decide (oft d x y (i + 1) = (1, 0))).head? := by
    rw [List.head?_filter]
    rfl
  rw [hf]
  generalize List.filter _ _ = l
  cases l with
  | nil => exact ⟨[], rfl⟩
  | cons a l => exact ⟨_, rfl⟩
end DL

namespace DL
open PySem L2
variable [Tb]
/-! ### a number without squares -/
def rmvF : Nat → Int → Int → Int
  | 0, _, n => n
  | f + 1, b, n => if n % (b * b) = 0 then rmvF f b (n / (b * b)) else n
def rmv (b n : Int) : Int := rmvF n.natAbs b n
theorem sq_ge {b : Int} (hb : 2 ≤ b) : 4 ≤ b * b := by
  have := Int.mul_le_mul hb hb (by decide) (by omega)
  omega
theorem div_sq {b n : Int} (hb : 2 ≤ b) (hn : n ≠ 0) (h : n % (b * b) = 0) : (n / (b * b)) ≠ 0 ∧ (n / (b * b)).natAbs < n.natAbs := by
  have h4 := sq_ge hb
  generalize b * b = q at *
  obtain ⟨k, hk⟩ := Int.dvd_of_emod_eq_zero h
  subst hk
  rw [Int.mul_ediv_cancel_left _ (by omega)]
  have k0 : k ≠ 0 := fun e => hn (by rw [e, Int.mul_zero])
  refine ⟨k0, ?_⟩
  rw [Int.natAbs_mul]
  have : 4 ≤ q.natAbs := by omega
  have := Nat.mul_le_mul_right k.natAbs this
  omega
theorem rmvF_fuel {b : Int} (hb : 2 ≤ b) : ∀ (f g : Nat) (n : Int), n ≠ 0 → n.natAbs ≤ f → n.natAbs ≤ g → rmvF f b n = rmvF g b n
  | 0, _, n, hn, hf, _ => absurd hn (by omega)
  | _ + 1, 0, n, hn, _, hg => absurd hn (by omega)
  | f + 1, g + 1, n, hn, hf, hg => by
    unfold rmvF
    split
    · rename_i h
      have := div_sq hb hn h
      exact rmvF_fuel hb f g _ this.1 (by omega) (by omega)
    · rfl
theorem rmv_step {b n : Int} (hb : 2 ≤ b) (hn : n ≠ 0) (h : n % (b * b) = 0) : rmv b (n / (b * b)) = rmv b n := by
  have := div_sq hb hn h
  have e : rmv b n = rmvF (n.natAbs + 1) b n := rmvF_fuel hb _ _ n hn (Nat.le_refl _) (Nat.le_succ _)
  rw [e]
  show _ = if n % (b * b) = 0 then rmvF n.natAbs b (n / (b * b)) else n
  rw [if_pos h]
  exact rmvF_fuel hb _ _ _ this.1 (Nat.le_refl _) (by omega)
theorem rmv_done {b n : Int} (h : n % (b * b) ≠ 0) : rmv b n = n := by
  unfold rmv
  cases e : n.natAbs with
  | zero => rfl
  | succ k =>
    show (if n % (b * b) = 0 then _ else n) = n
    rw [if_neg h]
theorem rmvF_ne {b : Int} (hb : 2 ≤ b) : ∀ (f : Nat) (n : Int), n ≠ 0 → rmvF f b n ≠ 0 ∧ (rmvF f b n).natAbs ≤ n.natAbs
  | 0, n, hn => ⟨hn, Nat.le_refl _⟩
  | f + 1, n, hn => by
    unfold rmvF
    split
    · rename_i h
      have h1 := div_sq hb hn h
      have h2 := rmvF_ne hb f _ h1.1
      exact ⟨h2.1, by omega⟩
    · exact ⟨hn, Nat.le_refl _⟩
theorem rmv_ne {b n : Int} (hb : 2 ≤ b) (hn : n ≠ 0) : rmv b n ≠ 0 ∧ (rmv b n).natAbs ≤ n.natAbs := rmvF_ne hb _ n hn
def brl (n : Int) : Nat → Int
  | 0 => n
  | j + 1 => rmv (j + 2) (brl n j)
theorem brl_ne {n : Int} (hn : n ≠ 0) : ∀ j, brl n j ≠ 0 ∧ (brl n j).natAbs ≤ n.natAbs
  | 0 => ⟨hn, Nat.le_refl _⟩
  | j + 1 => by
    have h1 := brl_ne hn j
    have h2 := rmv_ne (b := (j : Int) + 2) (by omega) h1.1
    exact ⟨h2.1, by exact Nat.le_trans h2.2 h1.2⟩
theorem mod_ne {m q : Int} (hm : m ≠ 0) (h : m.natAbs < q.natAbs) : m % q ≠ 0 := by
  intro e
  have d := Int.natAbs_dvd_natAbs.mpr (Int.dvd_of_emod_eq_zero e)
  have := Nat.le_of_dvd (by omega) d
  omega
theorem sq_lt {j : Nat} {m : Nat} (h : m < (j + 2) * (j + 2)) (k : Nat) (hk : j ≤ k) : m < (k + 2) * (k + 2) :=
  Nat.lt_of_lt_of_le h (Nat.mul_le_mul (by omega) (by omega))
theorem brl_stable {n : Int} (hn : n ≠ 0) {j : Nat} (h : (brl n j).natAbs < (j + 2) * (j + 2)) : ∀ k, brl n (j + k) = brl n j
  | 0 => rfl
  | k + 1 => by
    show rmv ((j + k : Nat) + 2) (brl n (j + k)) = brl n j
    rw [brl_stable hn h k]
    refine rmv_done (mod_ne (brl_ne hn j).1 ?_)
    rw [Int.natAbs_mul]
    exact sq_lt h (j + k) (by omega)
def bareQ (n : Int) : Int := brl n n.natAbs
theorem bareQ_eq {n : Int} (hn : n ≠ 0) {j : Nat} (h : (brl n j).natAbs < (j + 2) * (j + 2)) : brl n j = bareQ n := by
  have h2 : (brl n n.natAbs).natAbs < (n.natAbs + 2) * (n.natAbs + 2) := by
    have := (brl_ne hn n.natAbs).2
    have := Nat.mul_le_mul (show 1 ≤ n.natAbs + 2 by omega) (show n.natAbs + 2 ≤ n.natAbs + 2 by omega)
    omega
  unfold bareQ
  by_cases e : j ≤ n.natAbs
  · obtain ⟨k, hk⟩ := Nat.exists_eq_add_of_le e
    rw [hk, brl_stable hn h k]
  · obtain ⟨k, rfl⟩ := Nat.exists_eq_add_of_le (show n.natAbs ≤ j by omega)
    rw [brl_stable hn h2 k]
theorem bareQ_law {n : Int} (hn : n ≠ 0) : brl n (n.natAbs - 1) = bareQ n := by
  refine bareQ_eq hn ?_
  have := (brl_ne hn (n.natAbs - 1)).2
  have := Nat.mul_le_mul (show 1 ≤ n.natAbs - 1 + 2 by omega) (show n.natAbs - 1 + 2 ≤ n.natAbs - 1 + 2 by omega)
  omega
theorem bareQ_ne {n : Int} (hn : n ≠ 0) : bareQ n ≠ 0 ∧ (bareQ n).natAbs ≤ n.natAbs := brl_ne hn _
end DL

namespace DL
open PySem L2
variable [Tb]
/-! ### primes -/
def isP (k : Int) : Prop := 2 ≤ k ∧ ∀ d : Int, 2 ≤ d → d < k → ¬ d ∣ k
theorem isP.dvd {k d : Int} (h : isP k) (hd : 2 ≤ d) (e : d ∣ k) : d = k := by
  have h1 := Int.le_of_dvd (by have := h.1; omega) e
  by_cases h2 : d < k
  · exact absurd e (h.2 d hd h2)
  · omega
theorem isP.euclid {k a b : Int} (h : isP k) (e : k ∣ a * b) : k ∣ a ∨ k ∣ b := by
  by_cases ha : k ∣ a
  · exact .inl ha
  · right
    have h2 := h.1
    have g1 : (Int.gcd k a : Int) ∣ k := Int.gcd_dvd_left _ _
    have g2 : (Int.gcd k a : Int) ∣ a := Int.gcd_dvd_right _ _
    have g0 : 0 < Int.gcd k a := Int.gcd_pos_of_ne_zero_left _ (by omega)
    have g : Int.gcd k a = 1 := by
      by_cases h3 : Int.gcd k a = 1
      · exact h3
      · have := h.dvd (d := (Int.gcd k a : Int)) (by omega) g1
        rw [this] at g2
        exact absurd g2 ha
    have e2 : k.natAbs ∣ a.natAbs * b.natAbs := by
      rw [← Int.natAbs_mul]
      exact Int.natAbs_dvd_natAbs.mpr e
    exact Int.natAbs_dvd_natAbs.mp (Nat.Coprime.dvd_of_dvd_mul_left (show Nat.gcd k.natAbs a.natAbs = 1 from g) e2)
theorem isP.of_min {by_ num : Int} (h2 : 2 ≤ by_) (hm : ∀ d : Int, 2 ≤ d → d < by_ → ¬ d ∣ num) (e : by_ ∣ num) : isP by_ :=
  ⟨h2, fun d h3 h4 h5 => hm d h3 h4 (Int.dvd_trans h5 e)⟩
theorem has_prime : ∀ (m : Nat) (p : Int), p.toNat ≤ m → 2 ≤ p → ∃ q, isP q ∧ q ∣ p ∧ q ≤ p
  | 0, p, h, h2 => absurd h (by omega)
  | m + 1, p, h, h2 => by
    by_cases hp : isP p
    · exact ⟨p, hp, Int.dvd_refl p, Int.le_refl p⟩
    · have : ∃ d : Int, 2 ≤ d ∧ d < p ∧ d ∣ p := by
        refine Classical.byContradiction fun hn => hp ⟨h2, fun d h3 h4 h5 => hn ⟨d, h3, h4, h5⟩⟩
      obtain ⟨d, h3, h4, h5⟩ := this
      obtain ⟨q, q1, q2, q3⟩ := has_prime m d (by omega) h3
      exact ⟨q, q1, Int.dvd_trans q2 h5, by omega⟩
/-- the law's own list of primes -/
def prl (n : Int) : Nat → List Int
  | 0 => []
  | j + 1 => if n % ((j : Int) + 2) = 0 ∧ (prl n j).filter (fun q => decide (((j : Int) + 2) % q = 0)) = [] then prl n j ++ [(j : Int) + 2] else prl n j
def primesL (n : Int) : List Int := prl n (n.natAbs - 1)
theorem prl_mem {n : Int} : ∀ (j : Nat) (k : Int), k ∈ prl n j ↔ isP k ∧ k ∣ n ∧ k < (j : Int) + 2
  | 0, k => by
    refine ⟨fun h => (by cases h), fun ⟨h, _, h3⟩ => ?_⟩
    have := h.1
    omega
  | j + 1, k => by
    have ih := prl_mem (n := n) j
    have cond : (n % ((j : Int) + 2) = 0 ∧ (prl n j).filter (fun q => decide (((j : Int) + 2) % q = 0)) = []) ↔ isP ((j : Int) + 2) ∧ ((j : Int) + 2) ∣ n := by
      constructor
      · rintro ⟨h1, h2⟩
        have hd := Int.dvd_of_emod_eq_zero h1
        refine ⟨?_, hd⟩
        obtain ⟨q, q1, q2, q3⟩ := has_prime _ ((j : Int) + 2) (Nat.le_refl _) (by omega)
        by_cases e : q = (j : Int) + 2
        · rw [← e]; exact q1
        · have hq : q ∈ prl n j := (ih q).mpr ⟨q1, Int.dvd_trans q2 hd, by omega⟩
          have : q ∈ (prl n j).filter (fun q => decide (((j : Int) + 2) % q = 0)) := List.mem_filter.mpr ⟨hq, by simpa using Int.emod_eq_zero_of_dvd q2⟩
          rw [h2] at this
          cases this
      · rintro ⟨h1, h2⟩
        refine ⟨Int.emod_eq_zero_of_dvd h2, ?_⟩
        rw [List.filter_eq_nil_iff]
        intro q hq
        obtain ⟨q1, q2, q3⟩ := (ih q).mp hq
        simp only [decide_eq_true_eq]
        intro e
        have := h1.dvd q1.1 (Int.dvd_of_emod_eq_zero e)
        omega
    unfold prl
    by_cases hc : n % ((j : Int) + 2) = 0 ∧ (prl n j).filter (fun q => decide (((j : Int) + 2) % q = 0)) = []
    · have h := cond.mp hc
      rw [if_pos hc]
      rw [List.mem_append, ih k, List.mem_singleton]
      constructor
      · rintro (⟨a, b, c⟩ | rfl)
        · exact ⟨a, b, by omega⟩
        · exact ⟨h.1, h.2, by omega⟩
      · rintro ⟨a, b, c⟩
        by_cases e : k = (j : Int) + 2
        · exact .inr e
        · exact .inl ⟨a, b, by omega⟩
    · have h : ¬ _ := fun z => hc (cond.mpr z)
      rw [if_neg hc]
      rw [ih k]
      constructor
      · rintro ⟨a, b, c⟩
        exact ⟨a, b, by omega⟩
      · rintro ⟨a, b, c⟩
        refine ⟨a, b, ?_⟩
        by_cases e : k = (j : Int) + 2
        · subst e
          exact absurd ⟨a, b⟩ h
        · omega
theorem prl_asc {n : Int} : ∀ j, (prl n j).Pairwise (· < ·)
  | 0 => List.Pairwise.nil
  | j + 1 => by
    unfold prl
    split
    · rw [List.pairwise_append]
      refine ⟨prl_asc j, List.pairwise_singleton _ _, fun a ha b hb => ?_⟩
      rw [List.mem_singleton] at hb
      have := ((prl_mem j a).mp ha).2.2
      omega
    · exact prl_asc j
theorem primesL_mem {n : Int} (hn : n ≠ 0) (k : Int) : k ∈ primesL n ↔ isP k ∧ k ∣ n := by
  unfold primesL
  rw [prl_mem]
  refine ⟨fun h => ⟨h.1, h.2.1⟩, fun h => ⟨h.1, h.2, ?_⟩⟩
  have := h.1.1
  have h2 := Nat.le_of_dvd (by omega) (Int.natAbs_dvd_natAbs.mpr h.2)
  omega
theorem prl_len (n : Int) : ∀ j, (prl n j).length ≤ j
  | 0 => Nat.le_refl _
  | j + 1 => by
    have := prl_len n j
    unfold prl
    split
    · rw [List.length_append, List.length_singleton]
      omega
    · omega
theorem asc_ext : ∀ {l m : List Int}, l.Pairwise (· < ·) → m.Pairwise (· < ·) → (∀ k, k ∈ l ↔ k ∈ m) → l = m
  | [], [], _, _, _ => rfl
  | [], y :: m, _, _, h => absurd ((h y).mpr List.mem_cons_self) (by simp)
  | x :: l, [], _, _, h => absurd ((h x).mp List.mem_cons_self) (by simp)
  | x :: l, y :: m, hl, hm, h => by
    rw [List.pairwise_cons] at hl hm
    have exy : x = y := by
      rcases List.mem_cons.mp ((h x).mp List.mem_cons_self) with e | e
      · exact e
      · rcases List.mem_cons.mp ((h y).mpr List.mem_cons_self) with e2 | e2
        · exact e2.symm
        · have := hm.1 x e
          have := hl.1 y e2
          omega
    subst exy
    have : l = m := asc_ext hl.2 hm.2 fun k => by
      constructor
      · intro hk
        rcases List.mem_cons.mp ((h k).mp (List.mem_cons_of_mem _ hk)) with e | e
        · have := hl.1 k hk
          omega
        · exact e
      · intro hk
        rcases List.mem_cons.mp ((h k).mpr (List.mem_cons_of_mem _ hk)) with e | e
        · have := hm.1 k hk
          omega
        · exact e
    rw [this]
/-- the state of the code's loop -/
structure PrSt (n num by_ : Int) (found : List Int) : Prop where
  one : 1 ≤ num
  two : 2 ≤ by_
  mem : ∀ k, isP k → (k ∣ n ↔ k ∈ found ∨ k ∣ num)
  pr : ∀ k ∈ found, isP k
  min : ∀ d : Int, 2 ≤ d → d < by_ → ¬ d ∣ num
  len : 2 ^ found.length * num ≤ (n.natAbs : Int)
theorem PrSt.start {n : Int} (hn : n ≠ 0) : PrSt n n.natAbs 2 [] where
  one := by omega
  two := by omega
  mem := fun k _ => by simp [Int.dvd_natAbs]
  pr := fun k h => by cases h
  min := fun d h1 h2 => by omega
  len := by simp
theorem PrSt.div {n num by_ : Int} {found : List Int} (h : PrSt n num by_ found) (e : num % by_ = 0) : PrSt n (num / by_) by_ (found ++ [by_]) := by
  have hd := Int.dvd_of_emod_eq_zero e
  have h2 := h.two
  have h1 := h.one
  have hp := isP.of_min h2 h.min hd
  obtain ⟨q, rfl⟩ := hd
  have hq : 1 ≤ q := by
    by_cases hq : 1 ≤ q
    · exact hq
    · have := Int.mul_le_mul_of_nonneg_left (show q ≤ 0 by omega) (show 0 ≤ by_ by omega)
      omega
  rw [Int.mul_ediv_cancel_left _ (by omega)]
  refine ⟨hq, h2, fun k hk => ?_, fun k hk => ?_, fun d h3 h4 h5 => h.min d h3 h4 (Int.dvd_mul_of_dvd_right h5), ?_⟩
  · rw [h.mem k hk, List.mem_append, List.mem_singleton]
    constructor
    · rintro (a | a)
      · exact .inl (.inl a)
      · rcases hk.euclid a with a | a
        · exact .inl (.inr (hp.dvd hk.1 a))
        · exact .inr a
    · rintro ((a | rfl) | a)
      · exact .inl a
      · exact .inr (Int.dvd_mul_right _ _)
      · exact .inr (Int.dvd_mul_of_dvd_right a)
  · rcases List.mem_append.mp hk with hk | hk
    · exact h.pr k hk
    · rw [List.mem_singleton] at hk
      subst hk
      exact hp
  · rw [List.length_append, List.length_singleton, Int.pow_succ]
    refine Int.le_trans ?_ h.len
    rw [Int.mul_assoc]
    refine Int.mul_le_mul_of_nonneg_left ?_ (Int.pow_nonneg (by decide))
    exact Int.mul_le_mul_of_nonneg_right h2 (by omega)
theorem PrSt.next {n num by_ : Int} {found : List Int} (h : PrSt n num by_ found) (e : num % by_ ≠ 0) : PrSt n num (by_ + 1) found where
  one := h.one
  two := by have := h.two; omega
  mem := h.mem
  pr := h.pr
  min := fun d h1 h2 h3 => by
    by_cases hd : d = by_
    · subst hd
      exact e (Int.emod_eq_zero_of_dvd h3)
    · exact h.min d h1 (by omega) h3
  len := h.len
theorem PrSt.last {n num by_ : Int} {found : List Int} (h : PrSt n num by_ found) (e : ¬ by_ * by_ ≤ num) (h1 : 1 < num) : isP num := by
  refine ⟨by omega, fun d h2 h3 h4 => ?_⟩
  have hb := h.two
  obtain ⟨q, hq⟩ := h4
  have hq1 : 2 ≤ q := by
    by_cases h5 : 2 ≤ q
    · exact h5
    · have : d * q ≤ d * 1 := Int.mul_le_mul_of_nonneg_left (by omega) (by omega)
      omega
  have d1 : by_ ≤ d := by
    by_cases h5 : by_ ≤ d
    · exact h5
    · exact absurd ⟨q, hq⟩ (h.min d h2 (by omega))
  have q1 : by_ ≤ q := by
    by_cases h5 : by_ ≤ q
    · exact h5
    · exact absurd ⟨d, by rw [hq, Int.mul_comm]⟩ (h.min q hq1 (by omega))
  have := Int.mul_le_mul d1 q1 (by omega) (by omega)
  omega
theorem PrSt.end {n num by_ : Int} {found : List Int} (hn : n ≠ 0) (h : PrSt n num by_ found) (e : ¬ by_ * by_ ≤ num) {ms : List Int} (ha : ms.Pairwise (· < ·)) (hm : ∀ k, k ∈ ms ↔ k ∈ (if 1 < num then found ++ [num] else found)) : ms = primesL n := by
  refine asc_ext ha (prl_asc _) fun k => ?_
  rw [hm, primesL_mem hn]
  have h1 := h.one
  by_cases hp : 1 < num
  · rw [if_pos hp, List.mem_append, List.mem_singleton]
    have hl := h.last e hp
    constructor
    · rintro (a | rfl)
      · exact ⟨h.pr k a, (h.mem k (h.pr k a)).mpr (.inl a)⟩
      · exact ⟨hl, (h.mem k hl).mpr (.inr (Int.dvd_refl k))⟩
    · rintro ⟨a, b⟩
      rcases (h.mem k a).mp b with c | c
      · exact .inl c
      · exact .inr (hl.dvd a.1 c)
  · rw [if_neg hp]
    have : num = 1 := by omega
    subst this
    constructor
    · intro a
      exact ⟨h.pr k a, (h.mem k (h.pr k a)).mpr (.inl a)⟩
    · rintro ⟨a, b⟩
      rcases (h.mem k a).mp b with c | c
      · exact c
      · have := a.1
        have := Int.le_of_dvd (by decide) c
        omega
theorem PrSt.few {n num by_ : Int} {found : List Int} (h : PrSt n num by_ found) (hn : n.natAbs < 2 ^ 60) : found.length < 60 := by
  refine Classical.byContradiction fun hc => ?_
  have h1 : (2 : Int) ^ 60 ≤ 2 ^ found.length := by
    have := Nat.pow_le_pow_right (n := 2) (by decide) (show 60 ≤ found.length by omega)
    exact_mod_cast this
  have h2 := Int.mul_le_mul h1 h.one (by decide) (Int.pow_nonneg (by decide))
  have := h.len
  omega
end DL
namespace DL
open PySem PySem.W L2
variable [Tb]
theorem pys_ints : ∀ l : List Int, D.pys (l.map D.int) = l.map PyData.int
  | [] => rfl
  | x :: l => by
    show _ :: D.pys (l.map D.int) = _
    rw [pys_ints l]
    rfl
theorem plain_ints : ∀ l : List Int, PyData.plainAll (l.map PyData.int) = true
  | [] => by simp [PyData.plainAll]
  | x :: l => by simp [PyData.plainAll, PyData.plain, plain_ints l]
theorem ok_ints (l : List Int) : (D.lst (l.map D.int)).ok = true := by
  unfold D.ok
  rw [show (D.lst (l.map D.int)).py = .list (l.map PyData.int) by rw [← pys_ints]; rfl]
  simp [PyData.plain, PyData.depth, plain_ints, depth_ints]
theorem ok_intsT (l : List Int) : (D.tup (l.map D.int)).ok = true := by
  unfold D.ok
  rw [show (D.tup (l.map D.int)).py = .tuple (l.map PyData.int) by rw [← pys_ints]; rfl]
  simp [PyData.plain, PyData.depth, plain_ints, depth_ints]
theorem eqD_nil (l : List D) : eqD (.lst l) (.lst []) = l.isEmpty := by
  cases l with
  | nil => simp [eqD, D.py, D.pys, PyData.eqv, PyData.eqvAll]
  | cons x l => simp [eqD, D.py, D.pys, PyData.eqv, PyData.eqvAll]
def intP (f : Int → Bool) : D → Bool
  | .int i => f i
  | _ => false
theorem filter_ints (f : Int → Bool) (l : List Int) : ((l.map D.int).filter (intP f)).map id = (l.filter f).map D.int := by
  rw [List.map_id, List.filter_map]
  rfl
end DL

namespace DL
open PySem L2
variable [Tb]
/-! ### plain forms -/
abbrev T3 := Int × Int × Int
def gc (a b : Int) : Int := (Int.gcd a b : Int)
def nz3 (t : T3) : Prop := t.1 ≠ 0 ∧ t.2.1 ≠ 0 ∧ t.2.2 ≠ 0
def prod3 (t : T3) : Nat := t.1.natAbs * t.2.1.natAbs * t.2.2.natAbs
def st01 (t : T3) : T3 := (t.1 / gc t.1 t.2.1, t.2.1 / gc t.1 t.2.1, bareQ (t.2.2 * gc t.1 t.2.1))
def st02 (t : T3) : T3 := (t.1 / gc t.1 t.2.2, bareQ (t.2.1 * gc t.1 t.2.2), t.2.2 / gc t.1 t.2.2)
def st12 (t : T3) : T3 := (bareQ (t.1 * gc t.2.1 t.2.2), t.2.1 / gc t.2.1 t.2.2, t.2.2 / gc t.2.1 t.2.2)
def plStep (t : T3) : Option T3 :=
  if 1 < gc t.1 t.2.1 then some (st01 t) else if 1 < gc t.1 t.2.2 then some (st02 t) else if 1 < gc t.2.1 t.2.2 then some (st12 t) else none
theorem gc_div {a b : Int} (ha : a ≠ 0) (h : 1 < gc a b) : (a / gc a b) ≠ 0 ∧ (a / gc a b).natAbs * (gc a b).natAbs = a.natAbs := by
  have hd : gc a b ∣ a := Int.gcd_dvd_left _ _
  generalize gc a b = g at *
  obtain ⟨k, rfl⟩ := hd
  rw [Int.mul_ediv_cancel_left _ (by omega)]
  refine ⟨fun e => ha (by rw [e, Int.mul_zero]), ?_⟩
  rw [Int.natAbs_mul, Nat.mul_comm]
theorem gc_div' {a b : Int} (hb : b ≠ 0) (h : 1 < gc a b) : (b / gc a b) ≠ 0 ∧ (b / gc a b).natAbs * (gc a b).natAbs = b.natAbs := by
  have hd : gc a b ∣ b := Int.gcd_dvd_right _ _
  generalize gc a b = g at *
  obtain ⟨k, rfl⟩ := hd
  rw [Int.mul_ediv_cancel_left _ (by omega)]
  refine ⟨fun e => hb (by rw [e, Int.mul_zero]), ?_⟩
  rw [Int.natAbs_mul, Nat.mul_comm]
theorem prod_lt {x' y' z' x y z g : Nat} (h1 : x' * g = x) (h2 : y' * g = y) (h3 : z' ≤ z * g) (hg : 2 ≤ g) (hx : 0 < x) (hy : 0 < y) (hz : 0 < z) : x' * y' * z' < x * y * z := by
  subst h1 h2
  have hx' : 0 < x' := Nat.pos_of_mul_pos_right hx
  have hy' : 0 < y' := Nat.pos_of_mul_pos_right hy
  have e : x' * g * (y' * g) * z = x' * y' * (z * g) * g := by
    simp only [Nat.mul_comm, Nat.mul_left_comm, Nat.mul_assoc]
  rw [e]
  have h4 : x' * y' * z' ≤ x' * y' * (z * g) := Nat.mul_le_mul_left _ h3
  have h5 : 0 < x' * y' * (z * g) := Nat.mul_pos (Nat.mul_pos hx' hy') (Nat.mul_pos hz (by omega))
  have h6 := Nat.mul_le_mul_left (x' * y' * (z * g)) hg
  omega
theorem bare_mul {c g : Int} (hc : c ≠ 0) (hg : 1 < g) : bareQ (c * g) ≠ 0 ∧ (bareQ (c * g)).natAbs ≤ c.natAbs * g.natAbs := by
  have := bareQ_ne (n := c * g) (Int.mul_ne_zero hc (by omega))
  rw [Int.natAbs_mul] at this
  exact this
theorem st01_ok {t : T3} (h : nz3 t) (hg : 1 < gc t.1 t.2.1) : nz3 (st01 t) ∧ prod3 (st01 t) < prod3 t := by
  obtain ⟨a, b, c⟩ := t
  obtain ⟨ha, hb, hc⟩ := h
  dsimp only at *
  have h1 := gc_div ha hg
  have h2 := gc_div' hb hg
  have h3 := bare_mul hc hg
  have := prod_lt h1.2 h2.2 h3.2 (by omega) (by omega) (by omega) (by omega)
  exact ⟨⟨h1.1, h2.1, h3.1⟩, this⟩
theorem st02_ok {t : T3} (h : nz3 t) (hg : 1 < gc t.1 t.2.2) : nz3 (st02 t) ∧ prod3 (st02 t) < prod3 t := by
  obtain ⟨a, b, c⟩ := t
  obtain ⟨ha, hb, hc⟩ := h
  dsimp only at *
  have h1 := gc_div ha hg
  have h2 := gc_div' hc hg
  have h3 := bare_mul hb hg
  refine ⟨⟨h1.1, h3.1, h2.1⟩, ?_⟩
  have := prod_lt h1.2 h2.2 h3.2 (by omega) (by omega) (by omega) (by omega)
  unfold prod3 st02
  dsimp only
  rw [Nat.mul_right_comm, Nat.mul_right_comm a.natAbs]
  exact this
theorem st12_ok {t : T3} (h : nz3 t) (hg : 1 < gc t.2.1 t.2.2) : nz3 (st12 t) ∧ prod3 (st12 t) < prod3 t := by
  obtain ⟨a, b, c⟩ := t
  obtain ⟨ha, hb, hc⟩ := h
  dsimp only at *
  have h1 := gc_div hb hg
  have h2 := gc_div' hc hg
  have h3 := bare_mul ha hg
  refine ⟨⟨h3.1, h1.1, h2.1⟩, ?_⟩
  have := prod_lt h1.2 h2.2 h3.2 (by omega) (by omega) (by omega) (by omega)
  unfold prod3 st12
  dsimp only
  rw [Nat.mul_assoc, Nat.mul_comm, Nat.mul_assoc a.natAbs, Nat.mul_comm a.natAbs]
  exact this
theorem plStep_ok {t u : T3} (h : nz3 t) (e : plStep t = some u) : nz3 u ∧ prod3 u < prod3 t := by
  unfold plStep at e
  split at e
  · cases e; exact st01_ok h ‹_›
  · split at e
    · cases e; exact st02_ok h ‹_›
    · split at e
      · cases e; exact st12_ok h ‹_›
      · cases e
def plF : Nat → T3 → T3
  | 0, t => t
  | f + 1, t => match plStep t with
    | none => t
    | some u => plF f u
def plQ (t : T3) : T3 := plF (prod3 t) t
theorem plF_fuel : ∀ (f g : Nat) (t : T3), nz3 t → prod3 t ≤ f → prod3 t ≤ g → plF f t = plF g t
  | 0, g, t, h, hf, _ => by
    have := Nat.mul_pos (Nat.mul_pos (show 0 < t.1.natAbs by have := h.1; omega) (show 0 < t.2.1.natAbs by have := h.2.1; omega)) (show 0 < t.2.2.natAbs by have := h.2.2; omega)
    exact absurd hf (by unfold prod3; omega)
  | f + 1, 0, t, h, _, hg => by
    have := Nat.mul_pos (Nat.mul_pos (show 0 < t.1.natAbs by have := h.1; omega) (show 0 < t.2.1.natAbs by have := h.2.1; omega)) (show 0 < t.2.2.natAbs by have := h.2.2; omega)
    exact absurd hg (by unfold prod3; omega)
  | f + 1, g + 1, t, h, hf, hg => by
    unfold plF
    cases e : plStep t with
    | none => rfl
    | some u =>
      have := plStep_ok h e
      exact plF_fuel f g u this.1 (by omega) (by omega)
theorem plQ_step {t u : T3} (h : nz3 t) (e : plStep t = some u) : plQ t = plQ u := by
  have hu := plStep_ok h e
  have e1 : plQ t = plF (prod3 t + 1) t := plF_fuel _ _ t h (Nat.le_refl _) (Nat.le_succ _)
  rw [e1]
  show (match plStep t with | none => t | some u => plF (prod3 t) u) = _
  rw [e]
  exact plF_fuel _ _ u hu.1 (by omega) (Nat.le_refl _)
theorem plQ_done {t : T3} (e : plStep t = none) : plQ t = t := by
  unfold plQ
  cases prod3 t with
  | zero => rfl
  | succ n =>
    show (match plStep t with | none => t | some u => plF n u) = t
    rw [e]
def plStart (a b c : Int) : T3 :=
  (bareQ a / gc (gc (bareQ a) (bareQ b)) (bareQ (0 - c)), bareQ b / gc (gc (bareQ a) (bareQ b)) (bareQ (0 - c)), bareQ (0 - c) / gc (gc (bareQ a) (bareQ b)) (bareQ (0 - c)))
def plainQ (a b c : Int) : T3 := plQ (plStart a b c)
def tD (t : T3) : D := crD t.1 t.2.1 t.2.2
theorem div_ne {a g : Int} (ha : a ≠ 0) (hg : 0 < g) (hd : g ∣ a) : a / g ≠ 0 ∧ (a / g).natAbs ≤ a.natAbs := by
  obtain ⟨k, rfl⟩ := hd
  rw [Int.mul_ediv_cancel_left _ (by omega)]
  refine ⟨fun e => ha (by rw [e, Int.mul_zero]), ?_⟩
  rw [Int.natAbs_mul]
  exact Nat.le_mul_of_pos_left _ (by omega)
theorem gc3_pos {a b c : Int} (ha : a ≠ 0) : 0 < gc (gc a b) c := by
  unfold gc
  have h1 : 0 < Int.gcd a b := Int.gcd_pos_of_ne_zero_left _ ha
  have h2 : 0 < Int.gcd (Int.gcd a b : Int) c := Int.gcd_pos_of_ne_zero_left _ (by omega)
  omega
theorem plStart_ok {a b c : Int} (ha : a ≠ 0) (hb : b ≠ 0) (hc : c ≠ 0) (h1 : a.natAbs < 2 ^ 20) (h2 : b.natAbs < 2 ^ 20) (h3 : c.natAbs < 2 ^ 20) : nz3 (plStart a b c) ∧ prod3 (plStart a b c) < 2 ^ 60 := by
  have a1 := bareQ_ne ha
  have b1 := bareQ_ne hb
  have c1 := bareQ_ne (n := 0 - c) (by omega)
  have hp := gc3_pos (b := bareQ b) (c := bareQ (0 - c)) a1.1
  have d1 : gc (gc (bareQ a) (bareQ b)) (bareQ (0 - c)) ∣ bareQ a := Int.dvd_trans (Int.gcd_dvd_left _ _) (Int.gcd_dvd_left _ _)
  have d2 : gc (gc (bareQ a) (bareQ b)) (bareQ (0 - c)) ∣ bareQ b := Int.dvd_trans (Int.gcd_dvd_left _ _) (Int.gcd_dvd_right _ _)
  have d3 : gc (gc (bareQ a) (bareQ b)) (bareQ (0 - c)) ∣ bareQ (0 - c) := Int.gcd_dvd_right _ _
  have e1 := div_ne a1.1 hp d1
  have e2 := div_ne b1.1 hp d2
  have e3 := div_ne c1.1 hp d3
  refine ⟨⟨e1.1, e2.1, e3.1⟩, ?_⟩
  have := Nat.mul_lt_mul'' (Nat.mul_lt_mul'' (show (plStart a b c).1.natAbs < 2 ^ 20 by show Int.natAbs (_ / _) < _; omega) (show (plStart a b c).2.1.natAbs < 2 ^ 20 by show Int.natAbs (_ / _) < _; omega)) (show (plStart a b c).2.2.natAbs < 2 ^ 20 by show Int.natAbs (_ / _) < _; omega)
  exact Nat.lt_of_lt_of_le this (by decide)
theorem prod_le {t : T3} (h : nz3 t) : t.1.natAbs * t.2.1.natAbs ≤ prod3 t ∧ t.1.natAbs * t.2.2.natAbs ≤ prod3 t ∧ t.2.1.natAbs * t.2.2.natAbs ≤ prod3 t ∧ t.1.natAbs ≤ prod3 t ∧ t.2.1.natAbs ≤ prod3 t ∧ t.2.2.natAbs ≤ prod3 t := by
  obtain ⟨h1, h2, h3⟩ := h
  unfold prod3
  have p1 : 0 < t.1.natAbs := by omega
  have p2 : 0 < t.2.1.natAbs := by omega
  have p3 : 0 < t.2.2.natAbs := by omega
  generalize t.1.natAbs = x at *
  generalize t.2.1.natAbs = y at *
  generalize t.2.2.natAbs = z at *
  have k1 := Nat.le_mul_of_pos_right (x * y) p3
  have k2 := Nat.le_mul_of_pos_right x p2
  have k3 := Nat.le_mul_of_pos_left y p1
  have k4 : x * z ≤ x * y * z := Nat.mul_le_mul_right z k2
  have k5 : y * z ≤ x * y * z := Nat.mul_le_mul_right z k3
  have k6 := Nat.le_mul_of_pos_left z p1
  exact ⟨k1, k4, k5, by omega, by omega, by omega⟩
theorem gc_le {a b : Int} (ha : a ≠ 0) : (gc a b).natAbs ≤ a.natAbs := by
  unfold gc
  rw [Int.natAbs_natCast]
  exact Nat.le_of_dvd (by omega) (Int.gcd_dvd_natAbs_left a b)
end DL
namespace DL
open PySem L2
variable [Tb]
def mapI (h : Int → Int) : D → D
  | .int i => .int (h i)
  | d => d
def lefts : Nat → List D
  | 0 => [.tup [.int 0, .int 1, .int 2], .tup [.int 0, .int 2, .int 1], .tup [.int 1, .int 2, .int 0]]
  | 1 => [.tup [.int 0, .int 2, .int 1], .tup [.int 1, .int 2, .int 0]]
  | 2 => [.tup [.int 1, .int 2, .int 0]]
  | _ => []
structure PlSt (r : T3) (t : T3) (k : Nat) : Prop where
  nz : nz3 t
  sm : prod3 t < 2 ^ 60
  ev : plQ t = r
  le : k ≤ 3
  h1 : 1 ≤ k → ¬ 1 < gc t.1 t.2.1
  h2 : 2 ≤ k → ¬ 1 < gc t.1 t.2.2
  h3 : 3 ≤ k → ¬ 1 < gc t.2.1 t.2.2
theorem PlSt.new {t : T3} (h : nz3 t) (s : prod3 t < 2 ^ 60) : PlSt (plQ t) t 0 := ⟨h, s, rfl, by omega, by omega, by omega, by omega⟩
theorem PlSt.s01 {r t : T3} {k : Nat} (h : PlSt r t k) (e : 1 < gc t.1 t.2.1) : PlSt r (st01 t) 0 ∧ prod3 (st01 t) < prod3 t := by
  have o := st01_ok h.nz e
  have hs : plStep t = some (st01 t) := if_pos e
  have := h.sm
  exact ⟨⟨o.1, by omega, by rw [← plQ_step h.nz hs]; exact h.ev, by omega, by omega, by omega, by omega⟩, o.2⟩
theorem PlSt.s02 {r t : T3} {k : Nat} (h : PlSt r t k) (hk : 1 ≤ k) (e : 1 < gc t.1 t.2.2) : PlSt r (st02 t) 0 ∧ prod3 (st02 t) < prod3 t := by
  have o := st02_ok h.nz e
  have hs : plStep t = some (st02 t) := (if_neg (h.h1 hk)).trans (if_pos e)
  have := h.sm
  exact ⟨⟨o.1, by omega, by rw [← plQ_step h.nz hs]; exact h.ev, by omega, by omega, by omega, by omega⟩, o.2⟩
theorem PlSt.s12 {r t : T3} {k : Nat} (h : PlSt r t k) (hk : 2 ≤ k) (e : 1 < gc t.2.1 t.2.2) : PlSt r (st12 t) 0 ∧ prod3 (st12 t) < prod3 t := by
  have o := st12_ok h.nz e
  have hs : plStep t = some (st12 t) := (if_neg (h.h1 (by omega))).trans ((if_neg (h.h2 hk)).trans (if_pos e))
  have := h.sm
  exact ⟨⟨o.1, by omega, by rw [← plQ_step h.nz hs]; exact h.ev, by omega, by omega, by omega, by omega⟩, o.2⟩
theorem PlSt.done {r t : T3} (h : PlSt r t 3) : t = r := by
  rw [← h.ev]
  exact (plQ_done ((if_neg (h.h1 (by omega))).trans ((if_neg (h.h2 (by omega))).trans (if_neg (h.h3 (by omega)))))).symm
theorem set_3_0 {α : Type} (a b c x : α) : [a, b, c].set 0 x = [x, b, c] := rfl
theorem set_3_1 {α : Type} (a b c x : α) : [a, b, c].set 1 x = [a, x, c] := rfl
theorem set_3_2 {α : Type} (a b c x : α) : [a, b, c].set 2 x = [a, b, x] := rfl
theorem ixN_3_0 : ixN 3 0 = some 0 := rfl
theorem ixN_3_1 : ixN 3 1 = some 1 := rfl
theorem ixN_3_2 : ixN 3 2 = some 2 := rfl
end DL
namespace DL
open PySem L2
variable [Tb]
theorem PlSt.n0 {r t : T3} (h : PlSt r t 0) (e : ¬ 1 < gc t.1 t.2.1) : PlSt r t 1 := ⟨h.nz, h.sm, h.ev, by omega, fun _ => e, by omega, by omega⟩
theorem PlSt.n1 {r t : T3} (h : PlSt r t 1) (e : ¬ 1 < gc t.1 t.2.2) : PlSt r t 2 := ⟨h.nz, h.sm, h.ev, by omega, fun _ => h.h1 (by omega), fun _ => e, by omega⟩
theorem PlSt.n2 {r t : T3} (h : PlSt r t 2) (e : ¬ 1 < gc t.2.1 t.2.2) : PlSt r t 3 := ⟨h.nz, h.sm, h.ev, by omega, fun _ => h.h1 (by omega), fun _ => h.h2 (by omega), fun _ => e⟩
theorem mul_gc {c a b : Int} {p : Nat} (hc : c ≠ 0) (ha : a ≠ 0) (h : c.natAbs * a.natAbs ≤ p) (hp : p < 2 ^ 60) : c * gc a b ≠ 0 ∧ (c * gc a b).natAbs < 2 ^ 60 := by
  have h1 := gc_le (b := b) ha
  have h0 : gc a b ≠ 0 := by
    have := Int.gcd_pos_of_ne_zero_left b ha
    unfold gc
    omega
  refine ⟨Int.mul_ne_zero hc h0, ?_⟩
  rw [Int.natAbs_mul]
  have := Nat.mul_le_mul_left c.natAbs h1
  omega
end DL
namespace DL
open PySem L2
variable [Tb]
/-! the law's pairs -/
def prP (t : T3) : D → Bool
  | .tup [.int i, .int j] => if i = 0 ∧ j = 1 then decide (1 < gc t.1 t.2.1) else if i = 0 ∧ j = 2 then decide (1 < gc t.1 t.2.2) else if i = 1 ∧ j = 2 then decide (1 < gc t.2.1 t.2.2) else false
  | _ => false
def prs : List D := [.tup [.int 0, .int 1], .tup [.int 0, .int 2], .tup [.int 1, .int 2]]
def filt (t : T3) : List D := (prs.filter (prP t)).map id
theorem filt_eq (t : T3) : filt t = (if 1 < gc t.1 t.2.1 then [.tup [.int 0, .int 1]] else []) ++ ((if 1 < gc t.1 t.2.2 then [.tup [.int 0, .int 2]] else []) ++ if 1 < gc t.2.1 t.2.2 then [.tup [.int 1, .int 2]] else []) := by
  unfold filt prs
  rw [List.map_id]
  simp only [List.filter_cons, List.filter_nil]
  simp only [prP]
  by_cases h1 : 1 < gc t.1 t.2.1 <;> by_cases h2 : 1 < gc t.1 t.2.2 <;> by_cases h3 : 1 < gc t.2.1 t.2.2 <;> simp [h1, h2, h3]
theorem filt_ok (t : T3) : (D.lst (filt t)).ok = true := by
  rw [filt_eq]
  by_cases h1 : 1 < gc t.1 t.2.1 <;> by_cases h2 : 1 < gc t.1 t.2.2 <;> by_cases h3 : 1 < gc t.2.1 t.2.2 <;> simp only [h1, h2, h3, if_true, if_false] <;> rfl
theorem filt_01 {t : T3} (h : 1 < gc t.1 t.2.1) : ∃ r, filt t = .tup [.int 0, .int 1] :: r := by
  rw [filt_eq, if_pos h]
  exact ⟨_, rfl⟩
theorem filt_02 {t : T3} (h1 : ¬ 1 < gc t.1 t.2.1) (h : 1 < gc t.1 t.2.2) : ∃ r, filt t = .tup [.int 0, .int 2] :: r := by
  rw [filt_eq, if_neg h1, if_pos h]
  exact ⟨_, rfl⟩
theorem filt_12 {t : T3} (h1 : ¬ 1 < gc t.1 t.2.1) (h2 : ¬ 1 < gc t.1 t.2.2) (h : 1 < gc t.2.1 t.2.2) : ∃ r, filt t = .tup [.int 1, .int 2] :: r := by
  rw [filt_eq, if_neg h1, if_neg h2, if_pos h]
  exact ⟨_, rfl⟩
theorem filt_no {t : T3} (h1 : ¬ 1 < gc t.1 t.2.1) (h2 : ¬ 1 < gc t.1 t.2.2) (h : ¬ 1 < gc t.2.1 t.2.2) : filt t = [] := by
  rw [filt_eq, if_neg h1, if_neg h2, if_neg h]
  rfl
theorem ok_nil : (D.lst []).ok = true := rfl
end DL
namespace DL
open PySem L2
variable [Tb]
theorem simD_ints (n : Nat) : ∀ l : List Int, (l.map D.int).all (simD n) = true
  | [] => rfl
  | x :: l => by
    rw [List.map_cons, List.all_cons, simD_ints n l]
    cases n <;> rfl
theorem simD_tup {n : Nat} {l : List D} (h : l.length ≤ 100000) (k : l.all (simD n) = true) : simD (n + 1) (.tup l) = true := by
  show (decide (l.length ≤ 100000) && l.all (simD n)) = true
  rw [k, decide_eq_true h]
  rfl
end DL

namespace DL
open PySem L2
variable [Tb]
/-! ### one plain form for each class of curves -/
def IsSq (n : Int) : Prop := ∃ k, n = k * k
theorem IsSq.mk {n k : Int} (h : n = k * k) : IsSq n := ⟨k, h⟩
theorem sq_dvd {b m : Int} (h : b * b ∣ m * m) : b ∣ m := by
  have h2 := Int.natAbs_dvd_natAbs.mpr h
  rw [Int.natAbs_mul, Int.natAbs_mul, ← Nat.pow_two, ← Nat.pow_two, Nat.pow_dvd_pow_iff (by decide)] at h2
  exact Int.natAbs_dvd_natAbs.mp h2
theorem IsSq.trans {a b c : Int} (hb : b ≠ 0) (h : IsSq (a * b)) (k : IsSq (b * c)) : IsSq (a * c) := by
  obtain ⟨m, hm⟩ := h
  obtain ⟨n, hn⟩ := k
  have e : b * b * (a * c) = (m * n) * (m * n) := by
    calc b * b * (a * c) = (a * b) * (b * c) := by simp only [Int.mul_comm, Int.mul_left_comm, Int.mul_assoc]
      _ = (m * n) * (m * n) := by rw [hm, hn]; simp only [Int.mul_comm, Int.mul_left_comm, Int.mul_assoc]
  obtain ⟨q, hq⟩ := sq_dvd (b := b) (m := m * n) ⟨a * c, e.symm⟩
  refine ⟨q, ?_⟩
  rw [hq] at e
  have h2 : b * b * (a * c) = b * b * (q * q) := by rw [e]; simp only [Int.mul_comm, Int.mul_left_comm, Int.mul_assoc]
  exact Int.eq_of_mul_eq_mul_left (Int.mul_ne_zero hb hb) h2
/-- the products of two are alike but for squares -/
def sim (t u : T3) : Prop := IsSq ((t.1 * t.2.1) * (u.1 * u.2.1)) ∧ IsSq ((t.1 * t.2.2) * (u.1 * u.2.2)) ∧ IsSq ((t.2.1 * t.2.2) * (u.2.1 * u.2.2))
theorem sim.refl (t : T3) : sim t t := ⟨⟨_, rfl⟩, ⟨_, rfl⟩, ⟨_, rfl⟩⟩
theorem sim.symm {t u : T3} (h : sim t u) : sim u t := by
  obtain ⟨⟨a, ha⟩, ⟨b, hb⟩, ⟨c, hc⟩⟩ := h
  exact ⟨⟨a, by rw [Int.mul_comm]; exact ha⟩, ⟨b, by rw [Int.mul_comm]; exact hb⟩, ⟨c, by rw [Int.mul_comm]; exact hc⟩⟩
theorem sim.trans {t u v : T3} (hu : nz3 u) (h : sim t u) (k : sim u v) : sim t v :=
  ⟨h.1.trans (Int.mul_ne_zero hu.1 hu.2.1) k.1, h.2.1.trans (Int.mul_ne_zero hu.1 hu.2.2) k.2.1, h.2.2.trans (Int.mul_ne_zero hu.2.1 hu.2.2) k.2.2⟩
theorem rmvF_sq : ∀ (f : Nat) (b n : Int), ∃ m, n = rmvF f b n * (m * m)
  | 0, b, n => ⟨1, by simp [rmvF]⟩
  | f + 1, b, n => by
    unfold rmvF
    split
    · rename_i h
      obtain ⟨m, hm⟩ := rmvF_sq f b (n / (b * b))
      refine ⟨m * b, ?_⟩
      have := Int.mul_ediv_cancel_of_emod_eq_zero h
      calc n = b * b * (n / (b * b)) := this.symm
        _ = b * b * (rmvF f b (n / (b * b)) * (m * m)) := by rw [← hm]
        _ = rmvF f b (n / (b * b)) * (m * b * (m * b)) := by simp only [Int.mul_comm, Int.mul_left_comm, Int.mul_assoc]
    · exact ⟨1, by simp⟩
theorem brl_sq (n : Int) : ∀ j, ∃ m, n = brl n j * (m * m)
  | 0 => ⟨1, by simp [brl]⟩
  | j + 1 => by
    obtain ⟨m, hm⟩ := brl_sq n j
    obtain ⟨k, hk⟩ := rmvF_sq (brl n j).natAbs ((j : Int) + 2) (brl n j)
    refine ⟨k * m, ?_⟩
    show n = rmvF (brl n j).natAbs ((j : Int) + 2) (brl n j) * (k * m * (k * m))
    calc n = brl n j * (m * m) := hm
      _ = rmvF (brl n j).natAbs ((j : Int) + 2) (brl n j) * (k * k) * (m * m) := by rw [← hk]
      _ = _ := by simp only [Int.mul_comm, Int.mul_left_comm, Int.mul_assoc]
theorem bareQ_sq (n : Int) : ∃ m, n = bareQ n * (m * m) := brl_sq n _
/-- without squares -/
def sqf (n : Int) : Prop := ∀ b : Int, 2 ≤ b → ¬ b * b ∣ n
theorem sqf.dvd {m n : Int} (h : sqf n) (d : m ∣ n) : sqf m := fun b hb e => h b hb (Int.dvd_trans e d)
theorem rmvF_dvd {b : Int} : ∀ (f : Nat) (n : Int), rmvF f b n ∣ n := fun f n => by
  obtain ⟨m, hm⟩ := rmvF_sq f b n
  exact ⟨m * m, hm⟩
theorem rmvF_no {b : Int} (hb : 2 ≤ b) : ∀ (f : Nat) (n : Int), n ≠ 0 → n.natAbs ≤ f → ¬ b * b ∣ rmvF f b n
  | 0, n, hn, hf => absurd hn (by omega)
  | f + 1, n, hn, hf => by
    unfold rmvF
    split
    · rename_i h
      have := div_sq hb hn h
      exact rmvF_no hb f _ this.1 (by omega)
    · rename_i h
      exact fun e => h (Int.emod_eq_zero_of_dvd e)
theorem brl_dvd (n : Int) (j : Nat) : ∀ k, brl n (j + k) ∣ brl n j
  | 0 => Int.dvd_refl _
  | k + 1 => Int.dvd_trans (rmvF_dvd _ _) (brl_dvd n j k)
theorem bareQ_sqf {n : Int} (hn : n ≠ 0) : sqf (bareQ n) := by
  intro b hb e
  by_cases h : b ≤ (n.natAbs : Int) + 1
  · obtain ⟨j, hj⟩ : ∃ j : Nat, b = (j : Int) + 2 := ⟨(b - 2).toNat, by omega⟩
    subst hj
    obtain ⟨k, hk⟩ := Nat.exists_eq_add_of_le (show j + 1 ≤ n.natAbs by omega)
    have d : bareQ n ∣ brl n (j + 1) := by
      unfold bareQ
      rw [hk]
      exact brl_dvd n (j + 1) k
    exact rmvF_no hb _ _ (brl_ne hn j).1 (Nat.le_refl _) (Int.dvd_trans e d)
  · have h1 := bareQ_ne hn
    have h2 := Nat.le_of_dvd (by omega) (Int.natAbs_dvd_natAbs.mpr e)
    rw [Int.natAbs_mul] at h2
    have := Nat.mul_le_mul (show 1 ≤ b.natAbs by omega) (Nat.le_refl b.natAbs)
    omega
theorem bareQ_id {n : Int} (h : sqf n) : bareQ n = n := by
  have : ∀ j, brl n j = n := fun j => by
    induction j with
    | zero => rfl
    | succ j ih =>
      show rmv ((j : Int) + 2) (brl n j) = n
      rw [ih]
      exact rmv_done fun e => h _ (by omega) (Int.dvd_of_emod_eq_zero e)
  exact this _
/-- what plain gives -/
structure Fine (t : T3) : Prop where
  nz : nz3 t
  a : sqf t.1
  b : sqf t.2.1
  c : sqf t.2.2
structure Plain (t : T3) : Prop extends Fine t where
  ab : ¬ 1 < gc t.1 t.2.1
  ac : ¬ 1 < gc t.1 t.2.2
  bc : ¬ 1 < gc t.2.1 t.2.2
theorem div_dvd {a g : Int} (h : g ∣ a) : a / g ∣ a := by
  obtain ⟨k, rfl⟩ := h
  by_cases hg : g = 0
  · subst hg; simp
  · rw [Int.mul_ediv_cancel_left _ hg]
    exact Int.dvd_mul_left _ _
theorem fine_st {t u : T3} (h : Fine t) (e : plStep t = some u) : Fine u := by
  have o := plStep_ok h.nz e
  obtain ⟨h1, h2, h3⟩ := h.nz
  unfold plStep at e
  split at e
  · rename_i g
    cases e
    exact ⟨o.1, h.a.dvd (div_dvd (Int.gcd_dvd_left _ _)), h.b.dvd (div_dvd (Int.gcd_dvd_right _ _)), bareQ_sqf (Int.mul_ne_zero h3 (by omega))⟩
  · split at e
    · rename_i g
      cases e
      exact ⟨o.1, h.a.dvd (div_dvd (Int.gcd_dvd_left _ _)), bareQ_sqf (Int.mul_ne_zero h2 (by omega)), h.c.dvd (div_dvd (Int.gcd_dvd_right _ _))⟩
    · split at e
      · rename_i g
        cases e
        exact ⟨o.1, bareQ_sqf (Int.mul_ne_zero h1 (by omega)), h.b.dvd (div_dvd (Int.gcd_dvd_left _ _)), h.c.dvd (div_dvd (Int.gcd_dvd_right _ _))⟩
      · cases e
theorem sq_both {a b g : Int} (ha : g ∣ a) (hb : g ∣ b) : IsSq ((a * b) * (a / g * (b / g))) := by
  by_cases hg : g = 0
  · subst hg
    exact ⟨0, by simp⟩
  obtain ⟨x, rfl⟩ := ha
  obtain ⟨y, rfl⟩ := hb
  rw [Int.mul_ediv_cancel_left _ hg, Int.mul_ediv_cancel_left _ hg]
  exact ⟨g * x * y, by simp only [Int.mul_comm, Int.mul_left_comm, Int.mul_assoc]⟩
theorem sq_one {a c g : Int} (ha : g ∣ a) : IsSq ((a * c) * (a / g * bareQ (c * g))) := by
  by_cases hg : g = 0
  · subst hg
    exact ⟨0, by simp⟩
  obtain ⟨x, rfl⟩ := ha
  obtain ⟨m, hm⟩ := bareQ_sq (c * g)
  rw [Int.mul_ediv_cancel_left _ hg]
  refine ⟨x * (bareQ (c * g) * m), ?_⟩
  generalize bareQ (c * g) = B at *
  calc g * x * c * (x * B) = (c * g) * (x * x * B) := by simp only [Int.mul_comm, Int.mul_left_comm, Int.mul_assoc]
    _ = B * (m * m) * (x * x * B) := by rw [← hm]
    _ = _ := by simp only [Int.mul_comm, Int.mul_left_comm, Int.mul_assoc]
theorem sim_st {t u : T3} (e : plStep t = some u) : sim t u := by
  obtain ⟨a, b, c⟩ := t
  unfold plStep at e
  split at e
  · cases e
    refine ⟨sq_both (Int.gcd_dvd_left _ _) (Int.gcd_dvd_right _ _), sq_one (Int.gcd_dvd_left _ _), sq_one (Int.gcd_dvd_right _ _)⟩
  · split at e
    · cases e
      refine ⟨sq_one (Int.gcd_dvd_left _ _), sq_both (Int.gcd_dvd_left _ _) (Int.gcd_dvd_right _ _), ?_⟩
      have := sq_one (a := c) (c := b) (g := gc a c) (Int.gcd_dvd_right _ _)
      show IsSq (b * c * (bareQ (b * gc a c) * (c / gc a c)))
      rw [Int.mul_comm b c, Int.mul_comm (bareQ _)]
      exact this
    · split at e
      · cases e
        refine ⟨?_, ?_, sq_both (Int.gcd_dvd_left _ _) (Int.gcd_dvd_right _ _)⟩
        · have := sq_one (a := b) (c := a) (g := gc b c) (Int.gcd_dvd_left _ _)
          show IsSq (a * b * (bareQ (a * gc b c) * (b / gc b c)))
          rw [Int.mul_comm a b, Int.mul_comm (bareQ _)]
          exact this
        · have := sq_one (a := c) (c := a) (g := gc b c) (Int.gcd_dvd_right _ _)
          show IsSq (a * c * (bareQ (a * gc b c) * (c / gc b c)))
          rw [Int.mul_comm a c, Int.mul_comm (bareQ _)]
          exact this
      · cases e
theorem plF_sim : ∀ (f : Nat) (t : T3), Fine t → prod3 t ≤ f → sim t (plF f t) ∧ Plain (plF f t)
  | 0, t, h, hf => by
    have := Nat.mul_pos (Nat.mul_pos (show 0 < t.1.natAbs by have := h.nz.1; omega) (show 0 < t.2.1.natAbs by have := h.nz.2.1; omega)) (show 0 < t.2.2.natAbs by have := h.nz.2.2; omega)
    exact absurd hf (by unfold prod3; omega)
  | f + 1, t, h, hf => by
    unfold plF
    cases e : plStep t with
    | none =>
      have hn : ¬ 1 < gc t.1 t.2.1 ∧ ¬ 1 < gc t.1 t.2.2 ∧ ¬ 1 < gc t.2.1 t.2.2 := by
        unfold plStep at e
        by_cases h1 : 1 < gc t.1 t.2.1
        · rw [if_pos h1] at e; cases e
        · rw [if_neg h1] at e
          by_cases h2 : 1 < gc t.1 t.2.2
          · rw [if_pos h2] at e; cases e
          · rw [if_neg h2] at e
            by_cases h3 : 1 < gc t.2.1 t.2.2
            · rw [if_pos h3] at e; cases e
            · exact ⟨h1, h2, h3⟩
      exact ⟨sim.refl t, ⟨h, hn.1, hn.2.1, hn.2.2⟩⟩
    | some u =>
      have o := plStep_ok h.nz e
      have hu := fine_st h e
      have ih := plF_sim f u hu (by omega)
      exact ⟨(sim_st e).trans hu.nz ih.1, ih.2⟩
theorem plainQ_sim {a b c : Int} (ha : a ≠ 0) (hb : b ≠ 0) (hc : c ≠ 0) : sim (a, b, 0 - c) (plainQ a b c) ∧ Plain (plainQ a b c) := by
  have a1 := bareQ_ne ha
  have b1 := bareQ_ne hb
  have c1 := bareQ_ne (n := 0 - c) (by omega)
  have hp := gc3_pos (b := bareQ b) (c := bareQ (0 - c)) a1.1
  have d1 : gc (gc (bareQ a) (bareQ b)) (bareQ (0 - c)) ∣ bareQ a := Int.dvd_trans (Int.gcd_dvd_left _ _) (Int.gcd_dvd_left _ _)
  have d2 : gc (gc (bareQ a) (bareQ b)) (bareQ (0 - c)) ∣ bareQ b := Int.dvd_trans (Int.gcd_dvd_left _ _) (Int.gcd_dvd_right _ _)
  have d3 : gc (gc (bareQ a) (bareQ b)) (bareQ (0 - c)) ∣ bareQ (0 - c) := Int.gcd_dvd_right _ _
  have hF : Fine (plStart a b c) := ⟨⟨(div_ne a1.1 hp d1).1, (div_ne b1.1 hp d2).1, (div_ne c1.1 hp d3).1⟩, (bareQ_sqf ha).dvd (div_dvd d1), (bareQ_sqf hb).dvd (div_dvd d2), (bareQ_sqf (by omega)).dvd (div_dvd d3)⟩
  have s1 : sim (a, b, 0 - c) (bareQ a, bareQ b, bareQ (0 - c)) := by
    have key : ∀ x y : Int, IsSq ((x * y) * (bareQ x * bareQ y)) := fun x y => by
      obtain ⟨m, hm⟩ := bareQ_sq x
      obtain ⟨n, hn⟩ := bareQ_sq y
      refine ⟨bareQ x * bareQ y * (m * n), ?_⟩
      generalize bareQ x = X at *
      generalize bareQ y = Y at *
      subst hm hn
      simp only [Int.mul_comm, Int.mul_left_comm, Int.mul_assoc]
    exact ⟨key _ _, key _ _, key _ _⟩
  have s2 : sim (bareQ a, bareQ b, bareQ (0 - c)) (plStart a b c) := ⟨sq_both d1 d2, sq_both d1 d3, sq_both d2 d3⟩
  have h := plF_sim _ (plStart a b c) hF (Nat.le_refl _)
  exact ⟨(s1.trans ⟨a1.1, b1.1, c1.1⟩ s2).trans hF.nz h.1, h.2⟩
theorem prime_split {q x y : Int} (hq : isP q) (e : q * q ∣ x * y) (hy : ¬ q ∣ y) : q * q ∣ x := by
  have h1 : q ∣ x * y := Int.dvd_trans (Int.dvd_mul_right q q) e
  rcases hq.euclid h1 with h | h
  · obtain ⟨x', rfl⟩ := h
    rw [Int.mul_assoc] at e
    have e2 := Int.dvd_of_mul_dvd_mul_left (by have := hq.1; omega) e
    rcases hq.euclid e2 with h | h
    · exact Int.mul_dvd_mul (Int.dvd_refl q) h
    · exact absurd h hy
  · exact absurd h hy
theorem gc_no {x y q : Int} (h : ¬ 1 < gc x y) (hx : x ≠ 0) (hq : isP q) (d : q ∣ x) : ¬ q ∣ y := by
  intro e
  have := Int.dvd_coe_gcd d e
  have hp : 0 < Int.gcd x y := Int.gcd_pos_of_ne_zero_left _ hx
  have := Int.le_of_dvd (by omega) this
  have := hq.1
  unfold gc at h
  omega
theorem sqf_mul {x y : Int} (hx : sqf x) (hy : sqf y) (h0 : x ≠ 0) (h : ¬ 1 < gc x y) : sqf (x * y) := by
  intro b hb e
  obtain ⟨q, q1, q2, _⟩ := has_prime _ b (Nat.le_refl _) hb
  have e2 : q * q ∣ x * y := Int.dvd_trans (Int.mul_dvd_mul q2 q2) e
  by_cases hd : q ∣ x
  · exact hx q q1.1 (prime_split q1 e2 (gc_no h h0 q1 hd))
  · rw [Int.mul_comm x y] at e2
    exact hy q q1.1 (prime_split q1 e2 hd)
theorem sqf_dvd {A B : Int} (hA : sqf A) (hA0 : A ≠ 0) (h : IsSq (A * B)) : A ∣ B := by
  have hg0 : gc A B ≠ 0 := by
    have := Int.gcd_pos_of_ne_zero_left B hA0
    unfold gc
    omega
  have g3 : ∀ d : Int, d ∣ A → d ∣ B → d ∣ gc A B := fun d h1 h2 => Int.dvd_coe_gcd h1 h2
  obtain ⟨x, hx⟩ : gc A B ∣ A := Int.gcd_dvd_left _ _
  obtain ⟨y, hy⟩ : gc A B ∣ B := Int.gcd_dvd_right _ _
  generalize gc A B = g at *
  have hx0 : x ≠ 0 := fun e => hA0 (by rw [hx, e, Int.mul_zero])
  obtain ⟨k, hk⟩ := h
  have e1 : A * B = g * g * (x * y) := by rw [hx, hy]; simp only [Int.mul_comm, Int.mul_left_comm, Int.mul_assoc]
  obtain ⟨l, hl⟩ := sq_dvd (b := g) (m := k) ⟨x * y, by rw [← hk, e1]⟩
  have e2 : x * y = l * l := by
    refine Int.eq_of_mul_eq_mul_left (Int.mul_ne_zero hg0 hg0) (a := g * g) ?_
    rw [← e1, hk, hl]
    simp only [Int.mul_comm, Int.mul_left_comm, Int.mul_assoc]
  have h1 : x.natAbs = 1 := by
    refine Classical.byContradiction fun hne => ?_
    obtain ⟨q, q1, q2, _⟩ := has_prime _ (x.natAbs : Int) (Nat.le_refl _) (by omega)
    have q3 : q ∣ x := Int.dvd_natAbs.mp q2
    have hy' : ¬ q ∣ y := fun hqy => by
      obtain ⟨x', hx'⟩ := q3
      obtain ⟨y', hy'⟩ := hqy
      have := g3 (g * q) ⟨x', by rw [hx, hx']; simp only [Int.mul_assoc]⟩ ⟨y', by rw [hy, hy']; simp only [Int.mul_assoc]⟩
      obtain ⟨z, hz⟩ := this
      have : g * (q * z) = g * 1 := by rw [← Int.mul_assoc, ← hz, Int.mul_one]
      have e := Int.eq_of_mul_eq_mul_left hg0 this
      have hz2 := q1.1
      have := Int.le_of_dvd (by decide) (⟨z, e.symm⟩ : q ∣ 1)
      omega
    have hl' : q ∣ l := by
      have : q ∣ l * l := by rw [← e2]; exact Int.dvd_mul_of_dvd_left q3
      rcases q1.euclid this with h | h <;> exact h
    have := prime_split q1 (x := x) (y := y) (by rw [e2]; exact Int.mul_dvd_mul hl' hl') hy'
    exact hA q q1.1 (by rw [hx]; exact Int.dvd_mul_of_dvd_right this)
  rcases Int.natAbs_eq x with h | h
  · rw [h1] at h
    rw [hx, h, hy]
    exact ⟨y, by simp⟩
  · rw [h1] at h
    rw [hx, h, hy]
    exact ⟨-y, by simp [Int.neg_mul_neg]⟩
theorem sqf_eq {A B : Int} (hA : sqf A) (hB : sqf B) (hA0 : A ≠ 0) (hB0 : B ≠ 0) (h : IsSq (A * B)) : A = B := by
  have d1 := sqf_dvd hA hA0 h
  have d2 := sqf_dvd hB hB0 (by rw [Int.mul_comm]; exact h)
  have e : A.natAbs = B.natAbs := Nat.dvd_antisymm (Int.natAbs_dvd_natAbs.mpr d1) (Int.natAbs_dvd_natAbs.mpr d2)
  rcases Int.natAbs_eq_natAbs_iff.mp e with e | e
  · exact e
  · obtain ⟨k, hk⟩ := h
    rw [e] at hk
    have h1 : 0 ≤ k * k := by
      by_cases hk0 : 0 ≤ k
      · exact Int.mul_nonneg hk0 hk0
      · exact Int.mul_nonneg_of_nonpos_of_nonpos (by omega) (by omega)
    have h2 : 0 < B * B := by
      rcases Int.lt_or_gt_of_ne hB0 with h | h
      · exact Int.mul_pos_of_neg_of_neg h h
      · exact Int.mul_pos h h
    rw [Int.neg_mul] at hk
    omega
def neg3 (t : T3) : T3 := (-t.1, -t.2.1, -t.2.2)
/-- .. and it is one but for the sign -/
theorem plain_one {t u : T3} (ht : Plain t) (hu : Plain u) (h : sim t u) : u = t ∨ u = neg3 t := by
  obtain ⟨t1, t2, t3⟩ := ht.nz
  obtain ⟨u1, u2, u3⟩ := hu.nz
  have e1 := sqf_eq (sqf_mul ht.a ht.b t1 ht.ab) (sqf_mul hu.a hu.b u1 hu.ab) (Int.mul_ne_zero t1 t2) (Int.mul_ne_zero u1 u2) h.1
  have e2 := sqf_eq (sqf_mul ht.a ht.c t1 ht.ac) (sqf_mul hu.a hu.c u1 hu.ac) (Int.mul_ne_zero t1 t3) (Int.mul_ne_zero u1 u3) h.2.1
  have e3 := sqf_eq (sqf_mul ht.b ht.c t2 ht.bc) (sqf_mul hu.b hu.c u2 hu.bc) (Int.mul_ne_zero t2 t3) (Int.mul_ne_zero u2 u3) h.2.2
  obtain ⟨a, b, c⟩ := t
  obtain ⟨x, y, z⟩ := u
  dsimp only at *
  have e4 : a * a = x * x := by
    refine Int.eq_of_mul_eq_mul_left (Int.mul_ne_zero t2 t3) (a := b * c) ?_
    calc b * c * (a * a) = (a * b) * (a * c) := by simp only [Int.mul_comm, Int.mul_left_comm, Int.mul_assoc]
      _ = (x * y) * (x * z) := by rw [e1, e2]
      _ = (y * z) * (x * x) := by simp only [Int.mul_comm, Int.mul_left_comm, Int.mul_assoc]
      _ = b * c * (x * x) := by rw [e3]
  have e5 : a.natAbs = x.natAbs := by
    have := congrArg Int.natAbs e4
    rw [Int.natAbs_mul, Int.natAbs_mul] at this
    exact Nat.mul_self_inj.mp this
  rcases Int.natAbs_eq_natAbs_iff.mp e5 with e | e
  · left
    subst e
    have f1 := Int.eq_of_mul_eq_mul_left t1 e1
    have f2 := Int.eq_of_mul_eq_mul_left t1 e2
    rw [f1, f2]
  · right
    subst e
    have f1 : x * -b = x * y := by rw [← e1, Int.mul_neg, Int.neg_mul]
    have f2 : x * -c = x * z := by rw [← e2, Int.mul_neg, Int.neg_mul]
    have g1 := Int.eq_of_mul_eq_mul_left u1 f1
    have g2 := Int.eq_of_mul_eq_mul_left u1 f2
    show (x, y, z) = (- -x, -b, -c)
    rw [← g1, ← g2, Int.neg_neg]
end DL

namespace DL
open PySem L2
variable [Tb]
/-! ### sides of right triangles -/
def sidesD (m n : Int) : D := .tup [.int (m * m - n * n), .int (2 * m * n), .int (m * m + n * n)]
/-- what makes primitive sides -/
structure Gen (m n : Int) : Prop where
  pos : 0 < n
  lt : n < m
  odd : (m + n) % 2 = 1
  co : Int.gcd m n = 1
def grownL (m n : Int) : List D := [sidesD (2 * m - n) m, sidesD (2 * m + n) m, sidesD (m + 2 * n) n]
def fromD (m n : Int) : D :=
  if m = 2 * n then .non else if m < 2 * n then sidesD n (2 * n - m) else if m < 3 * n then sidesD n (m - 2 * n) else sidesD (m - 2 * n) n
theorem gcd_lin {a b c k : Int} (h : Int.gcd a b = 1) (e : c = k * b + a ∨ c = k * b - a) : Int.gcd c b = 1 := by
  have d1 : (Int.gcd c b : Int) ∣ b := Int.gcd_dvd_right _ _
  have d2 : (Int.gcd c b : Int) ∣ c := Int.gcd_dvd_left _ _
  have d3 : (Int.gcd c b : Int) ∣ a := by
    have d4 : (Int.gcd c b : Int) ∣ k * b := Int.dvd_mul_of_dvd_right d1
    rcases e with e | e
    · have : a = c - k * b := by omega
      rw [this]
      exact Int.dvd_sub d2 d4
    · have : a = k * b - c := by omega
      rw [this]
      exact Int.dvd_sub d4 d2
  have := Int.dvd_coe_gcd d3 d1
  rw [h] at this
  have h2 := Int.le_of_dvd (by decide) this
  have h3 : Int.gcd c b ≠ 0 := by
    intro e0
    rw [e0] at d1 d3
    have b0 : b = 0 := by simpa using d1
    have a0 : a = 0 := by simpa using d3
    rw [a0, b0] at h
    exact absurd h (by decide)
  omega
theorem Gen.g1 {m n : Int} (h : Gen m n) : Gen (2 * m - n) m :=
  ⟨by have := h.pos; have := h.lt; omega, by have := h.lt; omega, by have := h.odd; omega, gcd_lin (a := n) (k := 2) (by rw [Int.gcd_comm]; exact h.co) (.inr rfl)⟩
theorem Gen.g2 {m n : Int} (h : Gen m n) : Gen (2 * m + n) m :=
  ⟨by have := h.pos; have := h.lt; omega, by have := h.pos; have := h.lt; omega, by have := h.odd; omega, gcd_lin (a := n) (k := 2) (by rw [Int.gcd_comm]; exact h.co) (.inl rfl)⟩
theorem Gen.g3 {m n : Int} (h : Gen m n) : Gen (m + 2 * n) n :=
  ⟨h.pos, by have := h.pos; have := h.lt; omega, by have := h.odd; omega, gcd_lin (a := m) (k := 2) h.co (.inl (by omega))⟩
theorem Gen.f1 {m n : Int} (h : Gen m n) (e : m < 2 * n) : Gen n (2 * n - m) :=
  ⟨by omega, by have := h.lt; omega, by have := h.odd; omega, by rw [Int.gcd_comm]; exact gcd_lin (a := m) (k := 2) h.co (.inr rfl)⟩
theorem Gen.f2 {m n : Int} (h : Gen m n) (e : 2 * n < m) (e2 : m < 3 * n) : Gen n (m - 2 * n) :=
  ⟨by omega, by omega, by have := h.odd; omega, by rw [Int.gcd_comm]; exact gcd_lin (a := m) (k := -2) h.co (.inl (by omega))⟩
theorem Gen.not3 {m n : Int} (h : Gen m n) : m ≠ 3 * n := by
  have := h.odd
  omega
theorem Gen.f3 {m n : Int} (h : Gen m n) (e : ¬ m < 3 * n) : Gen (m - 2 * n) n :=
  ⟨h.pos, by have := h.not3; omega, by have := h.odd; omega, gcd_lin (a := m) (k := -2) h.co (.inl (by omega))⟩
end DL
namespace DL
open PySem PySem.W L2
variable [Tb]
def Tri (d : D) : Prop := ∃ a b c : Int, d = .tup [.int a, .int b, .int c]
theorem tri_py {d : D} (h : Tri d) : ∃ a b c : Int, d.py = .tuple [.int a, .int b, .int c] := by
  obtain ⟨a, b, c, rfl⟩ := h
  exact ⟨a, b, c, rfl⟩
theorem sortOk_tri {l : List D} (h : ∀ d ∈ l, Tri d) : SortOk l := by
  refine ⟨?_, .inl ?_, ?_⟩
  · intro x hx y hy
    obtain ⟨d, hd, rfl⟩ := List.mem_map.mp hx
    obtain ⟨e, he, rfl⟩ := List.mem_map.mp hy
    obtain ⟨a, b, c, e1⟩ := tri_py (h d hd)
    obtain ⟨a', b', c', e2⟩ := tri_py (h e he)
    rw [e1, e2]
    rfl
  · intro x hx
    obtain ⟨d, hd, rfl⟩ := List.mem_map.mp hx
    obtain ⟨a, b, c, e1⟩ := tri_py (h d hd)
    exact ⟨_, _, e1⟩
  · intro d hd
    obtain ⟨a, b, c, rfl⟩ := h d hd
    exact ⟨rfl, by simp [D.py, D.pys, PyData.depth, PyData.depthAll]⟩
theorem tri_sides (m n : Int) : Tri (sidesD m n) := ⟨_, _, _, rfl⟩
theorem sortOk_grown (m n : Int) : SortOk (grownL m n) := sortOk_tri fun d hd => by
  simp only [grownL, List.mem_cons, List.not_mem_nil, or_false] at hd
  rcases hd with rfl | rfl | rfl <;> exact tri_sides _ _
theorem root_one {r s k : Int} (h0 : 0 ≤ r) (h1 : r * r ≤ k) (h2 : k < (r + 1) * (r + 1)) (s0 : 0 ≤ s) (s1 : s * s ≤ k) (s2 : k < (s + 1) * (s + 1)) : s = r := by
  rcases Int.lt_trichotomy s r with h | h | h
  · have := Int.mul_le_mul (show s + 1 ≤ r by omega) (show s + 1 ≤ r by omega) (by omega) (by omega)
    omega
  · exact h
  · have := Int.mul_le_mul (show r + 1 ≤ s by omega) (show r + 1 ≤ s by omega) (by omega) (by omega)
    omega
theorem half_a (m n : Int) : (m * m + n * n + (m * m - n * n)) / 2 = m * m := by omega
theorem half_b (m n : Int) : (m * m + n * n - (m * m - n * n)) / 2 = n * n := by omega
theorem sq_next {m : Int} (h : 0 ≤ m) : m * m < (m + 1) * (m + 1) := by
  have : (m + 1) * (m + 1) = m * m + (2 * m + 1) := by grind
  omega
theorem sq_lt30 {m : Int} (h0 : 0 ≤ m) (h : m < 2 ^ 30) : m * m < 2 ^ 60 := by
  have := Int.mul_le_mul (show m ≤ 2 ^ 30 by omega) (show m ≤ 2 ^ 30 by omega) h0 (by decide)
  by_cases h2 : m * m < 2 ^ 60
  · exact h2
  · have h3 : m * m ≤ m * 2 ^ 30 := Int.mul_le_mul_of_nonneg_left (by omega) h0
    omega
end DL

namespace DL
open PySem PySem.W PyProof.Rows L2
variable [Tb]
/-! ### lists of sides, sorted -/
theorem leD_total : TotalLe leD := sortLe_total (listOrd itemOrd) false fun b => keyToks (D.py b)
theorem leD_tot (a b : D) : (leD a b || leD b a) = true := by
  rw [Bool.or_eq_true]
  exact leD_total.total a b
theorem triLt (a b c x y z : Int) : dataLt (D.tup [.int a, .int b, .int c]).py (D.tup [.int x, .int y, .int z]).py = decide (a < x ∨ (a = x ∧ (b < y ∨ (b = y ∧ c < z)))) := by
  have e : dataLt (D.tup [.int a, .int b, .int c]).py (D.tup [.int x, .int y, .int z]).py = rowLt ([a, b, c].map PyData.int) ([x, y, z].map PyData.int) := rfl
  rw [e, dataLt_ints]
  refine decide_eq_decide.mpr ?_
  rw [List.cons_lt_cons_iff, List.cons_lt_cons_iff, List.cons_lt_cons_iff]
  simp
theorem leD_anti {d e : D} (hd : Tri d) (he : Tri e) (h1 : leD d e = true) (h2 : leD e d = true) : d = e := by
  obtain ⟨a, b, c, rfl⟩ := hd
  obtain ⟨x, y, z, rfl⟩ := he
  have e1 : leD (D.tup [.int a, .int b, .int c]) (D.tup [.int x, .int y, .int z]) = !dataLt (D.tup [.int x, .int y, .int z]).py (D.tup [.int a, .int b, .int c]).py := rfl
  have e2 : leD (D.tup [.int x, .int y, .int z]) (D.tup [.int a, .int b, .int c]) = !dataLt (D.tup [.int a, .int b, .int c]).py (D.tup [.int x, .int y, .int z]).py := rfl
  rw [e1, triLt] at h1
  rw [e2, triLt] at h2
  simp only [Bool.not_eq_true', decide_eq_false_iff_not] at h1 h2
  have : a = x ∧ b = y ∧ c = z := by omega
  obtain ⟨rfl, rfl, rfl⟩ := this
  rfl
theorem sortD_perm {l m : List D} (h : ∀ d ∈ l, Tri d) (p : l.Perm m) : sortD l = sortD m := by
  have pl : (sortD l).Perm l := List.mergeSort_perm _ _
  have pm : (sortD m).Perm m := List.mergeSort_perm _ _
  refine List.Perm.eq_of_pairwise (le := fun a b => leD a b = true) (fun a b ha hb h1 h2 => leD_anti (h a (pl.mem_iff.mp ha)) (h b (p.mem_iff.mpr (pm.mem_iff.mp hb))) h1 h2) (List.pairwise_mergeSort leD_total.trans leD_tot l) (List.pairwise_mergeSort leD_total.trans leD_tot m) (pl.trans (p.trans pm.symm))
theorem sortD_mem {l : List D} {d : D} : d ∈ sortD l ↔ d ∈ l := (List.mergeSort_perm _ _).mem_iff
theorem sortD_len (l : List D) : (sortD l).length = l.length := (List.mergeSort_perm _ _).length_eq
/-- what all_sides lists -/
def okC (most m n : Int) : Prop := m * m + n * n ≤ most ∧ (m + n) % 2 = 1 ∧ Int.gcd m n = 1
instance (most m n : Int) : Decidable (okC most m n) := by unfold okC; infer_instance
def rowC (most m : Int) : Nat → List D
  | 0 => []
  | j + 1 => if okC most m ((j : Int) + 1) then rowC most m j ++ [sidesD m ((j : Int) + 1)] else rowC most m j
def allC (most : Int) : Nat → List D
  | 0 => []
  | i + 1 => allC most i ++ rowC most ((i : Int) + 2) (i + 1)
theorem rowC_len (most m : Int) : ∀ j, (rowC most m j).length ≤ j
  | 0 => Nat.le_refl _
  | j + 1 => by
    have := rowC_len most m j
    unfold rowC
    split
    · rw [List.length_append, List.length_singleton]; omega
    · omega
theorem allC_len (most : Int) : ∀ i, (allC most i).length ≤ i * i
  | 0 => Nat.le_refl _
  | i + 1 => by
    have h1 := allC_len most i
    have h2 := rowC_len most ((i : Int) + 2) (i + 1)
    unfold allC
    rw [List.length_append]
    have : (i + 1) * (i + 1) = i * i + 2 * i + 1 := by grind
    omega
theorem rowC_mem {most m : Int} {d : D} : ∀ j, d ∈ rowC most m j ↔ ∃ n : Int, 1 ≤ n ∧ n ≤ j ∧ okC most m n ∧ d = sidesD m n
  | 0 => ⟨fun h => (by cases h), fun ⟨n, h1, h2, _⟩ => by omega⟩
  | j + 1 => by
    have ih := rowC_mem (most := most) (m := m) (d := d) j
    unfold rowC
    by_cases hc : okC most m ((j : Int) + 1)
    · rw [if_pos hc, List.mem_append, ih, List.mem_singleton]
      constructor
      · rintro (⟨n, a, b, c, e⟩ | rfl)
        · exact ⟨n, a, by omega, c, e⟩
        · exact ⟨(j : Int) + 1, by omega, by omega, hc, rfl⟩
      · rintro ⟨n, a, b, c, e⟩
        by_cases hn : n = (j : Int) + 1
        · subst hn
          exact .inr e
        · exact .inl ⟨n, a, by omega, c, e⟩
    · rw [if_neg hc, ih]
      constructor
      · rintro ⟨n, a, b, c, e⟩
        exact ⟨n, a, by omega, c, e⟩
      · rintro ⟨n, a, b, c, e⟩
        by_cases hn : n = (j : Int) + 1
        · subst hn
          exact absurd c hc
        · exact ⟨n, a, by omega, c, e⟩
theorem allC_mem {most : Int} {d : D} : ∀ i, d ∈ allC most i ↔ ∃ m n : Int, 1 ≤ n ∧ n < m ∧ m ≤ (i : Int) + 1 ∧ okC most m n ∧ d = sidesD m n
  | 0 => ⟨fun h => (by cases h), fun ⟨m, n, h1, h2, h3, _⟩ => by omega⟩
  | i + 1 => by
    have ih := allC_mem (most := most) (d := d) i
    unfold allC
    rw [List.mem_append, ih, rowC_mem]
    constructor
    · rintro (⟨m, n, a, b, c, e⟩ | ⟨n, a, b, c, e⟩)
      · exact ⟨m, n, a, b, by omega, e⟩
      · exact ⟨(i : Int) + 2, n, a, by omega, by omega, c, e⟩
    · rintro ⟨m, n, a, b, c, e⟩
      by_cases hm : m = (i : Int) + 2
      · subst hm
        exact .inr ⟨n, a, by omega, e⟩
      · exact .inl ⟨m, n, a, b, by omega, e⟩
theorem sq_inj {a b : Int} (ha : 0 ≤ a) (hb : 0 ≤ b) (h : a * a = b * b) : a = b := by
  have h2 := congrArg Int.natAbs h
  rw [Int.natAbs_mul, Int.natAbs_mul] at h2
  have := Nat.mul_self_inj.mp h2
  omega
theorem sides_inj {m n p q : Int} (hm : 0 ≤ m) (hn : 0 ≤ n) (hp : 0 ≤ p) (hq : 0 ≤ q) (h : sidesD m n = sidesD p q) : m = p ∧ n = q := by
  unfold sidesD at h
  simp only [D.tup.injEq, List.cons.injEq, D.int.injEq, and_true] at h
  exact ⟨sq_inj hm hp (by omega), sq_inj hn hq (by omega)⟩
theorem rowC_nodup (most m : Int) (hm : 0 ≤ m) : ∀ j, (rowC most m j).Nodup
  | 0 => List.nodup_nil
  | j + 1 => by
    unfold rowC
    split
    · rw [List.nodup_append]
      refine ⟨rowC_nodup most m hm j, List.nodup_cons.mpr ⟨List.not_mem_nil, List.nodup_nil⟩, fun a ha b hb => ?_⟩
      obtain ⟨n, h1, h2, _, rfl⟩ := (rowC_mem j).mp ha
      rw [List.mem_singleton] at hb
      subst hb
      intro e
      have := (sides_inj hm (by omega) hm (by omega) e).2
      omega
    · exact rowC_nodup most m hm j
theorem allC_nodup (most : Int) : ∀ i, (allC most i).Nodup
  | 0 => List.nodup_nil
  | i + 1 => by
    unfold allC
    rw [List.nodup_append]
    refine ⟨allC_nodup most i, rowC_nodup most _ (by omega) _, fun a ha b hb => ?_⟩
    obtain ⟨m, n, h1, h2, h3, _, rfl⟩ := (allC_mem i).mp ha
    obtain ⟨n', h1', h2', _, rfl⟩ := (rowC_mem (i + 1)).mp hb
    intro e
    have := (sides_inj (by omega) (by omega) (by omega) (by omega) e).1
    omega
theorem allC_stop {most : Int} {i : Nat} (h : most < ((i : Int) + 1) * (i + 1)) : ∀ k, allC most (i + k) = allC most i
  | 0 => rfl
  | k + 1 => by
    show allC most (i + k) ++ rowC most (((i + k : Nat) : Int) + 2) (i + k + 1) = _
    have e : rowC most (((i + k : Nat) : Int) + 2) (i + k + 1) = [] := by
      rw [List.eq_nil_iff_forall_not_mem]
      intro d hd
      obtain ⟨n, h1, h2, ⟨h3, _⟩, _⟩ := (rowC_mem _).mp hd
      have := Int.mul_le_mul (show ((i : Int) + 1) ≤ ((i + k : Nat) : Int) + 2 by omega) (show ((i : Int) + 1) ≤ ((i + k : Nat) : Int) + 2 by omega) (by omega) (by omega)
      have := Int.mul_nonneg (show 0 ≤ n by omega) (show 0 ≤ n by omega)
      omega
    rw [e, List.append_nil]
    exact allC_stop h k
end DL
namespace DL
open PySem L2
variable [Tb]
theorem gen_div {m n : Int} (h0 : 0 < n) (h1 : n < m) (h2 : (m + n) % 2 = 1) : Gen (m / (Int.gcd m n : Int)) (n / (Int.gcd m n : Int)) ∧ m / (Int.gcd m n : Int) ≤ m ∧ 0 < (Int.gcd m n : Int) := by
  have gp : 0 < Int.gcd m n := Int.gcd_pos_of_ne_zero_right _ (by omega)
  have d1 : (Int.gcd m n : Int) ∣ m := Int.gcd_dvd_left _ _
  have d2 : (Int.gcd m n : Int) ∣ n := Int.gcd_dvd_right _ _
  have co : Int.gcd (m / (Int.gcd m n : Int)) (n / (Int.gcd m n : Int)) = 1 := Int.gcd_ediv_gcd_ediv_gcd gp
  have gp' : 0 < (Int.gcd m n : Int) := by omega
  generalize (Int.gcd m n : Int) = g at *
  obtain ⟨x, rfl⟩ := d1
  obtain ⟨y, rfl⟩ := d2
  rw [Int.mul_ediv_cancel_left _ (by omega), Int.mul_ediv_cancel_left _ (by omega)] at *
  have y0 : 0 < y := Int.pos_of_mul_pos_right h0 (by omega)
  have xy : y < x := Int.lt_of_mul_lt_mul_left h1 (by omega)
  refine ⟨⟨y0, xy, ?_, co⟩, ?_, gp'⟩
  · rw [← Int.mul_add] at h2
    by_cases e : (x + y) % 2 = 1
    · exact e
    · have e0 : (x + y) % 2 = 0 := by omega
      rw [Int.mul_emod, e0] at h2
      simp at h2
  · have := Int.mul_le_mul_of_nonneg_right (show 1 ≤ g by omega) (show 0 ≤ x by omega)
    omega
end DL

namespace DL
open PySem L2
variable [Tb]
/-! ### primitive triples -/
theorem sq_of_coprime {u v k : Int} (hu : 0 < u) (hv : 0 < v) (h : Int.gcd u v = 1) (e : u * v = k * k) : ∃ m : Int, 0 < m ∧ u = m * m := by
  obtain ⟨a, ha⟩ := bareQ_sq u
  obtain ⟨b, hb⟩ := bareQ_sq v
  have u1 := bareQ_ne (n := u) (by omega)
  have v1 := bareQ_ne (n := v) (by omega)
  have us := bareQ_sqf (n := u) (by omega)
  have vs := bareQ_sqf (n := v) (by omega)
  have a0 : a ≠ 0 := fun z => by rw [z] at ha; omega
  have b0 : b ≠ 0 := fun z => by rw [z] at hb; omega
  generalize bareQ u = x at *
  generalize bareQ v = y at *
  have e2 : (a * b) * (a * b) * (x * y) = k * k := by rw [← e, ha, hb]; simp only [Int.mul_comm, Int.mul_left_comm, Int.mul_assoc]
  obtain ⟨l, hl⟩ := sq_dvd (b := a * b) (m := k) ⟨x * y, e2.symm⟩
  have e3 : x * y = l * l := by
    refine Int.eq_of_mul_eq_mul_left (Int.mul_ne_zero (Int.mul_ne_zero a0 b0) (Int.mul_ne_zero a0 b0)) (a := (a * b) * (a * b)) ?_
    rw [e2, hl]
    simp only [Int.mul_comm, Int.mul_left_comm, Int.mul_assoc]
  have exy := sqf_eq us vs u1.1 v1.1 ⟨l, e3⟩
  subst exy
  have d1 : x ∣ u := ⟨a * a, ha⟩
  have d2 : x ∣ v := ⟨b * b, hb⟩
  have d3 := Int.dvd_coe_gcd d1 d2
  rw [h] at d3
  have x1 : x.natAbs = 1 := Nat.dvd_one.mp (Int.natAbs_dvd_natAbs.mpr d3)
  have aa : 0 < a * a := by
    rcases Int.lt_or_gt_of_ne a0 with h | h
    · exact Int.mul_pos_of_neg_of_neg h h
    · exact Int.mul_pos h h
  have hx : x = 1 := by
    rcases Int.natAbs_eq x with h2 | h2
    · rw [x1] at h2; exact h2
    · rw [x1] at h2
      rw [h2] at ha
      have : u = -(a * a) := by rw [ha]; simp
      omega
  subst hx
  rw [Int.one_mul] at ha
  refine ⟨a.natAbs, by omega, ?_⟩
  rw [ha, ← Int.natAbs_mul_self, Int.natCast_mul]
theorem pyth {f s t : Int} (hf : f % 2 = 1) (hs : s % 2 = 0) (f0 : 0 < f) (s0 : 0 < s) (t0 : 0 < t) (co : Int.gcd f s = 1) (e : f * f + s * s = t * t) : ∃ m n, Gen m n ∧ f = m * m - n * n ∧ s = 2 * m * n ∧ t = m * m + n * n := by
  obtain ⟨a, rfl⟩ : ∃ a, f = 2 * a + 1 := ⟨f / 2, by omega⟩
  obtain ⟨b, rfl⟩ : ∃ b, s = 2 * b := ⟨s / 2, by omega⟩
  have ht : t % 2 = 1 := by
    by_cases h : t % 2 = 1
    · exact h
    · obtain ⟨c, rfl⟩ : ∃ c, t = 2 * c := ⟨t / 2, by omega⟩
      have : (2 * a + 1) * (2 * a + 1) + 2 * b * (2 * b) = 2 * (2 * (a * a) + 2 * a + 2 * (b * b)) + 1 := by grind
      have h2 : 2 * c * (2 * c) = 2 * (2 * (c * c)) := by grind
      omega
  obtain ⟨c, rfl⟩ : ∃ c, t = 2 * c + 1 := ⟨t / 2, by omega⟩
  have lt : a < c := by
    refine Classical.byContradiction fun hn => ?_
    have h1 := Int.mul_le_mul (show 2 * c + 1 ≤ 2 * a + 1 by omega) (show 2 * c + 1 ≤ 2 * a + 1 by omega) (by omega) (by omega)
    have h2 : 0 < 2 * b * (2 * b) := Int.mul_pos (by omega) (by omega)
    omega
  have huv : (c + a + 1) * (c - a) = b * b := by grind
  have cuv : Int.gcd (c + a + 1) (c - a) = 1 := by
    refine Classical.byContradiction fun hne => ?_
    have hp : 0 < Int.gcd (c + a + 1) (c - a) := Int.gcd_pos_of_ne_zero_left _ (by omega)
    obtain ⟨q, q1, q2, _⟩ := has_prime _ (Int.gcd (c + a + 1) (c - a) : Int) (Nat.le_refl _) (by omega)
    have g1 : q ∣ c + a + 1 := Int.dvd_trans q2 (Int.gcd_dvd_left _ _)
    have g2 : q ∣ c - a := Int.dvd_trans q2 (Int.gcd_dvd_right _ _)
    have g3 : q ∣ 2 * a + 1 := by
      have := Int.dvd_sub g1 g2
      have e : c + a + 1 - (c - a) = 2 * a + 1 := by omega
      rwa [e] at this
    have g4 : q ∣ b := by
      have : q ∣ b * b := by rw [← huv]; exact Int.dvd_mul_of_dvd_left g1
      rcases q1.euclid this with h | h <;> exact h
    have g5 := Int.dvd_coe_gcd g3 (Int.dvd_mul_of_dvd_right (b := 2) g4)
    rw [co] at g5
    have := Int.le_of_dvd (by decide) g5
    have := q1.1
    omega
  obtain ⟨m, m0, em⟩ := sq_of_coprime (by omega) (by omega) cuv huv
  obtain ⟨n, n0, en⟩ := sq_of_coprime (u := c - a) (v := c + a + 1) (k := b) (by omega) (by omega) (by rw [Int.gcd_comm]; exact cuv) (by rw [Int.mul_comm]; exact huv)
  have eb : b = m * n := by
    refine sq_inj (by omega) (Int.mul_nonneg (by omega) (by omega)) ?_
    rw [← huv, em, en]
    simp only [Int.mul_comm, Int.mul_left_comm, Int.mul_assoc]
  refine ⟨m, n, ⟨n0, ?_, ?_, ?_⟩, by omega, by rw [eb]; simp only [Int.mul_assoc], by omega⟩
  · refine Classical.byContradiction fun hn => ?_
    have := Int.mul_le_mul (show m ≤ n by omega) (show m ≤ n by omega) (by omega) (by omega)
    omega
  · by_cases h : (m + n) % 2 = 1
    · exact h
    · obtain ⟨z, hz⟩ : ∃ z, m + n = 2 * z := ⟨(m + n) / 2, by omega⟩
      have e1 : m * m + n * n = 2 * (2 * (z * z) - m * n) := by
        have : (m + n) * (m + n) = 2 * z * (2 * z) := by rw [hz]
        grind
      omega
  · have hd : (Int.gcd m n : Int) ∣ Int.gcd (c + a + 1) (c - a) := by
      refine Int.dvd_coe_gcd ?_ ?_
      · rw [em]; exact Int.dvd_mul_of_dvd_left (Int.gcd_dvd_left _ _)
      · rw [en]; exact Int.dvd_mul_of_dvd_left (Int.gcd_dvd_right _ _)
    rw [cuv] at hd
    have h1 := Int.le_of_dvd (by decide) hd
    have h2 : 0 < Int.gcd m n := Int.gcd_pos_of_ne_zero_left _ (by omega)
    omega
end DL
namespace DL
open PySem L2
variable [Tb]
theorem fitsLong {i : Int} (h1 : -(2 ^ 63) ≤ i) (h2 : i < 2 ^ 63) : Builtin.Range.rangeFitsLong i = true := by
  unfold Builtin.Range.rangeFitsLong
  simp only [Bool.and_eq_true, decide_eq_true_eq]
  exact ⟨h1, h2⟩
theorem rgC2 {i j : Int} (h1 : 1 ≤ i) (h2 : i ≤ j + 1) (h3 : j ≤ 1000) : RgC i j 2 ((j - i + 1) / 2).toNat := by
  have e : Builtin.Range.rangeSize i j 2 = (((j - i + 1) / 2).toNat : Int) := by
    unfold Builtin.Range.rangeSize
    rw [if_pos (by decide)]
    split <;> omega
  refine ⟨by decide, by decide, ?_, e⟩
  unfold Builtin.Range.small
  rw [e, fitsLong (by omega) (by omega), fitsLong (by omega) (by omega), fitsLong (by decide) (by decide), fitsLong (by omega) (by omega), if_pos (by decide), fitsLong (by omega) (by omega)]
  simp
/-- the law's triples: first 2a+1, second 2b+2 -/
def triD (f s t : Int) : D := .tup [.int f, .int s, .int t]
def okL (most f s t : Int) : Prop := 0 < t ∧ t ≤ most ∧ f * f + s * s = t * t ∧ Int.gcd f s = 1
theorem getI_sq {most : Nat} {z : Int} : ∀ t, getI ((List.range (most + 1)).map fun (i : Nat) => ((i : Int) * i, (i : Int))) z = some t ↔ 0 ≤ t ∧ t ≤ most ∧ t * t = z := by
  intro t
  unfold getI
  rw [Option.map_eq_some_iff]
  constructor
  · rintro ⟨p, hp, rfl⟩
    have h1 := List.find?_some hp
    have h2 := List.mem_of_find?_eq_some hp
    obtain ⟨i, hi, rfl⟩ := List.mem_map.mp h2
    rw [List.mem_range] at hi
    simp only [decide_eq_true_eq] at h1
    exact ⟨by dsimp only; omega, by dsimp only; omega, h1⟩
  · rintro ⟨h0, h1, h2⟩
    cases hf : ((List.range (most + 1)).map fun (i : Nat) => ((i : Int) * i, (i : Int))).find? (fun p => decide (p.1 = z)) with
    | none =>
      rw [List.find?_eq_none] at hf
      have := hf (t * t, t) (List.mem_map.mpr ⟨t.toNat, List.mem_range.mpr (by omega), by rw [Int.toNat_of_nonneg h0]⟩)
      simp at this
      exact absurd h2 this
    | some p =>
      refine ⟨p, rfl, ?_⟩
      have h3 := List.find?_some hf
      have h4 := List.mem_of_find?_eq_some hf
      obtain ⟨i, hi, rfl⟩ := List.mem_map.mp h4
      simp only [decide_eq_true_eq] at h3
      exact sq_inj (by dsimp only; omega) h0 (by dsimp only; rw [h2]; exact h3)
def sqs (most : Nat) : List (Int × Int) := (List.range (most + 1)).map fun (i : Nat) => ((i : Int) * i, (i : Int))
def thirdQ (most : Nat) (f s : Int) : Int := ((getI (sqs most) (f * f + s * s))).getD 0
theorem thirdQ_ok {most : Nat} {f s t : Int} (ht : 0 < t) : thirdQ most f s = t ↔ t ≤ most ∧ f * f + s * s = t * t := by
  unfold thirdQ sqs
  constructor
  · intro h
    cases hg : getI ((List.range (most + 1)).map fun (i : Nat) => ((i : Int) * i, (i : Int))) (f * f + s * s) with
    | none =>
      rw [hg] at h
      simp at h
      omega
    | some u =>
      rw [hg] at h
      simp at h
      subst h
      have := (getI_sq _).mp hg
      exact ⟨this.2.1, this.2.2.symm⟩
  · rintro ⟨h1, h2⟩
    rw [(getI_sq t).mpr ⟨by omega, h1, h2.symm⟩]
    rfl
def rowT (most : Nat) (f : Int) : Nat → List D
  | 0 => []
  | j + 1 => if 0 < thirdQ most f (2 + (j : Int) * 2) ∧ Int.gcd f (2 + (j : Int) * 2) = 1 then rowT most f j ++ [triD f (2 + (j : Int) * 2) (thirdQ most f (2 + (j : Int) * 2))] else rowT most f j
def allT (most : Nat) : Nat → List D
  | 0 => []
  | i + 1 => allT most i ++ rowT most (1 + (i : Int) * 2) (most / 2)
theorem rowT_len (most : Nat) (f : Int) : ∀ j, (rowT most f j).length ≤ j
  | 0 => Nat.le_refl _
  | j + 1 => by
    have := rowT_len most f j
    unfold rowT
    split
    · rw [List.length_append, List.length_singleton]; omega
    · omega
theorem allT_len (most : Nat) : ∀ i, (allT most i).length ≤ i * (most / 2)
  | 0 => Nat.zero_le _
  | i + 1 => by
    have h1 := allT_len most i
    have h2 := rowT_len most (1 + (i : Int) * 2) (most / 2)
    unfold allT
    rw [List.length_append, Nat.succ_mul]
    omega
theorem rowT_mem {most : Nat} {f : Int} {d : D} : ∀ j, d ∈ rowT most f j ↔ ∃ b : Nat, b < j ∧ 0 < thirdQ most f (2 + (b : Int) * 2) ∧ Int.gcd f (2 + (b : Int) * 2) = 1 ∧ d = triD f (2 + (b : Int) * 2) (thirdQ most f (2 + (b : Int) * 2))
  | 0 => ⟨fun h => (by cases h), fun ⟨n, h1, _⟩ => by omega⟩
  | j + 1 => by
    have ih := rowT_mem (most := most) (f := f) (d := d) j
    unfold rowT
    by_cases hc : 0 < thirdQ most f (2 + (j : Int) * 2) ∧ Int.gcd f (2 + (j : Int) * 2) = 1
    · rw [if_pos hc, List.mem_append, ih, List.mem_singleton]
      constructor
      · rintro (⟨n, a, e⟩ | rfl)
        · exact ⟨n, by omega, e⟩
        · exact ⟨j, by omega, hc.1, hc.2, rfl⟩
      · rintro ⟨n, a, b, c, e⟩
        by_cases hn : n = j
        · subst hn
          exact .inr e
        · exact .inl ⟨n, by omega, b, c, e⟩
    · rw [if_neg hc, ih]
      constructor
      · rintro ⟨n, a, e⟩
        exact ⟨n, by omega, e⟩
      · rintro ⟨n, a, b, c, e⟩
        by_cases hn : n = j
        · subst hn
          exact absurd ⟨b, c⟩ hc
        · exact ⟨n, by omega, b, c, e⟩
theorem allT_mem {most : Nat} {d : D} : ∀ i, d ∈ allT most i ↔ ∃ a b : Nat, a < i ∧ b < most / 2 ∧ 0 < thirdQ most (1 + (a : Int) * 2) (2 + (b : Int) * 2) ∧ Int.gcd (1 + (a : Int) * 2) (2 + (b : Int) * 2) = 1 ∧ d = triD (1 + (a : Int) * 2) (2 + (b : Int) * 2) (thirdQ most (1 + (a : Int) * 2) (2 + (b : Int) * 2))
  | 0 => ⟨fun h => (by cases h), fun ⟨m, n, h1, _⟩ => by omega⟩
  | i + 1 => by
    have ih := allT_mem (most := most) (d := d) i
    unfold allT
    rw [List.mem_append, ih, rowT_mem]
    constructor
    · rintro (⟨a, b, h, e⟩ | ⟨b, h, e⟩)
      · exact ⟨a, b, by omega, e⟩
      · exact ⟨i, b, by omega, h, e⟩
    · rintro ⟨a, b, h, e⟩
      by_cases ha : a = i
      · subst ha
        exact .inr ⟨b, e⟩
      · exact .inl ⟨a, b, by omega, e⟩
theorem triD_inj {a b c x y z : Int} (h : triD a b c = triD x y z) : a = x ∧ b = y ∧ c = z := by
  unfold triD at h
  simpa only [D.tup.injEq, List.cons.injEq, D.int.injEq, and_true] using h
theorem rowT_nodup (most : Nat) (f : Int) : ∀ j, (rowT most f j).Nodup
  | 0 => List.nodup_nil
  | j + 1 => by
    unfold rowT
    split
    · rw [List.nodup_append]
      refine ⟨rowT_nodup most f j, List.nodup_cons.mpr ⟨List.not_mem_nil, List.nodup_nil⟩, fun a ha b hb => ?_⟩
      obtain ⟨n, h1, _, _, rfl⟩ := (rowT_mem j).mp ha
      rw [List.mem_singleton] at hb
      subst hb
      intro e
      have := (triD_inj e).2.1
      omega
    · exact rowT_nodup most f j
theorem allT_nodup (most : Nat) : ∀ i, (allT most i).Nodup
  | 0 => List.nodup_nil
  | i + 1 => by
    unfold allT
    rw [List.nodup_append]
    refine ⟨allT_nodup most i, rowT_nodup most _ _, fun a ha b hb => ?_⟩
    obtain ⟨m, n, h1, _, _, _, rfl⟩ := (allT_mem i).mp ha
    obtain ⟨n', _, _, _, rfl⟩ := (rowT_mem _).mp hb
    intro e
    have := (triD_inj e).1
    omega
theorem leg_gcd {m n : Int} (g : Gen m n) : Int.gcd (m * m - n * n) (2 * m * n) = 1 := by
  have hodd : (m * m - n * n) % 2 = 1 := by
    obtain ⟨k, hk⟩ : ∃ k, m = 2 * k + 1 - n := ⟨(m + n) / 2, by have := g.odd; omega⟩
    have e : m * m - n * n = 2 * (2 * (k * k) + 2 * k - 2 * (k * n) - n) + 1 := by rw [hk]; grind
    omega
  refine Classical.byContradiction fun hne => ?_
  have hp : 0 < Int.gcd (m * m - n * n) (2 * m * n) := Int.gcd_pos_of_ne_zero_left _ (by omega)
  obtain ⟨q, q1, q2, _⟩ := has_prime _ (Int.gcd (m * m - n * n) (2 * m * n) : Int) (Nat.le_refl _) (by omega)
  have d1 : q ∣ m * m - n * n := Int.dvd_trans q2 (Int.gcd_dvd_left _ _)
  have d2 : q ∣ 2 * m * n := Int.dvd_trans q2 (Int.gcd_dvd_right _ _)
  have both : q ∣ m → q ∣ n → False := fun h1 h2 => by
    have := Int.dvd_coe_gcd h1 h2
    rw [g.co] at this
    have := Int.le_of_dvd (by decide) this
    have := q1.1
    omega
  rcases q1.euclid d2 with h | h
  · rcases q1.euclid h with h | h
    · have h2 := Int.le_of_dvd (by decide) h
      have := q1.1
      obtain rfl : q = 2 := by omega
      have := Int.emod_eq_zero_of_dvd d1
      omega
    · refine both h ?_
      have : q ∣ n * n := by
        have := Int.dvd_sub (Int.dvd_mul_of_dvd_left (c := m) h) d1
        have e : m * m - (m * m - n * n) = n * n := by omega
        rwa [e] at this
      rcases q1.euclid this with h | h <;> exact h
  · refine both ?_ h
    have : q ∣ m * m := by
      have := Int.dvd_add d1 (Int.dvd_mul_of_dvd_left (c := n) h)
      have e : m * m - n * n + n * n = m * m := by omega
      rwa [e] at this
    rcases q1.euclid this with h | h <;> exact h
/-- both list the same triples -/
theorem all_perm {most : Nat} (h1 : 1 ≤ most) : (allC most (most - 1)).Perm (allT most ((most + 1) / 2)) := by
  rw [List.perm_ext_iff_of_nodup (allC_nodup _ _) (allT_nodup _ _)]
  intro d
  rw [allC_mem, allT_mem]
  constructor
  · rintro ⟨m, n, n1, nm, mle, ⟨c1, c2, c3⟩, rfl⟩
    have g : Gen m n := ⟨by omega, nm, c2, c3⟩
    obtain ⟨k, hk⟩ : ∃ k, m - n = 2 * k + 1 := ⟨(m - n) / 2, by omega⟩
    have k0 : 0 ≤ k := by omega
    have kn := Int.mul_nonneg k0 (show 0 ≤ n by omega)
    have kk := Int.mul_nonneg k0 k0
    have nn := Int.mul_pos (show 0 < n by omega) (show 0 < n by omega)
    have hm : m = n + (2 * k + 1) := by omega
    have ef : m * m - n * n = 1 + 2 * (2 * (k * n) + n + 2 * (k * k) + 2 * k) := by rw [hm]; grind
    have es : 2 * m * n = 2 + 2 * (n * n + 2 * (k * n) + n - 1) := by rw [hm]; grind
    have et : m * m + n * n = 2 * (n * n) + 4 * (k * n) + 2 * n + 4 * (k * k) + 4 * k + 1 := by rw [hm]; grind
    generalize hA : 2 * (k * n) + n + 2 * (k * k) + 2 * k = A at *
    generalize hB : n * n + 2 * (k * n) + n - 1 = B at *
    have fa : (1 : Int) + (A.toNat : Int) * 2 = m * m - n * n := by omega
    have fb : (2 : Int) + (B.toNat : Int) * 2 = 2 * m * n := by omega
    have ht : thirdQ most (m * m - n * n) (2 * m * n) = m * m + n * n := (thirdQ_ok (by omega)).mpr ⟨c1, by grind⟩
    refine ⟨A.toNat, B.toNat, by omega, by omega, ?_, ?_, ?_⟩
    · rw [fa, fb, ht]; omega
    · rw [fa, fb]; exact leg_gcd g
    · rw [fa, fb, ht]; rfl
  · rintro ⟨a, b, ha, hb, ht, co, rfl⟩
    have h2 := (thirdQ_ok ht).mp rfl
    generalize thirdQ most (1 + (a : Int) * 2) (2 + (b : Int) * 2) = t at *
    obtain ⟨m, n, g, ef, es, et⟩ := pyth (by omega) (by omega) (by omega) (by omega) ht co h2.2
    have hp := g.pos
    have hl := g.lt
    have mm := Int.mul_le_mul_of_nonneg_right (show 1 ≤ m by omega) (show 0 ≤ m by omega)
    have nn := Int.mul_pos hp hp
    refine ⟨m, n, by omega, hl, by omega, ⟨by omega, g.odd, g.co⟩, ?_⟩
    unfold triD sidesD
    rw [ef, es, et]
end DL
namespace DL
open PySem PySem.W PyProof.Rows L2
variable [Tb]
theorem simD_tri (k : Nat) {l : List D} (h : ∀ d ∈ l, Tri d) : l.all (simD (k + 1)) = true := by
  rw [List.all_eq_true]
  intro d hd
  obtain ⟨a, b, c, rfl⟩ := h d hd
  cases k <;> rfl
theorem simD_tris (k : Nat) {l : List D} (h : ∀ d ∈ l, Tri d) (n : l.length ≤ 100000) : simD (k + 2) (.tup (sortD l)) = true :=
  simD_tup (by rw [sortD_len]; exact n) (simD_tri k fun d hd => h d (sortD_mem.mp hd))
theorem tri_grown (m n : Int) : ∀ d ∈ grownL m n, Tri d := fun d hd => by
  simp only [grownL, List.mem_cons, List.not_mem_nil, or_false] at hd
  rcases hd with rfl | rfl | rfl <;> exact tri_sides _ _
/-- what the law finds of the three pairs, after i of them -/
def pairI (m n : Int) : Nat → Int × Int
  | 0 => (n, 2 * n - m)
  | 1 => (n, m - 2 * n)
  | _ => (m - 2 * n, n)
def goodI (m n : Int) (i : Nat) : Bool := decide ((pairI m n i).2 < (pairI m n i).1 ∧ 0 < (pairI m n i).2)
def dueI (m n : Int) : Nat → D
  | 0 => .non
  | i + 1 => if goodI m n i = true then sidesD (pairI m n i).1 (pairI m n i).2 else dueI m n i
theorem dueI_from {m n : Int} (g : Gen m n) : dueI m n 3 = fromD m n := by
  have hp := g.pos
  have hl := g.lt
  have h3 := g.not3
  unfold fromD
  show (if goodI m n 2 = true then sidesD (m - 2 * n) n else if goodI m n 1 = true then sidesD n (m - 2 * n) else if goodI m n 0 = true then sidesD n (2 * n - m) else .non) = _
  have e0 : goodI m n 0 = decide (m < 2 * n) := decide_eq_decide.mpr (by show (2 * n - m < n ∧ 0 < 2 * n - m) ↔ _; omega)
  have e1 : goodI m n 1 = decide (2 * n < m ∧ m < 3 * n) := decide_eq_decide.mpr (by show (m - 2 * n < n ∧ 0 < m - 2 * n) ↔ _; omega)
  have e2 : goodI m n 2 = decide (3 * n < m) := decide_eq_decide.mpr (by show (n < m - 2 * n ∧ 0 < n) ↔ _; omega)
  rw [e0, e1, e2]
  simp only [decide_eq_true_eq]
  by_cases h : m = 2 * n
  · rw [if_neg (by omega), if_neg (by omega), if_neg (by omega), if_pos h]
  · by_cases h1 : m < 2 * n
    · rw [if_neg (by omega), if_neg (by omega), if_pos h1, if_neg h, if_pos h1]
    · by_cases h2 : m < 3 * n
      · rw [if_neg (by omega), if_pos (by omega), if_neg h, if_neg h1, if_pos h2]
      · rw [if_pos (by omega), if_neg h, if_neg h1, if_neg h2]
theorem good_in {m n : Int} (i : Nat) : sidesD m n ∈ grownL (pairI m n i).1 (pairI m n i).2 := by
  unfold grownL
  match i with
  | 0 =>
    refine List.mem_cons.mpr (.inl ?_)
    show _ = sidesD (2 * n - (2 * n - m)) n
    rw [show 2 * n - (2 * n - m) = m by omega]
  | 1 =>
    refine List.mem_cons.mpr (.inr (List.mem_cons.mpr (.inl ?_)))
    show _ = sidesD (2 * n + (m - 2 * n)) n
    rw [show 2 * n + (m - 2 * n) = m by omega]
  | i + 2 =>
    refine List.mem_cons.mpr (.inr (List.mem_cons.mpr (.inr (List.mem_cons.mpr (.inl ?_)))))
    show _ = sidesD (m - 2 * n + 2 * n) n
    rw [show m - 2 * n + 2 * n = m by omega]
theorem eqD_sides (m n : Int) : eqD (sidesD m n) (sidesD m n) = true := by
  simp [eqD, sidesD, D.py, D.pys, PyData.eqv, PyData.eqvAll]
theorem any_self {l : List D} {m n : Int} (h : sidesD m n ∈ l) : (l.any fun z => eqD z (sidesD m n)) = true :=
  List.any_eq_true.mpr ⟨_, h, eqD_sides m n⟩
theorem plain_tris : ∀ {l : List D}, (∀ d ∈ l, Tri d) → PyData.plainAll (D.pys l) = true
  | [], _ => by simp [D.pys, PyData.plainAll]
  | d :: l, h => by
    obtain ⟨a, b, c, rfl⟩ := h d List.mem_cons_self
    have := plain_tris fun e he => h e (List.mem_cons_of_mem _ he)
    simp [D.pys, D.py, PyData.plainAll, PyData.plain, this]
end DL
namespace DL
open PySem L2
variable [Tb]
def sqP : D → D
  | .int i => .tup [.int (i * i), .int i]
  | d => d
theorem sqP_map (M : Nat) : (rng 0 ((M : Int) + 1)).map sqP = (sqs M).map pairD := by
  unfold rng sqs
  rw [List.map_map, List.map_map, show ((M : Int) + 1 - 0).toNat = M + 1 by omega]
  refine List.map_congr_left fun i _ => ?_
  show D.tup [.int ((0 + (i : Int)) * (0 + i)), .int (0 + i)] = _
  rw [Int.zero_add]
  rfl
theorem sqs_nodup (M : Nat) : ((sqs M).map (·.1)).Nodup := by
  unfold sqs
  rw [List.map_map]
  refine List.Pairwise.map _ (R := fun a b => a ≠ b) (S := fun a b => a ≠ b) (fun a b h e => h ?_) List.nodup_range
  have : (a : Int) = b := sq_inj (by omega) (by omega) e
  omega
theorem grown21 : sortD (grownL 2 1) = [.tup [.int 5, .int 12, .int 13], .tup [.int 15, .int 8, .int 17], .tup [.int 21, .int 20, .int 29]] := by
  have p : (grownL 2 1).Perm [.tup [.int 5, .int 12, .int 13], .tup [.int 15, .int 8, .int 17], .tup [.int 21, .int 20, .int 29]] := by
    show List.Perm [D.tup [.int 5, .int 12, .int 13], .tup [.int 21, .int 20, .int 29], .tup [.int 15, .int 8, .int 17]] _
    exact List.Perm.cons _ (List.Perm.swap _ _ _)
  rw [sortD_perm (tri_grown 2 1) p]
  refine List.mergeSort_of_pairwise ?_
  refine .cons (fun a ha => ?_) (.cons (fun a ha => ?_) (.cons (fun a ha => nomatch ha) .nil))
  · simp only [List.mem_cons, List.not_mem_nil, or_false] at ha
    rcases ha with rfl | rfl
    · rfl
    · rfl
  · simp only [List.mem_cons, List.not_mem_nil, or_false] at ha
    subst ha
    rfl
end DL

namespace DL
open PySem PySem.W L2
variable [Tb]
/-! ### points by their common lower number -/
theorem low_lcm (x y : Rat) : low x y = (Nat.lcm x.den y.den : Nat) := by
  unfold low Nat.lcm
  rw [Int.gcd_natCast_natCast, ← Int.natCast_mul, ← Int.natCast_ediv]
theorem den_mul {x l : Int} (hl : 0 < l) : (Rat.divInt x l).den * Int.gcd l x = l.natAbs := by
  rw [Rat.den_divInt, if_neg (by omega)]
  exact Nat.div_mul_cancel (by
    have := Int.gcd_dvd_left l x
    simpa using Int.natAbs_dvd_natAbs.mpr this)
theorem num_mul {x l : Int} (hl : 0 < l) : (Rat.divInt x l).num * (Int.gcd l x : Int) = x := by
  rw [Rat.num_divInt, Int.sign_eq_one_of_pos hl, Int.one_mul]
  exact Int.ediv_mul_cancel (Int.gcd_dvd_right l x)
theorem low_of {l x y : Int} (hl : 0 < l) (h : Int.gcd (Int.gcd x y) l = 1) : low (Rat.divInt x l) (Rat.divInt y l) = l ∧ up (Rat.divInt x l) (Rat.divInt y l) = x ∧ up2 (Rat.divInt x l) (Rat.divInt y l) = y := by
  have d1 := den_mul (x := x) hl
  have d2 := den_mul (x := y) hl
  have n1 := num_mul (x := x) hl
  have n2 := num_mul (x := y) hl
  have e : low (Rat.divInt x l) (Rat.divInt y l) = l := by
    rw [low_lcm]
    have cop : Nat.gcd (Int.gcd l x) (Int.gcd l y) = 1 := by
      have a1 : Nat.gcd (Int.gcd l x) (Int.gcd l y) ∣ Int.gcd l x := Nat.gcd_dvd_left _ _
      have a2 : Nat.gcd (Int.gcd l x) (Int.gcd l y) ∣ Int.gcd l y := Nat.gcd_dvd_right _ _
      have b1 : ((Nat.gcd (Int.gcd l x) (Int.gcd l y) : Nat) : Int) ∣ l := Int.dvd_trans (Int.natCast_dvd_natCast.mpr a1) (Int.gcd_dvd_left l x)
      have b2 : ((Nat.gcd (Int.gcd l x) (Int.gcd l y) : Nat) : Int) ∣ x := Int.dvd_trans (Int.natCast_dvd_natCast.mpr a1) (Int.gcd_dvd_right l x)
      have b3 : ((Nat.gcd (Int.gcd l x) (Int.gcd l y) : Nat) : Int) ∣ y := Int.dvd_trans (Int.natCast_dvd_natCast.mpr a2) (Int.gcd_dvd_right l y)
      have b4 := Int.dvd_coe_gcd (Int.dvd_coe_gcd b2 b3) b1
      rw [h] at b4
      exact Nat.dvd_one.mp (Int.natCast_dvd_natCast.mp b4)
    generalize (Rat.divInt x l).den = p at *
    generalize (Rat.divInt y l).den = q at *
    generalize Int.gcd l x = g at *
    generalize Int.gcd l y = k at *
    have up1 : Nat.lcm p q ∣ l.natAbs := Nat.lcm_dvd ⟨g, d1.symm⟩ ⟨k, d2.symm⟩
    have m1 : l.natAbs ∣ Nat.lcm p q * g := by
      rw [← d1]
      exact Nat.mul_dvd_mul_right (Nat.dvd_lcm_left p q) g
    have m2 : l.natAbs ∣ Nat.lcm p q * k := by
      rw [← d2]
      exact Nat.mul_dvd_mul_right (Nat.dvd_lcm_right p q) k
    have m3 : l.natAbs ∣ Nat.lcm p q := by
      have := Nat.dvd_gcd m1 m2
      rw [Nat.gcd_mul_left, cop, Nat.mul_one] at this
      exact this
    have := Nat.dvd_antisymm up1 m3
    omega
  have dp1 : (0 : Int) < (Rat.divInt x l).den := den_pos
  have dp2 : (0 : Int) < (Rat.divInt y l).den := den_pos
  refine ⟨e, ?_, ?_⟩
  · unfold up
    rw [e]
    have : l / ((Rat.divInt x l).den : Int) = (Int.gcd l x : Int) := by
      have z : l = ((Rat.divInt x l).den : Int) * (Int.gcd l x : Int) := by
        rw [← Int.natCast_mul, d1]
        omega
      exact Int.ediv_eq_of_eq_mul_right (by omega) z
    rw [this]
    exact n1
  · unfold up2
    rw [e]
    have : l / ((Rat.divInt y l).den : Int) = (Int.gcd l y : Int) := by
      have z : l = ((Rat.divInt y l).den : Int) * (Int.gcd l y : Int) := by
        rw [← Int.natCast_mul, d2]
        omega
      exact Int.ediv_eq_of_eq_mul_right (by omega) z
    rw [this]
    exact n2
/-- lower number, upper numbers -/
abbrev Tr := Int × Int × Int
def ptT3 (t : Tr) : D := ptD (Rat.divInt t.2.1 t.1) (Rat.divInt t.2.2 t.1)
def mxT (t : Tr) : Int := max (max (t.1.natAbs : Int) (t.2.1.natAbs : Int)) (t.2.2.natAbs : Int)
def keyT (t : Tr) : D := .tup [.int (mxT t), .tup [.int t.1, .int t.2.1, .int t.2.2]]
def rowT4 (t : Tr) : D := .tup [.int (mxT t), .int t.1, .int t.2.1, .int t.2.2]
structure Tok3 (t : Tr) : Prop where
  pos : 0 < t.1
  co : Int.gcd (Int.gcd t.2.1 t.2.2) t.1 = 1
theorem rank_of {t : Tr} (h : Tok3 t) : D.tup [.int (sizeQ (Rat.divInt t.2.1 t.1) (Rat.divInt t.2.2 t.1)), forOne (Rat.divInt t.2.1 t.1) (Rat.divInt t.2.2 t.1)] = keyT t := by
  obtain ⟨e1, e2, e3⟩ := low_of h.pos h.co
  unfold keyT sizeQ forOne mxT
  have e2' : (Rat.divInt t.2.1 t.1).num * (low (Rat.divInt t.2.1 t.1) (Rat.divInt t.2.2 t.1) / (Rat.divInt t.2.1 t.1).den) = t.2.1 := e2
  have e3' : (Rat.divInt t.2.2 t.1).num * (low (Rat.divInt t.2.1 t.1) (Rat.divInt t.2.2 t.1) / (Rat.divInt t.2.2 t.1).den) = t.2.2 := e3
  rw [e2, e3, e2', e3', e1]
/-- the order of both: by the greatest, then the lower number, then the upper ones -/
def ltT (s t : Tr) : Bool := decide (mxT s < mxT t ∨ (mxT s = mxT t ∧ (s.1 < t.1 ∨ (s.1 = t.1 ∧ (s.2.1 < t.2.1 ∨ (s.2.1 = t.2.1 ∧ s.2.2 < t.2.2))))))
def leT (s t : Tr) : Bool := !ltT t s
theorem row_lt (s t : Tr) : dataLt (rowT4 s).py (rowT4 t).py = ltT s t := by
  have e : dataLt (rowT4 s).py (rowT4 t).py = rowLt ([mxT s, s.1, s.2.1, s.2.2].map PyData.int) ([mxT t, t.1, t.2.1, t.2.2].map PyData.int) := rfl
  rw [e, dataLt_ints]
  unfold ltT
  refine decide_eq_decide.mpr ?_
  rw [List.cons_lt_cons_iff, List.cons_lt_cons_iff, List.cons_lt_cons_iff, List.cons_lt_cons_iff]
  simp
theorem row_le (s t : Tr) : leD (rowT4 s) (rowT4 t) = leT s t := by
  have e : leD (rowT4 s) (rowT4 t) = !dataLt (rowT4 t).py (rowT4 s).py := rfl
  rw [e, row_lt]
  rfl
theorem key_lt (s t : Tr) : dataLt (keyT s).py (keyT t).py = ltT s t := by
  have e : dataLt (keyT s).py (keyT t).py = dataLt (.tuple [.int (mxT s), (D.tup [.int s.1, .int s.2.1, .int s.2.2]).py]) (.tuple [.int (mxT t), (D.tup [.int t.1, .int t.2.1, .int t.2.2]).py]) := rfl
  rw [e, dataLt_pair rfl rfl, triLt, dataLt_int]
  have e1 : PyData.eqv (.int (mxT s)) (.int (mxT t)) = decide (mxT s = mxT t) := by
    simp only [PyData.eqv]
    by_cases h : mxT s = mxT t <;> simp [h]
  have e2 : PyData.eqv (D.tup [.int s.1, .int s.2.1, .int s.2.2]).py (D.tup [.int t.1, .int t.2.1, .int t.2.2]).py = decide (s.1 = t.1 ∧ s.2.1 = t.2.1 ∧ s.2.2 = t.2.2) := by
    simp only [D.py, D.pys, PyData.eqv, PyData.eqvAll]
    by_cases h1 : s.1 = t.1 <;> by_cases h2 : s.2.1 = t.2.1 <;> by_cases h3 : s.2.2 = t.2.2 <;> simp [h1, h2, h3]
  rw [e1, e2]
  unfold ltT
  by_cases h1 : mxT s = mxT t
  · rw [decide_eq_true h1, if_pos rfl]
    by_cases h2 : s.1 = t.1 ∧ s.2.1 = t.2.1 ∧ s.2.2 = t.2.2
    · rw [decide_eq_true h2, if_pos rfl]
      exact (decide_eq_false (by omega)).symm
    · rw [decide_eq_false h2, if_neg (by decide)]
      exact decide_eq_decide.mpr (by omega)
  · rw [decide_eq_false h1, if_neg (by decide)]
    exact decide_eq_decide.mpr (by omega)
/-! ### what is listed -/
def rgI (lo : Int) (n : Nat) : List Int := (List.range n).map fun (i : Nat) => lo + (i : Int)
theorem rgI_succ (lo : Int) (n : Nat) : rgI lo (n + 1) = rgI lo n ++ [lo + (n : Int)] := by
  unfold rgI
  rw [List.range_succ, List.map_append, List.map_singleton]
theorem rgI_mem {lo k : Int} {n : Nat} : k ∈ rgI lo n ↔ lo ≤ k ∧ k < lo + n := by
  unfold rgI
  rw [List.mem_map]
  constructor
  · rintro ⟨i, hi, rfl⟩
    have := List.mem_range.mp hi
    omega
  · rintro ⟨h1, h2⟩
    exact ⟨(k - lo).toNat, List.mem_range.mpr (by omega), by omega⟩
theorem rgI_inc (lo : Int) (n : Nat) : (rgI lo n).Pairwise (· < ·) := by
  unfold rgI
  rw [List.pairwise_map]
  refine List.Pairwise.imp (fun {a b} h => ?_) List.pairwise_lt_range
  omega
def wd (m : Int) : Nat := (2 * m + 1).toNat
def onI (a b c l x y : Int) : Bool := decide (a * x * x + b * y * y = c * l * l)
def ysI (a b c l m x : Int) : List Int := (rgI (0 - m) (wd m)).filter fun y => onI a b c l x y
theorem ysI_mem {a b c l m x y : Int} : y ∈ ysI a b c l m x ↔ (0 - m ≤ y ∧ y ≤ m) ∧ a * x * x + b * y * y = c * l * l := by
  unfold ysI onI wd
  rw [List.mem_filter, rgI_mem, decide_eq_true_eq]
  constructor
  · rintro ⟨h1, h2⟩
    exact ⟨by omega, h2⟩
  · rintro ⟨h1, h2⟩
    exact ⟨by omega, h2⟩
theorem inc_eq {k l : List Int} (hk : k.Pairwise (· < ·)) (hl : l.Pairwise (· < ·)) (h : ∀ x, x ∈ k ↔ x ∈ l) : k = l := by
  have nk : k.Nodup := hk.imp fun h => by omega
  have nl : l.Nodup := hl.imp fun h => by omega
  exact List.Perm.eq_of_pairwise (le := (· < ·)) (fun a b _ _ h1 h2 => by omega) hk hl ((List.perm_ext_iff_of_nodup nk nl).mpr h)
theorem rest_iff {a b c l x y : Int} (hb : b ≠ 0) : a * x * x + b * y * y = c * l * l ↔ (c * l * l - a * x * x) % b = 0 ∧ (c * l * l - a * x * x) / b = y * y := by
  rw [Int.mul_assoc b y y]
  generalize c * l * l = C
  generalize a * x * x = A
  generalize y * y = s
  constructor
  · intro h
    have e : C - A = b * s := by omega
    rw [e]
    exact ⟨Int.mul_emod_right _ _, Int.mul_ediv_cancel_left _ hb⟩
  · rintro ⟨h1, h2⟩
    have := Int.mul_ediv_add_emod (C - A) b
    rw [h1, h2] at this
    omega
theorem ysI_two {a b c l m x y : Int} (hb : b ≠ 0) (h0 : 0 ≤ y) (h1 : y ≤ m) (h : (c * l * l - a * x * x) % b = 0) (e : (c * l * l - a * x * x) / b = y * y) {ms : List Int} (hi : ms.Pairwise (· < ·)) (hm : ∀ k, k ∈ ms ↔ k ∈ [0 - y, y]) : ms = ysI a b c l m x := by
  refine inc_eq hi (List.Pairwise.filter _ (rgI_inc _ _)) fun k => ?_
  have key : k ∈ ysI a b c l m x ↔ k ∈ [0 - y, y] := by
    rw [ysI_mem, rest_iff hb]
    simp only [List.mem_cons, List.not_mem_nil, or_false]
    constructor
    · rintro ⟨h2, _, h3⟩
      rw [e] at h3
      by_cases hk : 0 ≤ k
      · exact .inr (sq_inj hk h0 h3.symm)
      · have : 0 - k = y := sq_inj (by omega) h0 (by rw [h3]; grind)
        omega
    · rintro (rfl | rfl)
      · exact ⟨by omega, h, by rw [e]; grind⟩
      · exact ⟨by omega, h, e⟩
  exact (hm k).trans key.symm
theorem ysI_none {a b c l m x : Int} (hb : b ≠ 0) (h : (c * l * l - a * x * x) % b = 0 → ∀ y, 0 ≤ y → y ≤ m → ¬ y * y = (c * l * l - a * x * x) / b) : ysI a b c l m x = [] := by
  rw [List.eq_nil_iff_forall_not_mem]
  intro k hk
  obtain ⟨h1, h2⟩ := ysI_mem.mp hk
  obtain ⟨h3, h4⟩ := (rest_iff hb).mp h2
  by_cases h0 : 0 ≤ k
  · exact h h3 k h0 h1.2 h4.symm
  · exact h h3 (0 - k) (by omega) (by omega) (by rw [h4]; grind)
theorem ysI_len (a b c l m x : Int) : (ysI a b c l m x).length ≤ wd m := by
  have := List.length_filter_le (fun y => onI a b c l x y) (rgI (0 - m) (wd m))
  unfold rgI at this
  rw [List.length_map, List.length_range] at this
  exact this
abbrev pairE (p : Int × Int) : D := .tup [.int p.1, .int p.2]
/-- the pairs of the first n numbers x -/
def pairsN (a b c l m : Int) (n : Nat) : List (Int × Int) := (rgI (0 - m) n).flatMap fun x => (ysI a b c l m x).map fun y => (x, y)
theorem pairsN_succ (a b c l m : Int) (n : Nat) : pairsN a b c l m (n + 1) = pairsN a b c l m n ++ (ysI a b c l m (0 - m + n)).map fun y => (0 - m + (n : Int), y) := by
  unfold pairsN
  rw [rgI_succ, List.flatMap_append, List.flatMap_singleton]
theorem pairsN_len (a b c l m : Int) : ∀ n, (pairsN a b c l m n).length ≤ n * wd m
  | 0 => Nat.zero_le _
  | n + 1 => by
    have h1 := pairsN_len a b c l m n
    have h2 := ysI_len a b c l m (0 - m + n)
    rw [pairsN_succ, List.length_append, List.length_map, Nat.add_mul]
    omega
def pairsI (a b c l m : Int) : List (Int × Int) := pairsN a b c l m (wd m)
theorem pairsI_mem {a b c l m : Int} {p : Int × Int} (h : p ∈ pairsI a b c l m) : p.1.natAbs ≤ m.natAbs ∧ p.2.natAbs ≤ m.natAbs := by
  unfold pairsI pairsN at h
  obtain ⟨x, hx, hp⟩ := List.mem_flatMap.mp h
  obtain ⟨y, hy, rfl⟩ := List.mem_map.mp hp
  have h1 := rgI_mem.mp hx
  have h2 := (ysI_mem.mp hy).1
  unfold wd at h1
  dsimp only
  omega
def coT (l : Int) (p : Int × Int) : Bool := decide (Int.gcd (Int.gcd p.1 p.2) l = 1)
/-- the triples of one lower number -/
def tripsL (a b c m l : Int) : List Tr := ((pairsI a b c l m).filter (coT l)).map fun p => (l, p.1, p.2)
def tripsN (a b c m : Int) (n : Nat) : List Tr := (rgI 1 n).flatMap (tripsL a b c m)
theorem tripsN_succ (a b c m : Int) (n : Nat) : tripsN a b c m (n + 1) = tripsN a b c m n ++ tripsL a b c m (1 + n) := by
  unfold tripsN
  rw [rgI_succ, List.flatMap_append, List.flatMap_singleton]
theorem tripsL_len (a b c m l : Int) : (tripsL a b c m l).length ≤ wd m * wd m := by
  unfold tripsL
  rw [List.length_map]
  exact Nat.le_trans (List.length_filter_le _ _) (pairsN_len a b c l m (wd m))
theorem tripsN_len (a b c m : Int) : ∀ n, (tripsN a b c m n).length ≤ n * (wd m * wd m)
  | 0 => Nat.zero_le _
  | n + 1 => by
    have h1 := tripsN_len a b c m n
    have h2 := tripsL_len a b c m (1 + n)
    rw [tripsN_succ, List.length_append, Nat.add_mul]
    omega
theorem tripsN_mem {a b c m : Int} {n : Nat} {t : Tr} (h : t ∈ tripsN a b c m n) : Tok3 t ∧ t.1 ≤ n ∧ t.2.1.natAbs ≤ m.natAbs ∧ t.2.2.natAbs ≤ m.natAbs := by
  obtain ⟨l, hl, ht⟩ := List.mem_flatMap.mp h
  obtain ⟨p, hp, rfl⟩ := List.mem_map.mp ht
  obtain ⟨h1, h2⟩ := List.mem_filter.mp hp
  have h3 := rgI_mem.mp hl
  exact ⟨⟨by dsimp only; omega, of_decide_eq_true h2⟩, by dsimp only; omega, pairsI_mem h1⟩
/-- the key of a point -/
def keyP : D → D
  | .tup [.tup [.int a, .int p], .tup [.int b, .int q]] => .tup [.int (sizeQ (Rat.divInt a p) (Rat.divInt b q)), forOne (Rat.divInt a p) (Rat.divInt b q)]
  | d => d
theorem keyP_pt (x y : Rat) : keyP (ptD x y) = .tup [.int (sizeQ x y), forOne x y] := by
  show D.tup [.int (sizeQ (Rat.divInt x.num x.den) (Rat.divInt y.num y.den)), forOne (Rat.divInt x.num x.den) (Rat.divInt y.num y.den)] = _
  rw [Rat.num_divInt_den, Rat.num_divInt_den]
theorem keyP_T {t : Tr} (h : Tok3 t) : keyP (ptT3 t) = keyT t := by
  unfold ptT3
  rw [keyP_pt, rank_of h]
theorem sortOk_keys {L : List Tr} (h : ∀ t ∈ L, Tok3 t) : SortOk ((L.map ptT3).map keyP) := by
  have e : (L.map ptT3).map keyP = L.map keyT := by
    rw [List.map_map]
    exact List.map_congr_left fun t ht => keyP_T (h t ht)
  rw [e]
  refine ⟨?_, .inl ?_, ?_⟩
  · intro x hx y hy
    obtain ⟨d, hd, rfl⟩ := List.mem_map.mp hx
    obtain ⟨e, he, rfl⟩ := List.mem_map.mp hy
    obtain ⟨s, _, rfl⟩ := List.mem_map.mp hd
    obtain ⟨t, _, rfl⟩ := List.mem_map.mp he
    rfl
  · intro x hx
    obtain ⟨d, hd, rfl⟩ := List.mem_map.mp hx
    obtain ⟨s, _, rfl⟩ := List.mem_map.mp hd
    exact ⟨_, _, rfl⟩
  · intro d hd
    obtain ⟨s, _, rfl⟩ := List.mem_map.mp hd
    exact ⟨rfl, by simp [keyT, D.py, D.pys, PyData.depth, PyData.depthAll]⟩
theorem sort_points {L : List Tr} (h : ∀ t ∈ L, Tok3 t) : (L.map ptT3).mergeSort (dataLe false fun d => (keyP d).py) = (L.mergeSort leT).map ptT3 := by
  refine (List.map_mergeSort fun s hs t ht => ?_).symm
  have e : dataLe false (fun d => (keyP d).py) (ptT3 s) (ptT3 t) = !dataLt (keyP (ptT3 t)).py (keyP (ptT3 s)).py := rfl
  rw [e, keyP_T (h s hs), keyP_T (h t ht), key_lt]
  rfl
theorem sortOk_rows (L : List Tr) : SortOk (L.map rowT4) := by
  refine ⟨?_, .inl ?_, ?_⟩
  · intro x hx y hy
    obtain ⟨d, hd, rfl⟩ := List.mem_map.mp hx
    obtain ⟨e, he, rfl⟩ := List.mem_map.mp hy
    obtain ⟨s, _, rfl⟩ := List.mem_map.mp hd
    obtain ⟨t, _, rfl⟩ := List.mem_map.mp he
    rfl
  · intro x hx
    obtain ⟨d, hd, rfl⟩ := List.mem_map.mp hx
    obtain ⟨s, _, rfl⟩ := List.mem_map.mp hd
    exact ⟨_, _, rfl⟩
  · intro d hd
    obtain ⟨s, _, rfl⟩ := List.mem_map.mp hd
    exact ⟨rfl, by simp [rowT4, D.py, D.pys, PyData.depth, PyData.depthAll]⟩
theorem sort_rows (L : List Tr) : sortD (L.map rowT4) = (L.mergeSort leT).map rowT4 :=
  (List.map_mergeSort fun s _ t _ => (row_le s t).symm).symm
theorem fm_zero {C b : Int} : C.fmod b = 0 ↔ C % b = 0 := by
  rw [← Int.dvd_iff_emod_eq_zero]
  constructor
  · intro h
    have := Int.mul_fdiv_add_fmod C b
    rw [h, Int.add_zero] at this
    exact ⟨_, this.symm⟩
  · rintro ⟨k, rfl⟩
    exact Int.mul_fmod_right b k
theorem fd_eq {C b : Int} (h : C % b = 0) : C.fdiv b = C / b := Int.fdiv_eq_ediv_of_dvd (Int.dvd_of_emod_eq_zero h)
theorem sqs_get {m : Int} (h : 0 ≤ m) {z t : Int} : getI (sqs m.toNat) z = some t ↔ 0 ≤ t ∧ t ≤ m ∧ t * t = z := by
  unfold sqs
  rw [getI_sq]
  constructor
  · rintro ⟨h1, h2, h3⟩
    exact ⟨h1, by omega, h3⟩
  · rintro ⟨h1, h2, h3⟩
    exact ⟨h1, by omega, h3⟩
def trL (l : Int) (ps : List (Int × Int)) : List Tr := (ps.filter (coT l)).map fun p => (l, p.1, p.2)
theorem trL_app (l : Int) (p q : List (Int × Int)) : trL l (p ++ q) = trL l p ++ trL l q := by
  unfold trL
  rw [List.filter_append, List.map_append]
theorem trL_one (l : Int) (p : Int × Int) : trL l [p] = if Int.gcd (Int.gcd p.1 p.2) l = 1 then [(l, p.1, p.2)] else [] := by
  unfold trL
  by_cases h : Int.gcd (Int.gcd p.1 p.2) l = 1
  · rw [if_pos h, List.filter_cons_of_pos (show coT l p = true from decide_eq_true h)]
    rfl
  · rw [if_neg h, List.filter_cons_of_neg (show ¬ coT l p = true from fun z => h (of_decide_eq_true z))]
    rfl
theorem trL_len (l : Int) (ps : List (Int × Int)) : (trL l ps).length ≤ ps.length := by
  unfold trL
  rw [List.length_map]
  exact List.length_filter_le _ _
def ysK (a b c l m x : Int) (n : Nat) : List Int := (rgI (0 - m) n).filter fun y => onI a b c l x y
theorem ysK_succ (a b c l m x : Int) (n : Nat) : ysK a b c l m x (n + 1) = ysK a b c l m x n ++ (if a * x * x + b * (0 - m + (n : Int)) * (0 - m + (n : Int)) = c * l * l then [0 - m + (n : Int)] else []) := by
  unfold ysK
  rw [rgI_succ, List.filter_append]
  congr 1
  by_cases h : a * x * x + b * (0 - m + (n : Int)) * (0 - m + (n : Int)) = c * l * l
  · rw [if_pos h, List.filter_cons_of_pos (show onI a b c l x (0 - m + (n : Int)) = true from decide_eq_true h)]
    rfl
  · rw [if_neg h, List.filter_cons_of_neg (show ¬ onI a b c l x (0 - m + (n : Int)) = true from fun z => h (of_decide_eq_true z))]
    rfl
theorem ysK_len (a b c l m x : Int) (n : Nat) : (ysK a b c l m x n).length ≤ n := by
  unfold ysK
  refine Nat.le_trans (List.length_filter_le _ _) ?_
  unfold rgI
  rw [List.length_map, List.length_range]
  exact Nat.le_refl _
theorem mxT_of {l x y : Int} (h : 0 < l) : max (max (x.natAbs : Int) (y.natAbs : Int)) l = mxT (l, x, y) := by
  unfold mxT
  dsimp only
  omega
theorem fr_div {x l : Int} (hl : 0 < l) : D.tup [.int (x / (Int.gcd x l : Int)), .int (l / (Int.gcd x l : Int))] = frD (Rat.divInt x l) := by
  unfold frD
  have h1 := den_mul (x := x) hl
  have h2 := num_mul (x := x) hl
  rw [Int.gcd_comm x l]
  have g0 : (0 : Int) < (Int.gcd l x : Int) := by
    have := Int.gcd_pos_of_ne_zero_left x (show l ≠ 0 by omega)
    omega
  have e1 : x / (Int.gcd l x : Int) = (Rat.divInt x l).num := by
    exact Int.ediv_eq_of_eq_mul_left (by omega) h2.symm
  have e2 : l / (Int.gcd l x : Int) = ((Rat.divInt x l).den : Int) := by
    refine Int.ediv_eq_of_eq_mul_left (by omega) ?_
    rw [← Int.natCast_mul, h1]
    omega
  rw [e1, e2]
theorem dIfS_skip8 {c : DT} {t : DS} {DD : DEnds} {ρ : Rho} (h : ∀ Q : Bool → Prop, Q false → c ρ Q) (k : DD.nx ρ) : dIfS c t dNext DD ρ := h _ k
theorem at_first (L : List D) : atI (L ++ [.non]) 0 = some ((L[0]?).getD .non) := by
  cases L with
  | nil => exact atI_nat (xs := [D.non]) (j := 0) rfl
  | cons d L => exact atI_nat (xs := d :: (L ++ [D.non])) (j := 0) rfl
theorem simD_first {L : List Tr} (h : L.length ≤ 100000) : simD 5 (.tup [.tup (L.map ptT3), ((L.map ptT3)[0]?).getD .non]) = true := by
  have e1 : simD 4 (.tup (L.map ptT3)) = true := simD_tup (by rw [List.length_map]; exact h) (by
    rw [List.all_map]
    exact List.all_eq_true.mpr fun t _ => rfl)
  have e2 : simD 4 (((L.map ptT3)[0]?).getD .non) = true := by
    cases L <;> rfl
  refine simD_tup (by simp) ?_
  rw [List.all_cons, List.all_cons, e1, e2]
  rfl
theorem co_one (p : Int × Int) : coT 1 p = true := decide_eq_true (by rw [Int.gcd_one_right])
theorem trips_one (a b c m : Int) : ∀ n : Nat, (tripsN a b c m (n + 1)).filter (fun t => decide (t.1 = 1)) = (pairsI a b c 1 m).map fun p => (1, p.1, p.2)
  | 0 => by
    have e : tripsN a b c m 1 = (pairsI a b c 1 m).map fun p => (1, p.1, p.2) := by
      unfold tripsN
      rw [show rgI 1 1 = [1] from rfl, List.flatMap_singleton]
      unfold tripsL
      rw [List.filter_eq_self.mpr fun p _ => co_one p]
    rw [show 0 + 1 = 1 from rfl, e, List.filter_eq_self.mpr]
    intro t ht
    obtain ⟨p, _, rfl⟩ := List.mem_map.mp ht
    rfl
  | n + 1 => by
    rw [tripsN_succ, List.filter_append, trips_one a b c m n]
    have e : (tripsL a b c m (1 + ((n + 1 : Nat) : Int))).filter (fun t => decide (t.1 = 1)) = [] := by
      rw [List.filter_eq_nil_iff]
      intro t ht
      obtain ⟨p, _, rfl⟩ := List.mem_map.mp ht
      simp
      omega
    rw [e, List.append_nil]
def oneP : D → Bool
  | .tup [_, .int l, _, _] => decide (l = 1)
  | _ => false
def oneF : D → D
  | .tup [_, _, x, y] => .tup [x, y]
  | d => d
theorem one_pairs (L : List Tr) : ([] ++ ((L.map rowT4).filter oneP).map oneF) = (L.filter fun t => decide (t.1 = 1)).map fun t => pairE t.2 := by
  rw [List.nil_append, List.filter_map, List.map_map]
  rfl
theorem sortOk_pairs (L : List (Int × Int)) : SortOk (L.map pairE) := by
  refine ⟨?_, .inl ?_, ?_⟩
  · intro x hx y hy
    obtain ⟨d, hd, rfl⟩ := List.mem_map.mp hx
    obtain ⟨e, he, rfl⟩ := List.mem_map.mp hy
    obtain ⟨s, _, rfl⟩ := List.mem_map.mp hd
    obtain ⟨t, _, rfl⟩ := List.mem_map.mp he
    rfl
  · intro x hx
    obtain ⟨d, hd, rfl⟩ := List.mem_map.mp hx
    obtain ⟨s, _, rfl⟩ := List.mem_map.mp hd
    exact ⟨_, _, rfl⟩
  · intro d hd
    obtain ⟨s, _, rfl⟩ := List.mem_map.mp hd
    exact ⟨rfl, by simp [D.py, D.pys, PyData.depth, PyData.depthAll]⟩
theorem pairsN_fst {a b c l m : Int} {n : Nat} {p : Int × Int} (h : p ∈ pairsN a b c l m n) : p.1 < 0 - m + n := by
  unfold pairsN at h
  obtain ⟨x, hx, hp⟩ := List.mem_flatMap.mp h
  obtain ⟨y, hy, rfl⟩ := List.mem_map.mp hp
  exact (rgI_mem.mp hx).2
theorem pairsN_inc (a b c l m : Int) : ∀ n, (pairsN a b c l m n).Pairwise fun p q => p.1 < q.1 ∨ (p.1 = q.1 ∧ p.2 < q.2)
  | 0 => List.Pairwise.nil
  | n + 1 => by
    rw [pairsN_succ, List.pairwise_append]
    refine ⟨pairsN_inc a b c l m n, ?_, ?_⟩
    · rw [List.pairwise_map]
      exact List.Pairwise.imp (fun h => .inr ⟨rfl, h⟩) (List.Pairwise.filter _ (rgI_inc _ _))
    · intro p hp q hq
      obtain ⟨y, _, rfl⟩ := List.mem_map.mp hq
      exact .inl (pairsN_fst hp)
theorem sort_pairs (a b c l m : Int) : sortD ((pairsI a b c l m).map pairE) = (pairsI a b c l m).map pairE := by
  refine List.mergeSort_of_pairwise ?_
  rw [List.pairwise_map]
  refine (pairsN_inc a b c l m (wd m)).imp fun {p q} h => ?_
  have e : leD (pairE p) (pairE q) = !dataLt (.tuple [.int q.1, .int q.2]) (.tuple [.int p.1, .int p.2]) := rfl
  rw [e, dataLt_ii, decide_eq_false (by omega)]
  rfl
theorem first_one : ((((tripsN 1 1 1 1 1).mergeSort leT).map ptT3)[0]?).getD .non = D.tup [.tup [.int (-1), .int 1], .tup [.int 0, .int 1]] := by
  have e : tripsN 1 1 1 1 1 = [(1, -1, 0), (1, 0, -1), (1, 0, 1), (1, 1, 0)] := by decide +kernel
  rw [e, List.mergeSort_of_pairwise (by decide +kernel)]
  show D.tup [frD (Rat.divInt (-1) 1), frD (Rat.divInt 0 1)] = _
  rw [← fr_div (x := -1) (l := 1) (by decide), ← fr_div (x := 0) (l := 1) (by decide)]
  rfl
end DL

namespace DL
open PySem L2
variable [Tb]
local macro_rules | `(tactic| walk_at "dl") => `(tactic| simp only [dVar, dOwn, dC, dOp, dTst, dNeg, dTru, dTruL, dAnd, dOr, dNot, dIf, dAndV, dOrV, dNotV, dOrT, dChain, dNil, dCons, dTup, dLs, dCall, dC1, dIsi, dIsi2, dZipT, dZipL, dPart, dNoPart, dSl, dNext, dSeq, dBrk, dCnt, dRet, dDrop, dIfS, dSet, dSetO, dPar, dAsg, dApp, dExt, dPop, dFrz, dSetAt, dSeqL, dSeqT, dRng1, dRng2, gN, dGNil, dGCons, gTp, dFz, dLst, dYes,
  gI, gIC, gIB, gEq, gNe, gIsN, gNotN, gIsB, gNotB, gAbs, gLen, gLenL, gTupL, gAll, gAny, gMaxL, gMinL, gIx, gIxL, gSlT, gCatT, gCat, gRep, gAddS, gLstT, gIn, gInS, gEqL, gNeL, gMaxT, gMinT, gDict, dGet, dDIn, dDSub, dRng3, gSort, gSetI, gSortI, dSub, dTry, dIsE, dCount, dIndexB, xCall, xIf, dRevT, gMulS, dUpper, gSlS, gStrI, gIntS, gIntB, gMulB, dSortK, dMax3, dSeqS, dSplit, dPartn, dJoin,
  startD, wipeD, List.map_cons, List.map_nil, List.cons_append, List.nil_append, List.length_cons, List.length_nil, List.replicate_succ, List.replicate_zero, Nat.reduceAdd, Nat.reduceSub, Nat.zero_add, Nat.add_zero, Nat.sub_self, Nat.add_one_sub_one,
  List.getElem?_cons_zero, List.getElem?_cons_succ, List.set_cons_zero, List.set_cons_succ, Option.some.injEq, Sl.d.injEq, Sl.own.injEq, D.int.injEq, D.bl.injEq, D.str.injEq, D.tup.injEq, D.lst.injEq, List.cons.injEq, reduceCtorEq,
  and_assoc, exists_eq_left, exists_eq_left', exists_eq_right, exists_eq_right', exists_and_left, exists_and_right, and_true, true_and, false_and, and_false, exists_false, or_false, false_or, true_or, or_true, if_true, if_false, decide_eq_true_eq, Bool.not_eq_true', decide_eq_false_iff_not, Bool.false_eq_true, Bool.not_true, Bool.not_false, not_true_eq_false, not_false_eq_true, forall_const, ne_eq,
  ixV_tup, ixV_lst, ixV_scr, ixV_fr0, ixV_fr1, ixV_pt0, ixV_pt1, atI_0, atI_1, atI_2, lenV_tup, lenV_lst, lenV_scr, truV_non, truV_bl, truV_int, truV_tup, truV_lst, tyD_int, tyD_bl, tyD_str, tyD_tup, tyD_lst, tyD_non, kb_NoneType_int, kb_NoneType_bool, kb_NoneType_str, kb_NoneType_tuple, kb_NoneType_list, kb_bool_int, kb_bool_bool, kb_bool_str, kb_bool_tuple, kb_bool_list, kb_int_int, kb_int_bool, kb_int_str, kb_int_tuple, kb_int_list, kb_str_int, kb_str_bool, kb_str_str, kb_str_tuple, kb_str_list, kb_tuple_int, kb_tuple_bool, kb_tuple_str, kb_tuple_tuple, kb_tuple_list, kb_list_int, kb_list_bool, kb_list_str, kb_list_tuple, kb_list_list, eqD_int, eqD_bl, eqD_str, ok_int, ok_bl, ok_str, D.isNon, Bool.or_true, Bool.or_false, Bool.true_or, Bool.false_or, sz0, sz1, sz2, sz3, sz4, sz5, sz6, sz7, sz8, sz9, sz10, sz11, sz12, sz13, sz14, sz15, sz16, sz17, sz18, sz19, sz20, sz24, sz30, sz32])
local macro_rules | `(tactic| walk_at "st") => `(tactic| simp only [dSeq, List.set_cons_zero, List.set_cons_succ, startD, List.map_cons, List.map_nil, List.cons_append, List.nil_append, List.length_cons, List.length_nil, List.replicate_succ, List.replicate_zero, Nat.reduceAdd, Nat.reduceSub, Nat.zero_add, Nat.add_zero, Nat.sub_self, Nat.add_one_sub_one])

def topS (i : Nat) : Stmt := PySem.Challenge.pw_curvefracs_k08_points_by_size.main.body.getD i (.Pass ⟨0, 0, 0, 0⟩)
abbrev s_common : Stmt := topS 1
abbrev s_fraction : Stmt := topS 2
abbrev s_for_one : Stmt := topS 4
abbrev s_rank : Stmt := topS 5
abbrev s_point_of : Stmt := topS 6
abbrev s_roots_of : Stmt := topS 8
abbrev s_pairs_for : Stmt := topS 9
abbrev s_points : Stmt := topS 10
abbrev s_first_point : Stmt := topS 11
abbrev s_whole_points : Stmt := topS 12
abbrev s__law_cell : Stmt := topS 14
abbrev s__law_mix : Stmt := topS 15
abbrev s__law_same : Stmt := topS 16
abbrev s__law_common : Stmt := topS 17
abbrev s__law_number : Stmt := topS 18
abbrev s__law_curve : Stmt := topS 19
abbrev s_law : Stmt := topS 20
/-- what stands at the top -/
structure Top (K : PySem.W.Frag) (mg : Str → Option Value) (base : Heap) : Prop where
  f_common : Df K mg "common" s_common ["one", "other"]
  f_fraction : Df K mg "fraction" s_fraction ["upper", "lower"]
  f_for_one : Df K mg "for_one" s_for_one ["point"]
  f_rank : Df K mg "rank" s_rank ["point"]
  f_point_of : Df K mg "point_of" s_point_of ["upper", "other", "lower"]
  f_roots_of : Df K mg "roots_of" s_roots_of ["most"]
  f_pairs_for : Df K mg "pairs_for" s_pairs_for ["curve", "lower", "most"]
  f_points : DfL K mg base "points" s_points ["curve", "most"]
  f_first_point : Df K mg "first_point" s_first_point ["curve", "most"]
  f_whole_points : Df K mg "whole_points" s_whole_points ["curve", "most"]
  f__law_cell : Df K mg "_law_cell" s__law_cell ["_law_script", "_law_k"]
  f__law_mix : Df K mg "_law_mix" s__law_mix ["_law_cell_here", "_law_prime", "_law_many"]
  f__law_same : Df K mg "_law_same" s__law_same ["_law_found", "_law_due"]
  f__law_common : Df K mg "_law_common" s__law_common ["_law_one", "_law_other"]
  f__law_number : Df K mg "_law_number" s__law_number ["_law_cell_here", "_law_most"]
  f__law_curve : Df K mg "_law_curve" s__law_curve ["_law_cell_here"]
  f_law : Df K mg "law" s_law ["_law_script"]
  z_abs : mg "abs" = none
  z_all : mg "all" = none
  z_bool : mg "bool" = none
  z_dict : mg "dict" = none
  z_int : mg "int" = none
  z_isinstance : mg "isinstance" = none
  z_len : mg "len" = none
  z_max : mg "max" = none
  z_range : mg "range" = none
  z_set : mg "set" = none
  z_sorted : mg "sorted" = none
  z_str : mg "str" = none
  z_tuple : mg "tuple" = none
  z_zip : mg "zip" = none



section
variable {P : Program} {w : World} {K : PySem.W.Frag} {mg : Str → Option Value} {base : Heap}

abbrev N_common : List Str := ["one", "other"]
theorem sc_common : FnScope N_common ["one", "other"] (defScope s_common) := ⟨rfl, rfl, rfl, by decide +kernel, rfl, by decide +kernel, by decide +kernel⟩


def t_common : List D → (D → Prop) → Prop := fun ds Q => ∃ a b : Int, ds = [.int a, .int b] ∧ Q (.int (Int.gcd a b))
theorem C_common (T : Top K mg base) : Has P w K mg base 1 "common" 2 t_common := by
  refine Df.has T.f_common sc_common rfl (fun cdv f A outer s H E F0 hr => (pssd_cons (psd_par (i := 0) (j := 1) rfl sc_common.nd rfl rfl (by decide) rfl rfl (pad_cons (pj_callB c_abs rfl T.z_abs (by decide +kernel) (dv 0)) (pad_cons (pj_callB c_abs rfl T.z_abs (by decide +kernel) (dv 1)) pad_nil)))
  ((pssd_cons (psd_while PassesOwn.never (ptd_tru (dv 1)) (pssd_one (psd_par (i := 0) (j := 1) rfl sc_common.nd rfl rfl (by decide) rfl rfl (pad_cons (dv 1) (pad_cons (pj_op o_mod (dv 0) (dv 1)) pad_nil)))))
  ((pssd_one (psd_ret (dv 0)))))))) ?_
  rintro ds Q hl ⟨a, b, rfl, q⟩
  walk_at "dl"
  refine dWhile_st (fun (p : Nat × Nat) => [some (.d (.int p.1)), some (.d (.int p.2))]) (fun p => Nat.gcd p.1 p.2 = Int.gcd a b) (fun p => p.2) (a.natAbs, b.natAbs) rfl rfl ?_
  rintro ⟨x, y⟩ hg
  walk_at "dl"
  dsimp only at hg
  by_cases h : y = 0
  · subst h
    rw [Nat.gcd_zero_right] at hg
    subst hg
    simpa using q
  · rw [if_pos (by first | omega | (simp; omega))]
    refine ⟨by omega, x % y, Nat.mod_lt _ (by omega), (y, x % y), rfl, Int.natCast_emod x y |>.symm, ?_, rfl⟩
    rw [← hg, Nat.gcd_comm x y, Nat.gcd_rec y x, Nat.gcd_comm]

abbrev N_fraction : List Str := ["upper", "lower", "by"]
theorem sc_fraction : FnScope N_fraction ["upper", "lower"] (defScope s_fraction) := ⟨rfl, rfl, rfl, by decide +kernel, rfl, by decide +kernel, by decide +kernel⟩


def t_fraction : List D → (D → Prop) → Prop := fun ds Q => ∃ u l : Int, ds = [.int u, .int l] ∧ l ≠ 0 ∧ l.natAbs < 2 ^ 9000 ∧ Q (frD (Rat.divInt u l))
theorem C_fraction (T : Top K mg base) : Has P w K mg base 2 "fraction" 2 t_fraction := by
  refine Df.has T.f_fraction sc_fraction rfl (fun cdv f A outer s H E F0 hr => (pssd_cons (psd_set (i := 2) sc_fraction.nd rfl (by first | exact Or.inl rfl | exact Or.inr rfl) (pd_fn (C_common T) (hr.mono (by decide)) (pad_cons (dv 0) (pad_cons (dv 1) pad_nil))))
  ((pssd_cons (psd_if (ptd_cmp o_lt (dv 1) pd_int) (pssd_one (psd_set (i := 2) sc_fraction.nd rfl (by first | exact Or.inl rfl | exact Or.inr rfl) (pj_op o_sub pd_int (dv 2)))) pssd_nil)
  ((pssd_one (psd_ret (pd_tup (pad_cons (pj_op o_divN (dv 0) (dv 2)) (pad_cons (pj_op o_divN (dv 1) (dv 2)) pad_nil)))))))))) ?_
  rintro ds Q hl ⟨u, l, rfl, h0, hb, q⟩
  walk_at "dl"
  simp only [t_common]
  walk_at "dl"
  have hg : (byOf u l).natAbs < 2 ^ 9000 := by
    rw [byOf_abs]
    exact Nat.lt_of_le_of_lt (Nat.le_of_dvd (by omega) (Int.gcd_dvd_natAbs_right u l)) hb
  have d1 : ∀ i, DivOk i (byOf u l) := fun i => divok (byOf_ne h0) 9000 hg
  have q' : Q (.tup [.int (u.fdiv (byOf u l)), .int (l.fdiv (byOf u l))]) := by
    rw [fr_num h0, fr_den h0]
    exact q
  unfold byOf at d1 q'
  by_cases h : l < 0
  · simp only [if_pos h] at d1 q' ⊢
    exact ⟨d1 _, d1 _, q'⟩
  · simp only [if_neg h] at d1 q' ⊢
    exact ⟨d1 _, d1 _, q'⟩

abbrev N_for_one : List Str := ["point", "x", "y", "lower"]
theorem sc_for_one : FnScope N_for_one ["point"] (defScope s_for_one) := ⟨rfl, rfl, rfl, by decide +kernel, rfl, by decide +kernel, by decide +kernel⟩


def t_for_one : List D → (D → Prop) → Prop := fun ds Q => ∃ x y : Rat, ds = [ptD x y] ∧ Bd x 2000 ∧ Bd y 2000 ∧ Q (forOne x y)
theorem C_for_one (T : Top K mg base) : Has P w K mg base 2 "for_one" 1 t_for_one := by
  refine Df.has T.f_for_one sc_for_one rfl (fun cdv f A outer s H E F0 hr => (pssd_cons (psd_asg (dv 0) (pgd_tup (n := 2) rfl (pgsd_cons (pgd_name (vs := allV) (i := 1) sc_for_one.nd rfl (by first | exact Or.inl rfl | exact Or.inr rfl)) (pgsd_cons (pgd_name (vs := allV) (i := 2) sc_for_one.nd rfl (by first | exact Or.inl rfl | exact Or.inr rfl)) pgsd_nil))))
  ((pssd_cons (psd_set (i := 3) sc_for_one.nd rfl (by first | exact Or.inl rfl | exact Or.inr rfl) (pj_op o_div (pj_op o_mul (pj_ix o_ix (dv 1) pd_int) (pj_ix o_ix (dv 2) pd_int)) (pd_fn (C_common T) (hr.mono (by decide)) (pad_cons (pj_ix o_ix (dv 1) pd_int) (pad_cons (pj_ix o_ix (dv 2) pd_int) pad_nil)))))
  ((pssd_one (psd_ret (pd_tup (pad_cons (dv 3) (pad_cons (pj_op o_mul (pj_ix o_ix (dv 1) pd_int) (pj_op o_div (dv 3) (pj_ix o_ix (dv 1) pd_int))) (pad_cons (pj_op o_mul (pj_ix o_ix (dv 2) pd_int) (pj_op o_div (dv 3) (pj_ix o_ix (dv 2) pd_int))) pad_nil))))))))))) ?_
  rintro ds Q hl ⟨x, y, rfl, hx, hy, q⟩
  unfold ptD
  walk_at "dl"
  refine ⟨mulok 2000 2000 hx.den' hy.den', _, _, rfl, ?_⟩
  walk_at "dl"
  have g0 := gcd_pos (u := (x.den : Int)) (l := (y.den : Int)) den_ne
  have g1 : (Int.gcd (x.den : Int) y.den : Int).natAbs < 2 ^ 2000 := by
    rw [Int.natAbs_natCast]
    exact Nat.lt_of_le_of_lt (Nat.le_of_dvd (by have := den_pos (q := x); omega) (Int.gcd_dvd_natAbs_left _ _)) hx.den'
  have l1 := low_lt hx hy
  have e1 : (low x y / (x.den : Int)).natAbs < 2 ^ 4000 := by
    rw [Int.natAbs_ediv_of_dvd (low_dvd_left x y)]
    exact Nat.lt_of_le_of_lt (Nat.div_le_self _ _) l1
  have e2 : (low x y / (y.den : Int)).natAbs < 2 ^ 4000 := by
    rw [Int.natAbs_ediv_of_dvd (low_dvd_right x y)]
    exact Nat.lt_of_le_of_lt (Nat.div_le_self _ _) l1
  refine ⟨by omega, divok (by omega) 2000 g1, den_pos, divok den_ne 2000 hx.den', mulok 2000 4000 hx.1 e1, den_pos, divok den_ne 2000 hy.den', mulok 2000 4000 hy.1 e2, q⟩

abbrev N_rank : List Str := ["point", "some", "one"]
theorem sc_rank : FnScope N_rank ["point"] (defScope s_rank) := ⟨rfl, rfl, rfl, by decide +kernel, rfl, by decide +kernel, by decide +kernel⟩


def t_rank : List D → (D → Prop) → Prop := fun ds Q => ∃ x y : Rat, ds = [ptD x y] ∧ Bd x 2000 ∧ Bd y 2000 ∧ Q (.tup [.int (sizeQ x y), forOne x y])
theorem C_rank (T : Top K mg base) : Has P w K mg base 3 "rank" 1 t_rank := by
  refine Df.has T.f_rank sc_rank rfl (fun cdv f A outer s H E F0 hr => (pssd_cons (psd_set (i := 1) sc_rank.nd rfl (by first | exact Or.inl rfl | exact Or.inr rfl) (pd_fn (C_for_one T) (hr.mono (by decide)) (pad_cons (dv 0) pad_nil)))
  ((pssd_one (psd_ret (pd_tup (pad_cons (pj_callB (c_maxL rfl) rfl T.z_max (by decide +kernel) (PN.pl (pn_lc (own := [("one", 2)]) rfl sc_rank.nd (PID.weak (pid_tup (dv 1))) (blkOk_by (N := N_rank) (sc := defScope s_rank) (by decide +kernel)) (fun _ _ _ _ _ => (pgd_name (vs := ([("one", 2)].map (·.2))) (i := 2) sc_rank.nd rfl (by first | exact Or.inl rfl | exact Or.inr rfl))) (fun _ _ _ _ _ => ptsd_nil) (fun _ _ _ _ _ => (pj_callB c_abs rfl T.z_abs (by decide +kernel) (dv 2)))))) (pad_cons (dv 1) pad_nil)))))))) ?_
  rintro ds Q hl ⟨x, y, rfl, hx, hy, q⟩
  walk_at "dl"
  refine ⟨x, y, rfl, hx, hy, ?_⟩
  unfold forOne
  walk_at "dl"
  unfold dLc
  walk_at "dl"
  refine lcGo_map (f := fun d => match d with | .int i => .int (i.natAbs : Int) | d => d) _ [] ?_ ?_
  · intro d hd R hR
    simp only [List.mem_cons, List.not_mem_nil, or_false] at hd
    rcases hd with rfl | rfl | rfl <;> (walk_at "dl"; exact hR)
  · walk_at "dl"
    refine ⟨[((low x y).natAbs : Int), ((up x y).natAbs : Int), ((up2 x y).natAbs : Int)], rfl, by simp, fun m hm hle => ?_⟩
    have e : m = sizeQ x y := by
      simp only [List.mem_cons, List.not_mem_nil, or_false] at hm hle
      have h1 := hle _ (.inl rfl)
      have h2 := hle _ (.inr (.inl rfl))
      have h3 := hle _ (.inr (.inr rfl))
      unfold sizeQ
      omega
    subst e
    exact q

abbrev N_point_of : List Str := ["upper", "other", "lower"]
theorem sc_point_of : FnScope N_point_of ["upper", "other", "lower"] (defScope s_point_of) := ⟨rfl, rfl, rfl, by decide +kernel, rfl, by decide +kernel, by decide +kernel⟩


def t_point_of : List D → (D → Prop) → Prop := fun ds Q => ∃ x y l : Int, ds = [.int x, .int y, .int l] ∧ 0 < l ∧ l.natAbs < 2 ^ 64 ∧ Q (ptD (Rat.divInt x l) (Rat.divInt y l))
theorem C_point_of (T : Top K mg base) : Has P w K mg base 3 "point_of" 3 t_point_of := by
  refine Df.has T.f_point_of sc_point_of rfl (fun cdv f A outer s H E F0 hr => (pssd_one (psd_ret (pd_tup (pad_cons (pd_fn (C_fraction T) (hr.mono (by decide)) (pad_cons (dv 0) (pad_cons (dv 2) pad_nil))) (pad_cons (pd_fn (C_fraction T) (hr.mono (by decide)) (pad_cons (dv 1) (pad_cons (dv 2) pad_nil))) pad_nil)))))) ?_
  rintro ds Q hl ⟨x, y, l, rfl, h1, h2, q⟩
  walk_at "dl"
  have hb : l.natAbs < 2 ^ 9000 := lt_pow_le h2 (by decide)
  exact ⟨x, l, rfl, by omega, hb, y, l, rfl, by omega, hb, q⟩

abbrev N_roots_of : List Str := ["most", "number"]
theorem sc_roots_of : FnScope N_roots_of ["most"] (defScope s_roots_of) := ⟨rfl, rfl, rfl, by decide +kernel, rfl, by decide +kernel, by decide +kernel⟩


def t_roots_of : List D → (D → Prop) → Prop := fun ds Q => ∃ m : Int, ds = [.int m] ∧ 0 ≤ m ∧ m ≤ 1000 ∧ Q (.dct (sqs m.toNat))
theorem C_roots_of (T : Top K mg base) : Has P w K mg base 1 "roots_of" 1 t_roots_of := by
  refine Df.has T.f_roots_of sc_roots_of rfl (fun cdv f A outer s H E F0 hr => (pssd_one (psd_ret (pj_callTy (c_dict rfl) rfl T.z_dict (by decide +kernel) (PN.pl (pn_lc (own := [("number", 1)]) rfl sc_roots_of.nd (PID.weak (pid_rng1 rfl T.z_range (pj_op o_add (dv 0) pd_int))) (blkOk_by (N := N_roots_of) (sc := defScope s_roots_of) (by decide +kernel)) (fun _ _ _ _ _ => (pgd_name (vs := ([("number", 1)].map (·.2))) (i := 1) sc_roots_of.nd rfl (by first | exact Or.inl rfl | exact Or.inr rfl))) (fun _ _ _ _ _ => ptsd_nil) (fun _ _ _ _ _ => (pd_tup (pad_cons (pj_op o_mul (dv 1) (dv 1)) (pad_cons (dv 1) pad_nil)))))))))) ?_
  rintro ds Q hl ⟨m, rfl, h1, h2, q⟩
  obtain ⟨M, rfl⟩ : ∃ M : Nat, m = M := ⟨m.toNat, by omega⟩
  unfold dLc
  walk_at "dl"
  refine ⟨by omega, by omega, by rw [rng_len]; exact Nat.le_trans (show _ ≤ 1001 by omega) (by decide), lcGo_map (f := sqP) _ [] ?_ ?_⟩
  · intro z hz W hW
    obtain ⟨k, hk⟩ := List.getElem?_of_mem hz
    obtain ⟨rfl, hk2⟩ := rng_get hk
    walk_at "dl"
    exact ⟨.inl (by omega), hW⟩
  · rw [List.nil_append, sqP_map]
    exact ⟨sqs M, rfl, sqs_nodup M, q⟩

abbrev N_pairs_for : List Str := ["curve", "lower", "most", "a", "b", "c", "roots", "found", "x", "rest", "y", "one"]
theorem sc_pairs_for : FnScope N_pairs_for ["curve", "lower", "most"] (defScope s_pairs_for) := ⟨rfl, rfl, rfl, by decide +kernel, rfl, by decide +kernel, by decide +kernel⟩


def t_pairs_for : List D → (D → Prop) → Prop := fun ds Q => ∃ a b c l m : Int, ds = [crD a b c, .int l, .int m] ∧ b ≠ 0 ∧ a.natAbs ≤ 1000 ∧ b.natAbs ≤ 1000 ∧ c.natAbs ≤ 1000 ∧ l.natAbs ≤ 1000 ∧ 0 ≤ m ∧ m ≤ 1000 ∧ Q (.lst ((pairsI a b c l m).map pairE))
theorem C_pairs_for (T : Top K mg base) : Has P w K mg base 2 "pairs_for" 3 t_pairs_for := by
  refine Df.has T.f_pairs_for sc_pairs_for rfl (fun cdv f A outer s H E F0 hr => (pssd_cons (psd_asg (dv 0) (pgd_tup (n := 3) rfl (pgsd_cons (pgd_name (vs := allV) (i := 3) sc_pairs_for.nd rfl (by first | exact Or.inl rfl | exact Or.inr rfl)) (pgsd_cons (pgd_name (vs := allV) (i := 4) sc_pairs_for.nd rfl (by first | exact Or.inl rfl | exact Or.inr rfl)) (pgsd_cons (pgd_name (vs := allV) (i := 5) sc_pairs_for.nd rfl (by first | exact Or.inl rfl | exact Or.inr rfl)) pgsd_nil)))))
  ((pssd_cons (psd_set (i := 6) sc_pairs_for.nd rfl (by first | exact Or.inl rfl | exact Or.inr rfl) (pd_fn (C_roots_of T) (hr.mono (by decide)) (pad_cons (dv 2) pad_nil)))
  ((pssd_cons (psd_setN (i := 7) sc_pairs_for.nd rfl (by first | exact Or.inl rfl | exact Or.inr rfl) (pn_lst pad_nil))
  ((pssd_cons (psd_for PassesOwn.never rfl (pid_rng2 rfl T.z_range (pj_op o_sub pd_int (dv 2)) (pj_op o_add (dv 2) pd_int)) (pgd_name (vs := allV) (i := 8) sc_pairs_for.nd rfl (by first | exact Or.inl rfl | exact Or.inr rfl)) (pssd_cons (psd_set (i := 9) sc_pairs_for.nd rfl (by first | exact Or.inl rfl | exact Or.inr rfl) (pj_op o_sub (pj_op o_mul (pj_op o_mul (dv 5) (dv 1)) (dv 1)) (pj_op o_mul (pj_op o_mul (dv 3) (dv 8)) (dv 8))))
  ((pssd_one (psd_if (PWD.pt (pwd_and (ptd_cmp (o_eq hr.units) (pj_op o_modN (dv 9) (dv 4)) pd_int) (pwd_and1 (ptd_in_dict (units1 hr) (pj_op o_divN (dv 9) (dv 4)) (dv 6))))) (pssd_cons (psd_set (i := 10) sc_pairs_for.nd rfl (by first | exact Or.inl rfl | exact Or.inr rfl) (pd_dget (units1 hr) (dv 6) (pj_op o_divN (dv 9) (dv 4))))
  ((pssd_one (psd_ext (i := 7) (pv 7) (PN.pl (pn_lc (own := [("one", 11)]) rfl sc_pairs_for.nd (PID.weak (pid_lst (PN.pd (pn_callB (c_sortS rfl) rfl T.z_sorted (by decide +kernel) (pj_callTy (c_setI rfl) rfl T.z_set (by decide +kernel) (PN.pl (pn_lst (pad_cons (pj_op o_sub pd_int (dv 10)) (pad_cons (dv 10) pad_nil))))))))) (blkOk_by (N := N_pairs_for) (sc := defScope s_pairs_for) (by decide +kernel)) (fun _ _ _ _ _ => (pgd_name (vs := ([("one", 11)].map (·.2))) (i := 11) sc_pairs_for.nd rfl (by first | exact Or.inl rfl | exact Or.inr rfl))) (fun _ _ _ _ _ => ptsd_nil) (fun _ _ _ _ _ => (pd_tup (pad_cons (dv 8) (pad_cons (dv 11) pad_nil)))))))))) pssd_nil)))))
  ((pssd_frz (i := 7) <| pssd_one (psd_ret (dv 7)))))))))))) ?_
  rintro ds Q hl ⟨a, b, c, l, m, rfl, hb, a1, b1, c1, l1, m0, m1, q⟩
  unfold crD
  walk_at "dl"
  refine ⟨m, rfl, m0, m1, ?_⟩
  refine dFor_i (rng (0 - m) (m + 1)) (fun Q h => ?_) (fun i ρ => ∃ o8 o9 o10, ρ = [some (.d (.tup [.int a, .int b, .int c])), some (.d (.int l)), some (.d (.int m)), some (.d (.int a)), some (.d (.int b)), some (.d (.int c)), some (.d (.dct (sqs m.toNat))), some (.own ((pairsN a b c l m i).map pairE)), o8, o9, o10, none]) ⟨_, _, _, rfl⟩ ?_ ?_
  · walk_at "dl"
    exact ⟨by omega, by omega, by omega, by omega, h⟩
  · rintro i x ρ hx ⟨o8, o9, o10, rfl⟩
    obtain ⟨rfl, hi⟩ := rng_get hx
    have hlen := pairsN_len a b c l m i
    have hwd : wd m ≤ 2001 := by unfold wd; omega
    have hmul := Nat.mul_le_mul (show i ≤ 2001 by omega) hwd
    have hrow := ysI_len a b c l m (0 - m + i)
    rw [pairsN_succ]
    generalize hX : (0 - m + (i : Int)) = X at *
    have hc' : c.natAbs < 2 ^ 10 := by omega
    have hl' : l.natAbs < 2 ^ 10 := by omega
    have ha' : a.natAbs < 2 ^ 10 := by omega
    have hX' : X.natAbs < 2 ^ 10 := by omega
    have hcl := mul_lt_pow hc' hl'
    have haX := mul_lt_pow ha' hX'
    have hcll := mul_lt_pow hcl hl'
    have haXX := mul_lt_pow haX hX'
    have hC : (c * l * l - a * X * X).natAbs < 2 ^ 31 := by
      generalize c * l * l = u at *
      generalize a * X * X = v at *
      omega
    have hY2 := fun (y : Int) => @ysI_two _ a b c l m X y hb
    have hY0 := @ysI_none _ a b c l m X hb
    have hbb : b.natAbs < 2 ^ 31 := by omega
    have hrow' : ((ysI a b c l m X).map fun y => (X, y)).length ≤ 2001 := by
      rw [List.length_map]
      omega
    walk_at "dl"
    refine ⟨mulok 10 10 hc' hl', mulok 20 10 hcl hl', mulok 10 10 ha' hX', mulok 20 10 haX hX', hb, ?_⟩
    generalize c * l * l - a * X * X = C at *
    by_cases hm : C % b = 0
    · rw [if_pos (by rw [beq_iff_eq]; exact fm_zero.mpr hm), fd_eq hm]
      refine ⟨divok hb 31 hbb, _, rfl, ?_⟩
      cases hg : getI (sqs m.toNat) (C / b) with
      | none =>
        rw [if_neg (by decide)]
        have e := hY0 fun _ y h0 h1 h2 => by
          rw [(sqs_get m0).mpr ⟨h0, h1, h2⟩] at hg
          cases hg
        rw [e, List.map_nil, List.append_nil]
      | some y =>
        rw [if_pos (show (some y).isSome = true from rfl)]
        obtain ⟨y0, y1, y2⟩ := (sqs_get m0).mp hg
        refine ⟨divok hb 31 hbb, _, rfl, y, hg, ?_⟩
        unfold dLc
        walk_at "dl"
        refine ⟨[0 - y, y], rfl, by simp, by simp, fun ms hms hmem => ?_⟩
        have e := hY2 y y0 y1 hm y2.symm hms hmem
        subst e
        have hms3 : (ysI a b c l m X).length ≤ 2001 := by omega
        refine ⟨by rw [List.length_map]; exact Nat.le_trans hms3 (by decide), lcGo_map (f := fun d => match d with | .int k => .tup [.int X, .int k] | d => d) _ [] (fun z hz W hW => ?_) ?_⟩
        · obtain ⟨k, hk, rfl⟩ := List.mem_map.mp hz
          walk_at "dl"
          exact hW
        · rw [List.nil_append, List.map_map, List.map_append, List.map_map]
          refine ⟨?_, rfl⟩
          rw [List.length_map, List.length_map]
          exact Nat.le_trans (show _ ≤ 2001 * 2001 + 2001 by omega) (by decide)
    · rw [if_neg (by rw [beq_iff_eq]; exact fun h => hm (fm_zero.mp h)), hY0 fun h => absurd h hm, List.map_nil, List.append_nil]
  · rintro ρ ⟨o8, o9, o10, rfl⟩
    have e : (rng (0 - m) (m + 1)).length = wd m := by
      rw [rng_len]
      unfold wd
      omega
    rw [e]
    walk_at "dl"
    exact q

abbrev N_points : List Str := ["curve", "most", "found", "lower", "x", "y"]
theorem sc_points : FnScope N_points ["curve", "most"] (defScope s_points) := ⟨rfl, rfl, rfl, by decide +kernel, rfl, by decide +kernel, by decide +kernel⟩


def t_points : List D → (D → Prop) → Prop := fun ds Q => ∃ a b c m : Int, ds = [crD a b c, .int m] ∧ b ≠ 0 ∧ a.natAbs ≤ 1000 ∧ b.natAbs ≤ 1000 ∧ c.natAbs ≤ 1000 ∧ 0 ≤ m ∧ m ≤ 100 ∧ Q (.tup (((tripsN a b c m m.toNat).mergeSort leT).map ptT3))
theorem C_points (T : Top K mg base) : Has P w K mg base 7 "points" 2 t_points := by
  refine DfL.has T.f_points sc_points rfl (fun c Pt TB h1 h2 f A outer s H E F0 hr => (pssd_cons (psd_setN (i := 2) sc_points.nd rfl (by first | exact Or.inl rfl | exact Or.inr rfl) (pn_lst pad_nil))
  ((pssd_cons (psd_for PassesOwn.never rfl (pid_rng2 rfl T.z_range pd_int (pj_op o_add (dv 1) pd_int)) (pgd_name (vs := allV) (i := 3) sc_points.nd rfl (by first | exact Or.inl rfl | exact Or.inr rfl)) (pssd_one (psd_for PassesOwn.never rfl (pid_lst (pd_fn (C_pairs_for T) (hr.mono (by decide)) (pad_cons (dv 0) (pad_cons (dv 3) (pad_cons (dv 1) pad_nil))))) (pgd_tup (n := 2) rfl (pgsd_cons (pgd_name (vs := allV) (i := 4) sc_points.nd rfl (by first | exact Or.inl rfl | exact Or.inr rfl)) (pgsd_cons (pgd_name (vs := allV) (i := 5) sc_points.nd rfl (by first | exact Or.inl rfl | exact Or.inr rfl)) pgsd_nil))) (pssd_one (psd_if (ptd_cmp (o_eq hr.units) (pd_fn (C_common T) (hr.mono (by decide)) (pad_cons (pd_fn (C_common T) (hr.mono (by decide)) (pad_cons (dv 4) (pad_cons (dv 5) pad_nil))) (pad_cons (dv 3) pad_nil))) pd_int) (pssd_one (psd_app (i := 2) (pv 2) (pd_fn (C_point_of T) (hr.mono (by decide)) (pad_cons (dv 4) (pad_cons (dv 5) (pad_cons (dv 3) pad_nil)))))) pssd_nil)))))
  ((pssd_one (psd_ret (pj_callTy c_tupL rfl T.z_tuple (by decide +kernel) (PN.pl (pn_sortK (k := 3) (N := ["point"]) rfl T.z_sorted (by decide +kernel) (ov 2) TB rfl h1 h2 (hr.mono (by decide)) ⟨rfl, rfl, rfl, by decide +kernel, rfl, by decide +kernel, by decide +kernel⟩ rfl (fun _ _ _ _ _ => rfl) (fun q f c' A outer s F1 H hr2 => (pd_fn (C_rank T) (hr2.mono (by decide)) (pad_cons (dv 0) pad_nil))))))))))))) ?_
  rintro ds Q hl ⟨a, b, c, m, rfl, hb, a1, b1, c1, m0, m1, q⟩
  walk_at "dl"
  refine dFor_i (rng 1 (m + 1)) (fun Q h => ?_) (fun i ρ => ∃ o3 o4 o5, ρ = [some (.d (crD a b c)), some (.d (.int m)), some (.own ((tripsN a b c m i).map ptT3)), o3, o4, o5]) ⟨_, _, _, rfl⟩ ?_ ?_
  · walk_at "dl"
    exact ⟨by omega, by omega, by omega, by omega, h⟩
  · rintro i x ρ hx ⟨o3, o4, o5, rfl⟩
    obtain ⟨rfl, hi⟩ := rng_get hx
    rw [tripsN_succ]
    have hlen := tripsN_len a b c m i
    have hwd : wd m ≤ 201 := by unfold wd; omega
    have hmul := Nat.mul_le_mul (show i ≤ 100 by omega) (Nat.mul_le_mul hwd hwd)
    have hpl : (pairsI a b c (1 + (i : Int)) m).length ≤ 201 * 201 := Nat.le_trans (pairsN_len a b c (1 + (i : Int)) m (wd m)) (Nat.mul_le_mul hwd hwd)
    walk_at "dl"
    refine dFor_i ((pairsI a b c (1 + (i : Int)) m).map pairE) (fun Q h => ?_) (fun j ρ => ∃ o4 o5, ρ = [some (.d (crD a b c)), some (.d (.int m)), some (.own ((tripsN a b c m i ++ (((pairsI a b c (1 + (i : Int)) m).take j).filter (coT (1 + (i : Int)))).map fun p => (1 + (i : Int), p.1, p.2)).map ptT3)), some (.d (.int (1 + (i : Int)))), o4, o5]) ⟨o4, o5, by simp⟩ ?_ ?_
    · walk_at "dl"
      exact ⟨a, b, c, _, m, rfl, hb, a1, b1, c1, by omega, m0, by omega, _, rfl, h⟩
    · rintro j x ρ hx2 ⟨o4, o5, rfl⟩
      rw [List.getElem?_map] at hx2
      cases hg : (pairsI a b c (1 + (i : Int)) m)[j]? with
      | none => rw [hg] at hx2; cases hx2
      | some p =>
        rw [hg] at hx2
        cases hx2
        obtain ⟨px, py⟩ := p
        have hjl := (List.getElem?_eq_some_iff.mp hg).1
        have et : (pairsI a b c (1 + (i : Int)) m).take (j + 1) = (pairsI a b c (1 + (i : Int)) m).take j ++ [(px, py)] := by rw [List.take_add_one, hg]; rfl
        have hfl := List.length_filter_le (coT (1 + (i : Int))) ((pairsI a b c (1 + (i : Int)) m).take j)
        rw [List.length_take] at hfl
        rw [et]
        walk_at "dl"
        refine ⟨px, py, rfl, _, _, rfl, rfl, ?_⟩
        rw [eqD_int, List.filter_append]
        by_cases hco : Int.gcd (Int.gcd px py) (1 + (i : Int)) = 1
        · have e1 : List.filter (coT (1 + (i : Int))) [(px, py)] = [(px, py)] := by
            rw [List.filter_cons_of_pos (show coT (1 + (i : Int)) (px, py) = true from decide_eq_true hco)]
            rfl
          rw [hco, e1, if_pos (by decide)]
          refine ⟨?_, px, py, 1 + (i : Int), rfl, by omega, by omega, ?_⟩
          · rw [List.length_map, List.length_append, List.length_map]
            exact Nat.lt_of_le_of_lt (show _ ≤ 100 * (201 * 201) + 201 * 201 by omega) (by decide)
          · dsimp only
            rw [List.map_append, List.map_append, List.map_append, List.map_append, List.map_singleton, List.map_singleton, List.append_assoc]
            rfl
        · have e1 : List.filter (coT (1 + (i : Int))) [(px, py)] = [] := by
            rw [List.filter_cons_of_neg (show ¬ coT (1 + (i : Int)) (px, py) = true from fun h => hco (of_decide_eq_true h))]
            rfl
          rw [e1, List.append_nil, if_neg (by rw [beq_iff_eq]; omega)]
    · rintro ρ ⟨o4, o5, rfl⟩
      rw [List.length_map, List.take_length]
      exact ⟨_, _, _, rfl⟩
  · rintro ρ ⟨o3, o4, o5, rfl⟩
    rw [rng_len, show (m + 1 - 1).toNat = m.toNat by omega]
    have hT : ∀ t ∈ tripsN a b c m m.toNat, Tok3 t := fun t ht => (tripsN_mem ht).1
    walk_at "dl"
    refine ⟨keyP, fun d hd => ?_, sortOk_keys hT, ?_⟩
    · obtain ⟨t, ht, rfl⟩ := List.mem_map.mp hd
      obtain ⟨h1, h2, h3, h4⟩ := tripsN_mem ht
      have hp := h1.pos
      refine ⟨_, _, rfl, Bd.divInt (by omega) ?_ ?_, Bd.divInt (by omega) ?_ ?_, (keyP_pt _ _).symm⟩ <;> exact lt_pow_le (m := 20) (by omega) (by decide)
    · rw [sort_points hT]
      exact q

abbrev N_first_point : List Str := ["curve", "most", "found"]
theorem sc_first_point : FnScope N_first_point ["curve", "most"] (defScope s_first_point) := ⟨rfl, rfl, rfl, by decide +kernel, rfl, by decide +kernel, by decide +kernel⟩


def t_first_point : List D → (D → Prop) → Prop := fun ds Q => ∃ a b c m : Int, ds = [crD a b c, .int m] ∧ b ≠ 0 ∧ a.natAbs ≤ 1000 ∧ b.natAbs ≤ 1000 ∧ c.natAbs ≤ 1000 ∧ 0 ≤ m ∧ m ≤ 100 ∧ Q (((((tripsN a b c m m.toNat).mergeSort leT).map ptT3)[0]?).getD .non)
theorem C_first_point (T : Top K mg base) : Has P w K mg base 8 "first_point" 2 t_first_point := by
  refine Df.has T.f_first_point sc_first_point rfl (fun cdv f A outer s H E F0 hr => (pssd_cons (psd_set (i := 2) sc_first_point.nd rfl (by first | exact Or.inl rfl | exact Or.inr rfl) (pd_fn (C_points T) (hr.mono (by decide)) (pad_cons (dv 0) (pad_cons (dv 1) pad_nil))))
  ((pssd_cons (psd_if (ptd_not (ptd_tru (dv 2))) (pssd_one (psd_ret pd_non)) pssd_nil)
  ((pssd_one (psd_ret (pj_ix o_ix (dv 2) pd_int)))))))) ?_
  rintro ds Q hl ⟨a, b, c, m, rfl, hb, a1, b1, c1, m0, m1, q⟩
  walk_at "dl"
  refine ⟨a, b, c, m, rfl, hb, a1, b1, c1, m0, m1, ?_⟩
  cases e : ((tripsN a b c m m.toNat).mergeSort leT).map ptT3 with
  | nil =>
    rw [e] at q
    exact ⟨false, rfl, by rw [if_pos rfl]; exact q⟩
  | cons d l =>
    rw [e] at q
    exact ⟨true, rfl, by rw [if_neg (by decide)]; exact ⟨d, ixV_tup.mpr (atI_nat (xs := d :: l) (j := 0) rfl), q⟩⟩

abbrev N_whole_points : List Str := ["curve", "most"]
theorem sc_whole_points : FnScope N_whole_points ["curve", "most"] (defScope s_whole_points) := ⟨rfl, rfl, rfl, by decide +kernel, rfl, by decide +kernel, by decide +kernel⟩


def t_whole_points : List D → (D → Prop) → Prop := fun ds Q => ∃ a b c m : Int, ds = [crD a b c, .int m] ∧ b ≠ 0 ∧ a.natAbs ≤ 1000 ∧ b.natAbs ≤ 1000 ∧ c.natAbs ≤ 1000 ∧ 0 ≤ m ∧ m ≤ 1000 ∧ Q (.tup ((pairsI a b c 1 m).map pairE))
theorem C_whole_points (T : Top K mg base) : Has P w K mg base 3 "whole_points" 2 t_whole_points := by
  refine Df.has T.f_whole_points sc_whole_points rfl (fun cdv f A outer s H E F0 hr => (pssd_one (psd_ret (pj_callTy c_tupL rfl T.z_tuple (by decide +kernel) (PJ.lst (pd_fn (C_pairs_for T) (hr.mono (by decide)) (pad_cons (dv 0) (pad_cons pd_int (pad_cons (dv 1) pad_nil))))))))) ?_
  rintro ds Q hl ⟨a, b, c, m, rfl, hb, a1, b1, c1, m0, m1, q⟩
  walk_at "dl"
  exact ⟨a, b, c, 1, m, rfl, hb, a1, b1, c1, by decide, m0, m1, _, rfl, q⟩

abbrev N__law_cell : List Str := ["_law_script", "_law_k"]
theorem sc__law_cell : FnScope N__law_cell ["_law_script", "_law_k"] (defScope s__law_cell) := ⟨rfl, rfl, rfl, by decide +kernel, rfl, by decide +kernel, by decide +kernel⟩


def t__law_cell : List D → (D → Prop) → Prop := fun ds Q => ∃ (ns : List Int) (k : Int), ds = [.scr ns, .int k] ∧ 0 ≤ k ∧ ns.length ≤ 63 ∧ Q (.int (cellOf ns k.toNat))
theorem C__law_cell (T : Top K mg base) : Has P w K mg base 1 "_law_cell" 2 t__law_cell := by
  refine Df.has T.f__law_cell sc__law_cell rfl (fun cdv f A outer s H E F0 hr => (pssd_cons (psd_if (ptd_cmp o_lt (dv 1) (pj_callB c_len rfl T.z_len (by decide +kernel) (dv 0))) (pssd_one (psd_ret (pj_ix o_ix (dv 0) (dv 1)))) pssd_nil)
  ((pssd_one (psd_ret pd_int))))) ?_
  rintro ds Q hl ⟨ns, k, rfl, h0, hn, q⟩
  walk_at "dl"
  unfold cellOf at q
  by_cases h : k < ns.length
  · rw [if_pos h]
    have hk : k.toNat < ns.length := by omega
    have ek : k = ((k.toNat : Nat) : Int) := by omega
    refine ⟨_, ⟨_, by rw [ek]; exact atI_nat (List.getElem?_eq_getElem hk), rfl⟩, ?_⟩
    rw [List.getD_eq_getElem?_getD, List.getElem?_eq_getElem hk] at q
    exact q
  · rw [if_neg h]
    rw [List.getD_eq_getElem?_getD, List.getElem?_eq_none (by omega)] at q
    exact q

abbrev N__law_mix : List Str := ["_law_cell_here", "_law_prime", "_law_many", "_law_blend"]
theorem sc__law_mix : FnScope N__law_mix ["_law_cell_here", "_law_prime", "_law_many"] (defScope s__law_mix) := ⟨rfl, rfl, rfl, by decide +kernel, rfl, by decide +kernel, by decide +kernel⟩


def t__law_mix : List D → (D → Prop) → Prop := fun ds Q => ∃ c p m : Int, ds = [.int c, .int p, .int m] ∧ 0 < p ∧ p < 2 ^ 60 ∧ 0 < m ∧ Q (.int (mixOf c p m))
theorem C__law_mix (T : Top K mg base) : Has P w K mg base 1 "_law_mix" 3 t__law_mix := by
  refine Df.has T.f__law_mix sc__law_mix rfl (fun cdv f A outer s H E F0 hr => (pssd_cons (psd_set (i := 3) sc__law_mix.nd rfl (by first | exact Or.inl rfl | exact Or.inr rfl) (pj_op o_mod (pj_op o_mul (dv 0) pd_int) (dv 1)))
  ((pssd_one (psd_ret (pj_op o_mod (pj_op o_mod (pj_op o_mul (dv 3) (pj_op o_add (dv 3) pd_int)) (dv 1)) (dv 2))))))) ?_
  rintro ds Q hl ⟨c, p, m, rfl, hp, hp2, hm, q⟩
  walk_at "dl"
  have h1 := Int.emod_nonneg (c * 48271) (show p ≠ 0 by omega)
  have h2 := Int.emod_lt_of_pos (c * 48271) hp
  exact ⟨.inr (.inl (by decide)), hp, .inl (by omega), hp, hm, q⟩

abbrev N__law_same : List Str := ["_law_found", "_law_due", "_law_one", "_law_other"]
theorem sc__law_same : FnScope N__law_same ["_law_found", "_law_due"] (defScope s__law_same) := ⟨rfl, rfl, rfl, by decide +kernel, rfl, by decide +kernel, by decide +kernel⟩


def t__law_same : Nat → List D → (D → Prop) → Prop
  | 0 => fun _ _ => False
  | n + 1 => fun ds Q => ∃ d, ds = [d, d] ∧ simD n d = true ∧ Q (.bl true)
theorem C__law_same (T : Top K mg base) : ∀ n, Has P w K mg base n "_law_same" 2 (t__law_same n)
  | 0 => T.f__law_same.never
  | n + 1 => by
    have C_rec := C__law_same T n
    refine Df.has T.f__law_same sc__law_same rfl (fun cdv f A outer s H E F0 hr => (pssd_cons (psd_if (ptd_val (pd_isi (T := "tuple") rfl T.z_isinstance rfl T.z_tuple (by decide +kernel) (dv 1))) (pssd_cons (psd_if (PWD.pt (pwd_or (ptd_not (ptd_val (pd_isi (T := "tuple") rfl T.z_isinstance rfl T.z_tuple (by decide +kernel) (dv 0)))) (pwd_or1 (ptd_cmp (o_ne hr.units) (pj_callB c_len rfl T.z_len (by decide +kernel) (dv 0)) (pj_callB c_len rfl T.z_len (by decide +kernel) (dv 1)))))) (pssd_one (psd_ret pd_bl)) pssd_nil)
  ((pssd_one (psd_ret (pj_callB (c_all rfl) rfl T.z_all (by decide +kernel) (PN.pl (pn_lc (own := [("_law_one", 2), ("_law_other", 3)]) rfl sc__law_same.nd (PID.weak (pid_zipT rfl T.z_zip (dv 0) (dv 1))) (blkOk_by (N := N__law_same) (sc := defScope s__law_same) (by decide +kernel)) (fun _ _ _ _ _ => (pgd_tup (n := 2) rfl (pgsd_cons (pgd_name (vs := ([("_law_one", 2), ("_law_other", 3)].map (·.2))) (i := 2) sc__law_same.nd rfl (by first | exact Or.inl rfl | exact Or.inr rfl)) (pgsd_cons (pgd_name (vs := ([("_law_one", 2), ("_law_other", 3)].map (·.2))) (i := 3) sc__law_same.nd rfl (by first | exact Or.inl rfl | exact Or.inr rfl)) pgsd_nil)))) (fun _ _ _ _ _ => ptsd_nil) (fun _ _ _ _ _ => (pd_fn C_rec hr (pad_cons (dv 2) (pad_cons (dv 3) pad_nil))))))))))) pssd_nil)
  ((pssd_cons (psd_if (ptd_cmp o_isN (dv 1) pd_non) (pssd_one (psd_ret (pd_cmp o_isN (dv 0) pd_non))) pssd_nil)
  ((pssd_cons (psd_if (PWD.pt (pwd_or (ptd_val (pd_isi (T := "bool") rfl T.z_isinstance rfl T.z_bool (by decide +kernel) (dv 1))) (pwd_or1 (ptd_val (pd_isi (T := "bool") rfl T.z_isinstance rfl T.z_bool (by decide +kernel) (dv 0)))))) (pssd_one (psd_ret (pd_and (pd_isi (T := "bool") rfl T.z_isinstance rfl T.z_bool (by decide +kernel) (dv 1)) (pd_and (pd_isi (T := "bool") rfl T.z_isinstance rfl T.z_bool (by decide +kernel) (dv 0)) (pd_one (pd_cmp (o_eq hr.units) (dv 0) (dv 1))))))) pssd_nil)
  ((pssd_one (psd_ret (pd_and (pd_isi2 (S := "int") (T := "str") rfl T.z_isinstance rfl T.z_int (by decide +kernel) rfl T.z_str (by decide +kernel) (dv 0)) (pd_one (pd_cmp (o_eq hr.units) (dv 0) (dv 1))))))))))))) ?_
    rintro ds Q hl ⟨d, rfl, hs, q⟩
    cases d with
    | tup l =>
      cases n with
      | zero => simp [simD] at hs
      | succ n =>
        have hs : (decide (l.length ≤ 100000) && l.all (simD n)) = true := hs
        rw [Bool.and_eq_true, decide_eq_true_eq, List.all_eq_true] at hs
        walk_at "dl"
        rw [if_neg (by simp)]
        unfold dLc
        walk_at "dl"
        refine ⟨by rw [zipD_len]; exact Nat.le_trans (by omega) (show 100000 ≤ sizeLine by decide), ?_⟩
        refine lcGo_map (f := fun _ => .bl true) _ [] ?_ ?_
        · intro x hx R hR
          obtain ⟨i, hi⟩ := List.getElem?_of_mem hx
          obtain ⟨d, e, h1, h2, rfl⟩ := zipD_get hi
          rw [h1] at h2
          cases h2
          walk_at "dl"
          exact ⟨d, rfl, hs.2 d (List.mem_of_getElem? h1), hR⟩
        · refine ⟨List.replicate (zipD l l).length true, ?_, ?_⟩
          · rw [List.nil_append, List.map_replicate, List.map_const']
          · rw [List.all_replicate]
            simpa using q
    | non => walk_at "dl"; exact q
    | bl b => walk_at "dl"; simpa using q
    | int b => walk_at "dl"; simpa using q
    | str b => walk_at "dl"; simpa using q
    | lst l => simp [simD] at hs
    | dct l => simp [simD] at hs
    | scr l => simp [simD] at hs
    | exc l => simp [simD] at hs

abbrev N__law_common : List Str := ["_law_one", "_law_other"]
theorem sc__law_common : FnScope N__law_common ["_law_one", "_law_other"] (defScope s__law_common) := ⟨rfl, rfl, rfl, by decide +kernel, rfl, by decide +kernel, by decide +kernel⟩


def t__law_common : List D → (D → Prop) → Prop := fun ds Q => ∃ a b : Int, ds = [.int a, .int b] ∧ Q (.int (Int.gcd a b))
theorem C__law_common (T : Top K mg base) : Has P w K mg base 1 "_law_common" 2 t__law_common := by
  refine Df.has T.f__law_common sc__law_common rfl (fun cdv f A outer s H E F0 hr => (pssd_cons (psd_par (i := 0) (j := 1) rfl sc__law_common.nd rfl rfl (by decide) rfl rfl (pad_cons (pj_callB c_abs rfl T.z_abs (by decide +kernel) (dv 0)) (pad_cons (pj_callB c_abs rfl T.z_abs (by decide +kernel) (dv 1)) pad_nil)))
  ((pssd_cons (psd_while PassesOwn.never (ptd_cmp o_gt (dv 1) pd_int) (pssd_one (psd_par (i := 0) (j := 1) rfl sc__law_common.nd rfl rfl (by decide) rfl rfl (pad_cons (dv 1) (pad_cons (pj_op o_mod (dv 0) (dv 1)) pad_nil)))))
  ((pssd_one (psd_ret (dv 0)))))))) ?_
  rintro ds Q hl ⟨a, b, rfl, q⟩
  walk_at "dl"
  refine dWhile_st (fun (p : Nat × Nat) => [some (.d (.int p.1)), some (.d (.int p.2))]) (fun p => Nat.gcd p.1 p.2 = Int.gcd a b) (fun p => p.2) (a.natAbs, b.natAbs) rfl rfl ?_
  rintro ⟨x, y⟩ hg
  walk_at "dl"
  dsimp only at hg
  by_cases h : y = 0
  · subst h
    rw [Nat.gcd_zero_right] at hg
    subst hg
    simpa using q
  · rw [if_pos (by first | omega | (simp; omega))]
    refine ⟨by omega, x % y, Nat.mod_lt _ (by omega), (y, x % y), rfl, Int.natCast_emod x y |>.symm, ?_, rfl⟩
    rw [← hg, Nat.gcd_comm x y, Nat.gcd_rec y x, Nat.gcd_comm]

abbrev N__law_number : List Str := ["_law_cell_here", "_law_most", "_law_found"]
theorem sc__law_number : FnScope N__law_number ["_law_cell_here", "_law_most"] (defScope s__law_number) := ⟨rfl, rfl, rfl, by decide +kernel, rfl, by decide +kernel, by decide +kernel⟩


def t__law_number : List D → (D → Prop) → Prop := fun ds Q => ∃ c m : Int, ds = [.int c, .int m] ∧ 0 < m ∧ m < 2 ^ 50 ∧ Q (.int (numOf c m))
theorem C__law_number (T : Top K mg base) : Has P w K mg base 2 "_law_number" 2 t__law_number := by
  refine Df.has T.f__law_number sc__law_number rfl (fun cdv f A outer s H E F0 hr => (pssd_cons (psd_set (i := 2) sc__law_number.nd rfl (by first | exact Or.inl rfl | exact Or.inr rfl) (pj_op o_sub (pd_fn (C__law_mix T) (hr.mono (by decide)) (pad_cons (dv 0) (pad_cons pd_int (pad_cons (pj_op o_mul pd_int (dv 1)) pad_nil)))) (dv 1)))
  ((pssd_one (psd_ret (pd_if (ptd_cmp o_lt (dv 2) pd_int) (dv 2) (pj_op o_add (dv 2) pd_int))))))) ?_
  rintro ds Q hl ⟨c, m, rfl, hm, hm2, q⟩
  walk_at "dl"
  refine ⟨.inl (by decide), _, _, _, rfl, by decide, by decide, by omega, ?_⟩
  walk_at "dl"
  unfold numOf at q
  split <;> rename_i h
  · rw [if_pos h] at q; exact q
  · rw [if_neg h] at q; exact q

abbrev N__law_curve : List Str := ["_law_cell_here", "_law_a", "_law_b", "_law_c", "_law_x", "_law_y"]
theorem sc__law_curve : FnScope N__law_curve ["_law_cell_here"] (defScope s__law_curve) := ⟨rfl, rfl, rfl, by decide +kernel, rfl, by decide +kernel, by decide +kernel⟩


def t__law_curve : List D → (D → Prop) → Prop := fun ds Q => ∃ c : Int, ds = [.int c] ∧ Q (curveOf c).d
theorem C__law_curve (T : Top K mg base) : Has P w K mg base 3 "_law_curve" 1 t__law_curve := by
  refine Df.has T.f__law_curve sc__law_curve rfl (fun cdv f A outer s H E F0 hr => (pssd_cons (psd_par (i := 1) (j := 2) rfl sc__law_curve.nd rfl rfl (by decide) rfl rfl (pad_cons (pd_fn (C__law_number T) (hr.mono (by decide)) (pad_cons (dv 0) (pad_cons pd_int pad_nil))) (pad_cons (pd_fn (C__law_number T) (hr.mono (by decide)) (pad_cons (pj_op o_add (dv 0) pd_int) (pad_cons pd_int pad_nil))) pad_nil)))
  ((pssd_cons (psd_set (i := 3) sc__law_curve.nd rfl (by first | exact Or.inl rfl | exact Or.inr rfl) (pd_fn (C__law_number T) (hr.mono (by decide)) (pad_cons (pj_op o_add (dv 0) pd_int) (pad_cons pd_int pad_nil))))
  ((pssd_cons (psd_if (ptd_cmp o_gt (pd_fn (C__law_mix T) (hr.mono (by decide)) (pad_cons (dv 0) (pad_cons pd_int (pad_cons pd_int pad_nil)))) pd_int) (pssd_cons (psd_par (i := 1) (j := 2) rfl sc__law_curve.nd rfl rfl (by decide) rfl rfl (pad_cons (pd_fn (C__law_number T) (hr.mono (by decide)) (pad_cons (dv 0) (pad_cons pd_int pad_nil))) (pad_cons (pd_fn (C__law_number T) (hr.mono (by decide)) (pad_cons (pj_op o_add (dv 0) pd_int) (pad_cons pd_int pad_nil))) pad_nil)))
  ((pssd_cons (psd_par (i := 4) (j := 5) rfl sc__law_curve.nd rfl rfl (by decide) rfl rfl (pad_cons (pd_fn (C__law_mix T) (hr.mono (by decide)) (pad_cons (dv 0) (pad_cons pd_int (pad_cons pd_int pad_nil)))) (pad_cons (pd_fn (C__law_mix T) (hr.mono (by decide)) (pad_cons (dv 0) (pad_cons pd_int (pad_cons pd_int pad_nil)))) pad_nil)))
  ((pssd_cons (psd_set (i := 3) sc__law_curve.nd rfl (by first | exact Or.inl rfl | exact Or.inr rfl) (pj_op o_add (pj_op o_mul (pj_op o_mul (dv 1) (dv 4)) (dv 4)) (pj_op o_mul (pj_op o_mul (dv 2) (dv 5)) (dv 5))))
  ((pssd_one (psd_if (PWD.pt (pwd_or (ptd_cmp (o_eq hr.units) (dv 3) pd_int) (pwd_or1 (ptd_cmp o_gt (pj_callB c_abs rfl T.z_abs (by decide +kernel) (dv 3)) pd_int)))) (pssd_one (psd_set (i := 3) sc__law_curve.nd rfl (by first | exact Or.inl rfl | exact Or.inr rfl) (dv 1))) pssd_nil)))))))) pssd_nil)
  ((pssd_one (psd_ret (pd_tup (pad_cons (dv 1) (pad_cons (dv 2) (pad_cons (dv 3) pad_nil))))))))))))) ?_
  rintro ds Q hl ⟨t, rfl, q⟩
  unfold curveOf Crv.d crD at q
  walk_at "dl"
  refine ⟨_, _, rfl, by decide, by decide, ?_⟩
  refine ⟨_, _, rfl, by decide, by decide, ?_⟩
  refine ⟨_, _, rfl, by decide, by decide, ?_⟩
  refine ⟨_, _, _, rfl, by decide, by decide, by decide, ?_⟩
  walk_at "dl"
  split <;> rename_i h
  · rw [if_pos h] at q
    refine ⟨_, _, rfl, by decide, by decide, ?_⟩
    refine ⟨_, _, rfl, by decide, by decide, ?_⟩
    refine ⟨_, _, _, rfl, by decide, by decide, by decide, ?_⟩
    refine ⟨_, _, _, rfl, by decide, by decide, by decide, ?_⟩
    walk_at "dl"
    have a2 := numOf_abs (c := t) (m := 5) (by decide)
    have b2 := numOf_abs (c := t + 3) (m := 5) (by decide)
    have x1 := mixOf_nonneg (c := t) (p := 9931) (m := 3) (by decide)
    have x2 := mixOf_lt (c := t) (p := 9931) (m := 3) (by decide)
    have y1 := mixOf_nonneg (c := t) (p := 9929) (m := 3) (by decide)
    have y2 := mixOf_lt (c := t) (p := 9929) (m := 3) (by decide)
    refine ⟨.inl (by omega), .inr (.inl (by omega)), .inl (by omega), .inr (.inl (by omega)), ?_⟩
    dsimp only at q
    simp only [beq_iff_eq]
    split <;> rename_i h2
    · rw [if_pos (.inl h2)] at q; exact q
    · split <;> rename_i h3
      · rw [if_pos (.inr h3)] at q; exact q
      · rw [if_neg (by rintro (z | z) <;> contradiction)] at q; exact q
  · rw [if_neg h] at q
    exact q

abbrev N_law : List Str := ["_law_script", "_law_k", "_law_cell_here", "_law_curve_here", "_law_a", "_law_b", "_law_c", "_law_most", "_law_found", "_law_lower", "_law_due", "_law_great", "_law_x", "_law_y", "_law_whole", "_law_left", "_law_right"]
theorem sc_law : FnScope N_law ["_law_script"] (defScope s_law) := ⟨rfl, rfl, rfl, by decide +kernel, rfl, by decide +kernel, by decide +kernel⟩


def t_law : List D → (D → Prop) → Prop := fun ds Q => ∃ ns : List Int, ds = [.scr ns] ∧ ns.length ≤ 63 ∧ Q (.bl true)
theorem ok_law (T : Top K mg base) {f : Addr} {fd : FuncData} (F : Fun K "law" "law" s_law f fd) : FnOk P w K mg base CX0 9 f fd ["_law_script"] (spD K 1 t_law) := by
  refine fnD F sc_law rfl (fun cdv A outer s H E F0 hr => (pssd_cons (psd_for PassesOwn.never rfl (pid_rng1 rfl T.z_range pd_int) (pgd_name (vs := allV) (i := 1) sc_law.nd rfl (by first | exact Or.inl rfl | exact Or.inr rfl)) (pssd_cons (psd_set (i := 2) sc_law.nd rfl (by first | exact Or.inl rfl | exact Or.inr rfl) (pj_op o_add (pd_fn (C__law_cell T) (hr.mono (by decide)) (pad_cons (dv 0) (pad_cons (pj_op o_mod (dv 1) pd_int) pad_nil))) (pj_op o_mul pd_int (dv 1))))
  ((pssd_cons (psd_set (i := 3) sc_law.nd rfl (by first | exact Or.inl rfl | exact Or.inr rfl) (pd_fn (C__law_curve T) (hr.mono (by decide)) (pad_cons (dv 2) pad_nil)))
  ((pssd_cons (psd_asg (dv 3) (pgd_tup (n := 3) rfl (pgsd_cons (pgd_name (vs := allV) (i := 4) sc_law.nd rfl (by first | exact Or.inl rfl | exact Or.inr rfl)) (pgsd_cons (pgd_name (vs := allV) (i := 5) sc_law.nd rfl (by first | exact Or.inl rfl | exact Or.inr rfl)) (pgsd_cons (pgd_name (vs := allV) (i := 6) sc_law.nd rfl (by first | exact Or.inl rfl | exact Or.inr rfl)) pgsd_nil)))))
  ((pssd_cons (psd_set (i := 7) sc_law.nd rfl (by first | exact Or.inl rfl | exact Or.inr rfl) (pj_op o_add pd_int (pd_fn (C__law_mix T) (hr.mono (by decide)) (pad_cons (dv 2) (pad_cons pd_int (pad_cons pd_int pad_nil))))))
  ((pssd_cons (psd_setN (i := 8) sc_law.nd rfl (by first | exact Or.inl rfl | exact Or.inr rfl) (pn_lst pad_nil))
  ((pssd_cons (psd_for PassesOwn.never rfl (pid_rng2 rfl T.z_range pd_int (pj_op o_add (dv 7) pd_int)) (pgd_name (vs := allV) (i := 9) sc_law.nd rfl (by first | exact Or.inl rfl | exact Or.inr rfl)) (pssd_one (psd_for PassesOwn.never rfl (pid_rng2 rfl T.z_range (pj_op o_sub pd_int (dv 7)) (pj_op o_add (dv 7) pd_int)) (pgd_name (vs := allV) (i := 12) sc_law.nd rfl (by first | exact Or.inl rfl | exact Or.inr rfl)) (pssd_one (psd_for PassesOwn.never rfl (pid_rng2 rfl T.z_range (pj_op o_sub pd_int (dv 7)) (pj_op o_add (dv 7) pd_int)) (pgd_name (vs := allV) (i := 13) sc_law.nd rfl (by first | exact Or.inl rfl | exact Or.inr rfl)) (pssd_one (psd_if (PWD.pt (pwd_and (ptd_cmp (o_eq hr.units) (pj_op o_add (pj_op o_mul (pj_op o_mul (dv 4) (dv 12)) (dv 12)) (pj_op o_mul (pj_op o_mul (dv 5) (dv 13)) (dv 13))) (pj_op o_mul (pj_op o_mul (dv 6) (dv 9)) (dv 9))) (pwd_and1 (ptd_cmp (o_eq hr.units) (pd_fn (C__law_common T) (hr.mono (by decide)) (pad_cons (pd_fn (C__law_common T) (hr.mono (by decide)) (pad_cons (dv 12) (pad_cons (dv 13) pad_nil))) (pad_cons (dv 9) pad_nil))) pd_int)))) (pssd_one (psd_app (i := 8) (pv 8) (pd_tup (pad_cons (pd_max3 rfl rfl T.z_max (pj_callB c_abs rfl T.z_abs (by decide +kernel) (dv 12)) (pj_callB c_abs rfl T.z_abs (by decide +kernel) (dv 13)) (dv 9)) (pad_cons (dv 9) (pad_cons (dv 12) (pad_cons (dv 13) pad_nil))))))) pssd_nil)))))))
  ((pssd_cons (psd_setN (i := 10) sc_law.nd rfl (by first | exact Or.inl rfl | exact Or.inr rfl) (pn_lst pad_nil))
  ((pssd_cons (psd_for PassesOwn.never rfl (pid_lst (PN.pd (pn_callB (c_sort hr.units) rfl T.z_sorted (by decide +kernel) (ov 8)))) (pgd_tup (n := 4) rfl (pgsd_cons (pgd_name (vs := allV) (i := 11) sc_law.nd rfl (by first | exact Or.inl rfl | exact Or.inr rfl)) (pgsd_cons (pgd_name (vs := allV) (i := 9) sc_law.nd rfl (by first | exact Or.inl rfl | exact Or.inr rfl)) (pgsd_cons (pgd_name (vs := allV) (i := 12) sc_law.nd rfl (by first | exact Or.inl rfl | exact Or.inr rfl)) (pgsd_cons (pgd_name (vs := allV) (i := 13) sc_law.nd rfl (by first | exact Or.inl rfl | exact Or.inr rfl)) pgsd_nil))))) (pssd_cons (psd_par (i := 15) (j := 16) rfl sc_law.nd rfl rfl (by decide) rfl rfl (pad_cons (pd_fn (C__law_common T) (hr.mono (by decide)) (pad_cons (dv 12) (pad_cons (dv 9) pad_nil))) (pad_cons (pd_fn (C__law_common T) (hr.mono (by decide)) (pad_cons (dv 13) (pad_cons (dv 9) pad_nil))) pad_nil)))
  ((pssd_one (psd_app (i := 10) (pv 10) (pd_tup (pad_cons (pd_tup (pad_cons (pj_op o_div (dv 12) (dv 15)) (pad_cons (pj_op o_div (dv 9) (dv 15)) pad_nil))) (pad_cons (pd_tup (pad_cons (pj_op o_div (dv 13) (dv 16)) (pad_cons (pj_op o_div (dv 9) (dv 16)) pad_nil))) pad_nil))))))))
  ((pssd_cons (psd_if (ptd_not (ptd_val (pd_fn (C__law_same T 6) (hr.mono (by decide)) (pad_cons (pd_tup (pad_cons (pd_fn (C_points T) (hr.mono (by decide)) (pad_cons (dv 3) (pad_cons (dv 7) pad_nil))) (pad_cons (pd_fn (C_first_point T) (hr.mono (by decide)) (pad_cons (dv 3) (pad_cons (dv 7) pad_nil))) pad_nil))) (pad_cons (pd_tup (pad_cons (pj_callTy c_tupL rfl T.z_tuple (by decide +kernel) (ov 10)) (pad_cons (pj_ix o_ixL (PN.pl (pn_op o_cat (ov 10) (PN.pl (pn_lst (pad_cons pd_non pad_nil))))) pd_int) pad_nil))) pad_nil))))) (pssd_one (psd_ret pd_bl)) pssd_nil)
  ((pssd_cons (psd_setLc (own := [("_law_great", 11), ("_law_lower", 9), ("_law_x", 12), ("_law_y", 13)]) (i := 14) rfl sc_law.nd rfl rfl (sw_true rfl rfl rfl (by decide +kernel)) (pid_own (ov 8)) (blkOk_by (N := N_law) (sc := defScope s_law) (by decide +kernel)) (fun _ _ _ _ _ => (pgd_tup (n := 4) rfl (pgsd_cons (pgd_name (vs := ([("_law_great", 11), ("_law_lower", 9), ("_law_x", 12), ("_law_y", 13)].map (·.2))) (i := 11) sc_law.nd rfl (by first | exact Or.inl rfl | exact Or.inr rfl)) (pgsd_cons (pgd_name (vs := ([("_law_great", 11), ("_law_lower", 9), ("_law_x", 12), ("_law_y", 13)].map (·.2))) (i := 9) sc_law.nd rfl (by first | exact Or.inl rfl | exact Or.inr rfl)) (pgsd_cons (pgd_name (vs := ([("_law_great", 11), ("_law_lower", 9), ("_law_x", 12), ("_law_y", 13)].map (·.2))) (i := 12) sc_law.nd rfl (by first | exact Or.inl rfl | exact Or.inr rfl)) (pgsd_cons (pgd_name (vs := ([("_law_great", 11), ("_law_lower", 9), ("_law_x", 12), ("_law_y", 13)].map (·.2))) (i := 13) sc_law.nd rfl (by first | exact Or.inl rfl | exact Or.inr rfl)) pgsd_nil)))))) (fun _ _ _ _ _ => (ptsd_one (ptd_cmp (o_eq hr.units) (dv 9) pd_int))) (fun _ _ _ _ _ => (pd_tup (pad_cons (dv 12) (pad_cons (dv 13) pad_nil)))))
  (pssd_frz (i := 14) <| (pssd_one (psd_if (ptd_not (ptd_val (pd_fn (C__law_same T 6) (hr.mono (by decide)) (pad_cons (pd_fn (C_whole_points T) (hr.mono (by decide)) (pad_cons (dv 3) (pad_cons (dv 7) pad_nil))) (pad_cons (pj_callTy c_tupL rfl T.z_tuple (by decide +kernel) (PN.pl (pn_callB (c_sort hr.units) rfl T.z_sorted (by decide +kernel) (PJ.lst (dv 14))))) pad_nil))))) (pssd_one (psd_ret pd_bl)) pssd_nil)))))))))))))))))))))))
  ((pssd_one (psd_ret (pd_and (pd_cmp (o_eq hr.units) (pd_fn (C_first_point T) (hr.mono (by decide)) (pad_cons (pd_tup (pad_cons pd_int (pad_cons pd_int (pad_cons pd_int pad_nil)))) (pad_cons pd_int pad_nil))) (pd_tup (pad_cons (pd_tup (pad_cons (pd_neg pd_int) (pad_cons pd_int pad_nil))) (pad_cons (pd_tup (pad_cons pd_int (pad_cons pd_int pad_nil))) pad_nil)))) (pd_one (pd_cmp (o_eq hr.units) (pj_callB c_len rfl T.z_len (by decide +kernel) (pd_fn (C_points T) (hr.mono (by decide)) (pad_cons (pd_tup (pad_cons pd_int (pad_cons pd_int (pad_cons pd_int pad_nil)))) (pad_cons pd_int pad_nil)))) pd_int)))))))) ?_
  rintro ds Q hl ⟨ns, rfl, hn, q⟩
  walk_at "st"
  refine dFor_i (rng 0 10) (fun Q h => ?_) (fun _ ρ => ∃ o1 o2 o3 o4 o5 o6 o7 o8 o9 o10 o11 o12 o13 o14 o15 o16, ρ = [some (.d (.scr ns)), o1, o2, o3, o4, o5, o6, o7, o8, o9, o10, o11, o12, o13, o14, o15, o16]) ⟨_, _, _, _, _, _, _, _, _, _, _, _, _, _, _, _, rfl⟩ ?_ ?_
  · walk_at "dl"
    exact ⟨by decide, by decide, h⟩
  · rintro i x ρ hx ⟨o1, o2, o3, o4, o5, o6, o7, o8, o9, o10, o11, o12, o13, o14, o15, o16, rfl⟩
    obtain ⟨rfl, hi⟩ := rng_get hx
    simp only [gN]
    walk_at "st"
    refine dSet_cut (fun d => ∃ c, d = .int c) (fun Q h => ?_) ?_
    · walk_at "dl"
      refine ⟨by decide, _, _, rfl, by omega, hn, ?_⟩
      walk_at "dl"
      exact ⟨.inl (by decide), h _ ⟨_, rfl⟩⟩
    rintro _ ⟨c0, rfl⟩
    walk_at "st"
    refine dSet_cut (fun d => ∃ a b c : Int, d = crD a b c ∧ a ≠ 0 ∧ b ≠ 0 ∧ c ≠ 0 ∧ a.natAbs ≤ 30 ∧ b.natAbs ≤ 30 ∧ c.natAbs ≤ 30) (fun Q h => ?_) ?_
    · walk_at "dl"
      obtain ⟨h1, h2, h3, h4, h5, h6⟩ := curveOf_ok c0
      exact ⟨_, rfl, h _ ⟨_, _, _, rfl, h1, h2, h3, h4, h5, h6⟩⟩
    rintro _ ⟨a, b, c, rfl, h1, h2, h3, h4, h5, h6⟩
    walk_at "st"
    unfold dAsg crD
    simp only [dVar, gTp, dGCons, dGNil, gN]
    refine ⟨_, rfl, _, rfl, rfl, _, _, rfl, _, _, rfl, _, _, rfl, rfl, ?_⟩
    walk_at "st"
    refine dSet_cut (fun d => ∃ m : Int, d = .int m ∧ 1 ≤ m ∧ m ≤ 6) (fun Q h => ?_) ?_
    · walk_at "dl"
      refine ⟨_, _, _, rfl, by decide, by decide, by decide, _, rfl, ?_⟩
      have a1 := mixOf_nonneg (c := c0) (p := 9851) (m := 6) (by omega)
      have a2 := mixOf_lt (c := c0) (p := 9851) (m := 6) (by omega)
      exact h _ ⟨_, rfl, by omega, by omega⟩
    rintro _ ⟨m, rfl, m1, m6⟩
    walk_at "st"
    refine dSetO_cut (fun L => L = []) (fun Q h => ?_) ?_
    · walk_at "dl"
      exact h _ rfl
    rintro _ rfl
    have hwd : wd m ≤ 13 := by unfold wd; omega
    have hwm : ((wd m : Nat) : Int) = 2 * m + 1 := by unfold wd; omega
    walk_at "st"
    refine dFor_i (rng 1 (m + 1)) (fun Q h => ?_) (fun u ρ => ∃ o9 o12 o13, ρ = [some (.d (.scr ns)), some (.d (.int (0 + i))), some (.d (.int c0)), some (.d (.tup [.int a, .int b, .int c])), some (.d (.int a)), some (.d (.int b)), some (.d (.int c)), some (.d (.int m)), some (.own ((tripsN a b c m u).map rowT4)), o9, o10, o11, o12, o13, o14, o15, o16]) ⟨o9, o12, o13, rfl⟩ ?_ ?_
    · walk_at "dl"
      exact ⟨by omega, by omega, by omega, by omega, h⟩
    · rintro u x ρ hx1 ⟨o9, o12, o13, rfl⟩
      obtain ⟨rfl, hu⟩ := rng_get hx1
      rw [tripsN_succ]
      have hl1 := tripsN_len a b c m u
      have hb1 := Nat.mul_le_mul (show u ≤ 6 by omega) (Nat.mul_le_mul hwd hwd)
      generalize hl : (1 + (u : Int)) = l at *
      simp only [gN]
      walk_at "st"
      refine dFor_i (rng (0 - m) (m + 1)) (fun Q h => ?_) (fun v ρ => ∃ o12 o13, ρ = [some (.d (.scr ns)), some (.d (.int (0 + i))), some (.d (.int c0)), some (.d (.tup [.int a, .int b, .int c])), some (.d (.int a)), some (.d (.int b)), some (.d (.int c)), some (.d (.int m)), some (.own ((tripsN a b c m u ++ trL l (pairsN a b c l m v)).map rowT4)), some (.d (.int l)), o10, o11, o12, o13, o14, o15, o16]) ⟨o12, o13, by rw [show trL l (pairsN a b c l m 0) = [] from rfl, List.append_nil]⟩ ?_ ?_
      · walk_at "dl"
        exact ⟨by omega, by omega, by omega, by omega, h⟩
      · rintro v x ρ hx2 ⟨o12, o13, rfl⟩
        obtain ⟨rfl, hv⟩ := rng_get hx2
        rw [pairsN_succ]
        have hl2 := pairsN_len a b c l m v
        have hb2 := Nat.mul_le_mul (show v ≤ 13 by omega) hwd
        generalize hX : (0 - m + (v : Int)) = X at *
        simp only [gN]
        walk_at "st"
        refine dFor_i (rng (0 - m) (m + 1)) (fun Q h => ?_) (fun w ρ => ∃ o13, ρ = [some (.d (.scr ns)), some (.d (.int (0 + i))), some (.d (.int c0)), some (.d (.tup [.int a, .int b, .int c])), some (.d (.int a)), some (.d (.int b)), some (.d (.int c)), some (.d (.int m)), some (.own ((tripsN a b c m u ++ trL l (pairsN a b c l m v ++ (ysK a b c l m X w).map fun y => (X, y))).map rowT4)), some (.d (.int l)), o10, o11, some (.d (.int X)), o13, o14, o15, o16]) ⟨o13, by rw [show ysK a b c l m X 0 = [] from rfl, List.map_nil, List.append_nil]⟩ ?_ ?_
        · walk_at "dl"
          exact ⟨by omega, by omega, by omega, by omega, h⟩
        · rintro w x ρ hx3 ⟨o13, rfl⟩
          obtain ⟨rfl, hw⟩ := rng_get hx3
          rw [ysK_succ]
          have hl3 := ysK_len a b c l m X w
          have hl4 := trL_len l (pairsN a b c l m v ++ (ysK a b c l m X w).map fun y => (X, y))
          rw [List.length_append, List.length_map] at hl4
          generalize hY : (0 - m + (w : Int)) = Y at *
          have ba : a.natAbs < 2 ^ 10 := by omega
          have bb : b.natAbs < 2 ^ 10 := by omega
          have bc : c.natAbs < 2 ^ 10 := by omega
          have bX : X.natAbs < 2 ^ 10 := by omega
          have bY : Y.natAbs < 2 ^ 10 := by omega
          have bl : l.natAbs < 2 ^ 10 := by omega
          walk_at "dl"
          refine ⟨mulok 10 10 ba bX, mulok 20 10 (mul_lt_pow ba bX) bX, mulok 10 10 bb bY, mulok 20 10 (mul_lt_pow bb bY) bY, mulok 10 10 bc bl, mulok 20 10 (mul_lt_pow bc bl) bl, ?_⟩
          by_cases he : a * X * X + b * Y * Y = c * l * l
          · rw [if_pos (by rw [he]; exact beq_self_eq_true _), if_pos he]
            refine ⟨X, Y, rfl, _, _, rfl, rfl, ?_⟩
            have eT : trL l (pairsN a b c l m v ++ (ysK a b c l m X w ++ [Y]).map fun y => (X, y)) = trL l (pairsN a b c l m v ++ (ysK a b c l m X w).map fun y => (X, y)) ++ trL l [(X, Y)] := by
              rw [List.map_append, ← List.append_assoc, trL_app]
              rfl
            rw [eqD_int, eT, trL_one]
            by_cases hco : Int.gcd (Int.gcd X Y) l = 1
            · rw [if_pos hco, if_pos (by rw [beq_iff_eq]; omega)]
              refine ⟨?_, ?_⟩
              · rw [List.length_map, List.length_append]
                exact Nat.lt_of_le_of_lt (show _ ≤ 6 * (13 * 13) + 13 * 13 + 100 by omega) (by decide)
              · rw [mxT_of (by omega), List.map_append, List.map_append, List.map_append, List.append_assoc]
                rfl
            · rw [if_neg hco, if_neg (by rw [beq_iff_eq]; omega), List.append_nil, List.map_append]
          · rw [if_neg (by rw [beq_iff_eq]; exact he), if_neg he, List.append_nil]
        · rintro ρ ⟨o13, rfl⟩
          have e : (rng (0 - m) (m + 1)).length = wd m := by
            rw [rng_len]
            unfold wd
            omega
          rw [e]
          exact ⟨_, _, rfl⟩
      · rintro ρ ⟨o12, o13, rfl⟩
        have e : (rng (0 - m) (m + 1)).length = wd m := by
          rw [rng_len]
          unfold wd
          omega
        rw [e]
        exact ⟨_, _, _, rfl⟩
    · rintro ρ ⟨o9, o12, o13, rfl⟩
      rw [rng_len, show (m + 1 - 1).toNat = m.toNat by omega]
      have hT : ∀ t ∈ tripsN a b c m m.toNat, Tok3 t := fun t ht => (tripsN_mem ht).1
      have hL := tripsN_len a b c m m.toNat
      have hLb := Nat.mul_le_mul (show m.toNat ≤ 6 by omega) (Nat.mul_le_mul hwd hwd)
      have hSm : ∀ t, t ∈ (tripsN a b c m m.toNat).mergeSort leT ↔ t ∈ tripsN a b c m m.toNat := fun t => (List.mergeSort_perm _ _).mem_iff
      have hSl : ((tripsN a b c m m.toNat).mergeSort leT).length = (tripsN a b c m m.toNat).length := (List.mergeSort_perm _ _).length_eq
      walk_at "st"
      refine dSetO_cut (fun L => L = []) (fun Q h => ?_) ?_
      · walk_at "dl"
        exact h _ rfl
      rintro _ rfl
      walk_at "st"
      refine dFor_i (((tripsN a b c m m.toNat).mergeSort leT).map rowT4) (fun Q h => ?_) (fun j ρ => ∃ o9 o11 o12 o13 o15 o16, ρ = [some (.d (.scr ns)), some (.d (.int (0 + i))), some (.d (.int c0)), some (.d (.tup [.int a, .int b, .int c])), some (.d (.int a)), some (.d (.int b)), some (.d (.int c)), some (.d (.int m)), some (.own ((tripsN a b c m m.toNat).map rowT4)), o9, some (.own ((((tripsN a b c m m.toNat).mergeSort leT).take j).map ptT3)), o11, o12, o13, o14, o15, o16]) ⟨o9, o11, o12, o13, o15, o16, rfl⟩ ?_ ?_
      · walk_at "dl"
        refine ⟨sortOk_rows _, ?_⟩
        rw [sort_rows]
        exact h
      · rintro j x ρ hx2 ⟨o9, o11, o12, o13, o15, o16, rfl⟩
        rw [List.getElem?_map] at hx2
        cases hg : ((tripsN a b c m m.toNat).mergeSort leT)[j]? with
        | none => rw [hg] at hx2; cases hx2
        | some t =>
          rw [hg] at hx2
          cases hx2
          obtain ⟨tl, tx, ty⟩ := t
          obtain ⟨k1, k2, k3, k4⟩ := tripsN_mem ((hSm _).mp (List.mem_of_getElem? hg))
          have kp := k1.pos
          dsimp only at kp k2 k3 k4
          have hjl := (List.getElem?_eq_some_iff.mp hg).1
          have et : ((tripsN a b c m m.toNat).mergeSort leT).take (j + 1) = ((tripsN a b c m m.toNat).mergeSort leT).take j ++ [(tl, tx, ty)] := by rw [List.take_add_one, hg]; rfl
          rw [et]
          have g1 : (0 : Int) < (Int.gcd tx tl : Int) := by
            have := Int.gcd_pos_of_ne_zero_right tx (show tl ≠ 0 by omega)
            omega
          have g2 : (0 : Int) < (Int.gcd ty tl : Int) := by
            have := Int.gcd_pos_of_ne_zero_right ty (show tl ≠ 0 by omega)
            omega
          have g3 : (Int.gcd tx tl : Int) ≤ tl := Int.le_of_dvd kp (Int.gcd_dvd_right _ _)
          have g4 : (Int.gcd ty tl : Int) ≤ tl := Int.le_of_dvd kp (Int.gcd_dvd_right _ _)
          have d1 := divok (i := tx) (j := (Int.gcd tx tl : Int)) (by omega) 20 (by omega)
          have d2 := divok (i := tl) (j := (Int.gcd tx tl : Int)) (by omega) 20 (by omega)
          have d3 := divok (i := ty) (j := (Int.gcd ty tl : Int)) (by omega) 20 (by omega)
          have d4 := divok (i := tl) (j := (Int.gcd ty tl : Int)) (by omega) 20 (by omega)
          unfold rowT4
          walk_at "dl"
          refine ⟨tx, tl, rfl, ty, tl, rfl, ?_, _, rfl, g1, d1, _, rfl, g1, d2, _, rfl, g2, d3, _, rfl, g2, d4, ?_⟩
          · rw [List.length_map, List.length_take]
            exact Nat.lt_of_le_of_lt (show _ ≤ 6 * (13 * 13) by omega) (by decide)
          · rw [fr_div kp, fr_div kp, List.map_append]
            rfl
      · rintro ρ ⟨o9, o11, o12, o13, o15, o16, rfl⟩
        rw [List.length_map, List.take_length]
        walk_at "st"
        refine dIfS_skip8 (fun Q h => ?_) ?_
        · walk_at "dl"
          refine ⟨a, b, c, m, rfl, h2, by omega, by omega, by omega, by omega, by omega, a, b, c, m, rfl, h2, by omega, by omega, by omega, by omega, by omega, ?_⟩
          refine ⟨by rw [List.length_map, hSl]; exact Nat.le_trans (show _ ≤ 6 * (13 * 13) + 1 by omega) (by decide), _, at_first _, _, rfl, simD_first (by rw [hSl]; omega), true, rfl, h⟩
        walk_at "st"
        refine dSetO_cut (fun L => L = (pairsI a b c 1 m).map pairE) (fun Q h => ?_) ?_
        · unfold dLc
          walk_at "dl"
          refine ⟨by rw [List.length_map]; exact Nat.le_trans (show _ ≤ 6 * (13 * 13) by omega) (by decide), lcGo_filter (p := oneP) (f := oneF) _ [] (fun z hz R Z hR => ?_) ?_⟩
          · obtain ⟨t, ht, rfl⟩ := List.mem_map.mp hz
            have e : oneP (rowT4 t) = (t.1 == 1) := by
              show decide (t.1 = 1) = _
              by_cases h : t.1 = 1 <;> simp [h]
            rw [e] at hR
            unfold rowT4 at *
            walk_at "dl"
            exact hR
          · rw [one_pairs, show m.toNat = (m.toNat - 1) + 1 by omega, trips_one, List.map_map]
            exact h _ rfl
        rintro _ rfl
        walk_at "st"
        refine ⟨_, rfl, ?_⟩
        walk_at "st"
        refine dIfS_skip8 (fun Q h => ?_) ?_
        · walk_at "dl"
          refine ⟨a, b, c, m, rfl, h2, by omega, by omega, by omega, by omega, by omega, sortOk_pairs _, ?_⟩
          have hpl := pairsN_len a b c 1 m (wd m)
          have hpb := Nat.mul_le_mul hwd hwd
          rw [sort_pairs]
          refine ⟨_, rfl, simD_tup (by rw [List.length_map]; exact Nat.le_trans hpl (Nat.le_trans hpb (by decide))) ?_, true, rfl, h⟩
          rw [List.all_map]
          exact List.all_eq_true.mpr fun p _ => rfl
        exact ⟨_, _, _, _, _, _, _, _, _, _, _, _, _, _, _, _, rfl⟩
  · rintro ρ ⟨o1, o2, o3, o4, o5, o6, o7, o8, o9, o10, o11, o12, o13, o14, o15, o16, rfl⟩
    walk_at "dl"
    refine ⟨1, 1, 1, 1, rfl, by decide, by decide, by decide, by decide, by decide, by decide, ?_⟩
    rw [show (1 : Int).toNat = 1 from rfl, first_one]
    refine ⟨rfl, rfl, ?_⟩
    rw [if_pos (by decide)]
    refine ⟨1, 1, 1, 5, rfl, by decide, by decide, by decide, by decide, by decide, by decide, 12, ?_, q⟩
    rw [lenV_tup, List.length_map, (List.mergeSort_perm _ _).length_eq]
    decide +kernel

end
end DL
open PySem PySem.W PyProof.Rows
set_option maxHeartbeats 0 in
theorem PySem.Challenge.cw_curvefracs_k08_points_by_size_holds : PySem.Challenge.rw_curvefracs_k08_points_by_size.Holds := by
  w_on; o_law; k_head; (case hw => w_witness2)
  k_fill
  letI tbl : DL.Tb := ⟨[(59, DL.lamName "points")]⟩
  refine DL.walk_endT (l := PySem.Challenge.rw_curvefracs_k08_points_by_size) (st := DL.s_law) (k := 9) [(63, 59)] rfl rfl (fun w h Y => PySem.W.km_in_of Y) ⟨rfl, by decide, by decide⟩ (fun _ _ _ _ _ _ s v => .of_eq rfl) rfl ?S ?Y ?F
  case S => (intro p hp; rw [List.mem_singleton.mp hp]; exact ⟨_, List.mem_singleton.mpr rfl⟩)
  case Y => (intro w h Y p hp; refine PySem.W.km_tabs_of Y p.2 ?_; revert p; decide)
  case F =>
    intro w mg h KX G
    refine (fun (T : ∀ base, (∀ p ∈ [(63, 59)], LamX.TabB base mg p.1 p.2) → DL.Top _ mg base) (L0 : DL.Df _ mg "law" DL.s_law ["_law_script"]) => ⟨?k1, ?k2, L0, fun f fd base TB F _ => DL.law_of (DL.ok_law (T base TB) F)⟩) (fun base TB => ?_) ?x_law
    case k1 => (intro p hp; simp only [List.mem_cons, List.not_mem_nil, or_false] at hp; rcases hp with rfl <;> kernel_rfl)
    case k2 => (intro p hp; simp only [List.mem_cons, List.not_mem_nil, or_false] at hp; rcases hp with rfl <;> exact PySem.W.codeHd_of_K KX (by kernel_rfl))
    case x_law => (refine' DL.Df_mk (st := DL.s_law) KX G ?a ?l ?c ?k (fun _ _ _ _ _ _ us hl => match us, hl with | [_], _ => rfl); (case a => k_is); (case l => k_is); (case c => k_is); (case k => k_is))
    refine' ⟨?x0, ?x1, ?x2, ?x3, ?x4, ?x5, ?x6, ?x7, ?x8, ?x9, ?x10, ?x11, ?x12, ?x13, ?x14, ?x15, ?x16, ?x17, ?x18, ?x19, ?x20, ?x21, ?x22, ?x23, ?x24, ?x25, ?x26, ?x27, ?x28, ?x29, ?x30⟩
    case x0 => (refine' DL.Df_mk (st := DL.s_common) KX G ?a ?l ?c ?k (fun _ _ _ _ _ _ us hl => match us, hl with | [_, _], _ => rfl); (case a => k_is); (case l => k_is); (case c => k_is); (case k => k_is))
    case x1 => (refine' DL.Df_mk (st := DL.s_fraction) KX G ?a ?l ?c ?k (fun _ _ _ _ _ _ us hl => match us, hl with | [_, _], _ => rfl); (case a => k_is); (case l => k_is); (case c => k_is); (case k => k_is))
    case x2 => (refine' DL.Df_mk (st := DL.s_for_one) KX G ?a ?l ?c ?k (fun _ _ _ _ _ _ us hl => match us, hl with | [_], _ => rfl); (case a => k_is); (case l => k_is); (case c => k_is); (case k => k_is))
    case x3 => (refine' DL.Df_mk (st := DL.s_rank) KX G ?a ?l ?c ?k (fun _ _ _ _ _ _ us hl => match us, hl with | [_], _ => rfl); (case a => k_is); (case l => k_is); (case c => k_is); (case k => k_is))
    case x4 => (refine' DL.Df_mk (st := DL.s_point_of) KX G ?a ?l ?c ?k (fun _ _ _ _ _ _ us hl => match us, hl with | [_, _, _], _ => rfl); (case a => k_is); (case l => k_is); (case c => k_is); (case k => k_is))
    case x5 => (refine' DL.Df_mk (st := DL.s_roots_of) KX G ?a ?l ?c ?k (fun _ _ _ _ _ _ us hl => match us, hl with | [_], _ => rfl); (case a => k_is); (case l => k_is); (case c => k_is); (case k => k_is))
    case x6 => (refine' DL.Df_mk (st := DL.s_pairs_for) KX G ?a ?l ?c ?k (fun _ _ _ _ _ _ us hl => match us, hl with | [_, _, _], _ => rfl); (case a => k_is); (case l => k_is); (case c => k_is); (case k => k_is))
    case x7 => (refine' DL.DfL_mk (st := DL.s_points) KX G (TB (63, 59) (by simp)) ?m1 ?m2 ?a ?l ?c ?k (fun _ _ _ _ _ _ us hl => match us, hl with | [_, _], _ => rfl); (case m1 => exact List.Mem.head _); (case m2 => (intro p hp e; have hp : p ∈ [(59, DL.lamName "points")] := hp; simp only [List.mem_cons, List.not_mem_nil, or_false] at hp; rcases hp with rfl <;> first | rfl | exact absurd e (by decide))); (case a => k_is); (case l => k_is); (case c => k_is); (case k => k_is))
    case x8 => (refine' DL.Df_mk (st := DL.s_first_point) KX G ?a ?l ?c ?k (fun _ _ _ _ _ _ us hl => match us, hl with | [_, _], _ => rfl); (case a => k_is); (case l => k_is); (case c => k_is); (case k => k_is))
    case x9 => (refine' DL.Df_mk (st := DL.s_whole_points) KX G ?a ?l ?c ?k (fun _ _ _ _ _ _ us hl => match us, hl with | [_, _], _ => rfl); (case a => k_is); (case l => k_is); (case c => k_is); (case k => k_is))
    case x10 => (refine' DL.Df_mk (st := DL.s__law_cell) KX G ?a ?l ?c ?k (fun _ _ _ _ _ _ us hl => match us, hl with | [_, _], _ => rfl); (case a => k_is); (case l => k_is); (case c => k_is); (case k => k_is))
    case x11 => (refine' DL.Df_mk (st := DL.s__law_mix) KX G ?a ?l ?c ?k (fun _ _ _ _ _ _ us hl => match us, hl with | [_, _, _], _ => rfl); (case a => k_is); (case l => k_is); (case c => k_is); (case k => k_is))
    case x12 => (refine' DL.Df_mk (st := DL.s__law_same) KX G ?a ?l ?c ?k (fun _ _ _ _ _ _ us hl => match us, hl with | [_, _], _ => rfl); (case a => k_is); (case l => k_is); (case c => k_is); (case k => k_is))
    case x13 => (refine' DL.Df_mk (st := DL.s__law_common) KX G ?a ?l ?c ?k (fun _ _ _ _ _ _ us hl => match us, hl with | [_, _], _ => rfl); (case a => k_is); (case l => k_is); (case c => k_is); (case k => k_is))
    case x14 => (refine' DL.Df_mk (st := DL.s__law_number) KX G ?a ?l ?c ?k (fun _ _ _ _ _ _ us hl => match us, hl with | [_, _], _ => rfl); (case a => k_is); (case l => k_is); (case c => k_is); (case k => k_is))
    case x15 => (refine' DL.Df_mk (st := DL.s__law_curve) KX G ?a ?l ?c ?k (fun _ _ _ _ _ _ us hl => match us, hl with | [_], _ => rfl); (case a => k_is); (case l => k_is); (case c => k_is); (case k => k_is))
    case x16 => (refine' DL.Df_mk (st := DL.s_law) KX G ?a ?l ?c ?k (fun _ _ _ _ _ _ us hl => match us, hl with | [_], _ => rfl); (case a => k_is); (case l => k_is); (case c => k_is); (case k => k_is))
    case x17 => (refine' PySem.W.mg_none_of KX G ?z; (case z => k_is))
    case x18 => (refine' PySem.W.mg_none_of KX G ?z; (case z => k_is))
    case x19 => (refine' PySem.W.mg_none_of KX G ?z; (case z => k_is))
    case x20 => (refine' PySem.W.mg_none_of KX G ?z; (case z => k_is))
    case x21 => (refine' PySem.W.mg_none_of KX G ?z; (case z => k_is))
    case x22 => (refine' PySem.W.mg_none_of KX G ?z; (case z => k_is))
    case x23 => (refine' PySem.W.mg_none_of KX G ?z; (case z => k_is))
    case x24 => (refine' PySem.W.mg_none_of KX G ?z; (case z => k_is))
    case x25 => (refine' PySem.W.mg_none_of KX G ?z; (case z => k_is))
    case x26 => (refine' PySem.W.mg_none_of KX G ?z; (case z => k_is))
    case x27 => (refine' PySem.W.mg_none_of KX G ?z; (case z => k_is))
    case x28 => (refine' PySem.W.mg_none_of KX G ?z; (case z => k_is))
    case x29 => (refine' PySem.W.mg_none_of KX G ?z; (case z => k_is))
    case x30 => (refine' PySem.W.mg_none_of KX G ?z; (case z => k_is))
#print axioms PySem.Challenge.cw_curvefracs_k08_points_by_size_holds
