import PyProof.Rows.All
import Wide.All
import OpenK.AllK
import Wide.FinOn
import HandS.ForExc
import HandS.ForMost
import HandS.Wide
import HandS.IsInst
import KE.SortData
import KE.SortKeyHeap
import KE.DataEq
import HandS.TupAny
import HandS.TupLe
import HandS.Flow
import HandS.Zip
import HandS.Ends
import PySem.Challenge.RW_curvefracs_k13_whole_rings
set_option Elab.async false
set_option maxRecDepth 100000
set_option linter.all false
set_option maxHeartbeats 4000000
set_option exponentiation.threshold 20000

namespace DL
open PySem L2

/-! ### data without a heap -/
inductive D where
  | non | bl (b : Bool) | int (i : Int) | str (s : Str) | tup (l : List D) | lst (l : List D) | dct (kvs : List (Int × Int)) | scr (ns : List Int)

def dctV (kvs : List (Int × Int)) : List (Key × V) := kvs.map fun p => (Sum.inl p.1, V.int p.2)
mutual
inductive At (K : PySem.W.Frag) (F : Hp) : V → D → Prop
  | non : At K F .non .non
  | bl (b : Bool) : At K F (.bl b) (.bl b)
  | int (i : Int) : At K F (.int i) (.int i)
  | str (x : Str) : At K F (.str x) (.str x)
  | lst {a : Addr} {xs : List V} {ds : List D} : F a = some (.lst xs) → AtAll K F xs ds → At K F (.ref a) (.lst ds)
  | tup {a : Addr} {xs : List V} {ds : List D} : SqT K F a xs → AtAll K F xs ds → At K F (.ref a) (.tup ds)
  | dct {a : Addr} {kvs : List (Int × Int)} : F a = some (.dK (dctV kvs)) → At K F (.ref a) (.dct kvs)
  | scr {a : Addr} {ns : List Int} : SqL K F a (ns.map V.int) → At K F (.ref a) (.scr ns)
inductive AtAll (K : PySem.W.Frag) (F : Hp) : List V → List D → Prop
  | nil : AtAll K F [] []
  | cons {v : V} {vs : List V} {d : D} {ds : List D} : At K F v d → AtAll K F vs ds → AtAll K F (v :: vs) (d :: ds)
end
theorem Same.sqT {K : PySem.W.Frag} {H H' : Hp} {a : Addr} {xs : List V} (e : Same H H') (h : SqT K H a xs) : SqT K H' a xs := by
  rcases h with (h | ⟨o, h⟩) | h
  · exact .inl (.inl (e _ _ h))
  · exact .inl (.inr ⟨o, e _ _ h⟩)
  · exact .inr h
section
variable {K : PySem.W.Frag} {F F' : Hp}
mutual
theorem At.mono (h : Same F F') : ∀ {v : V} {d : D}, At K F v d → At K F' v d
  | _, _, .non => .non
  | _, _, .bl b => .bl b
  | _, _, .int i => .int i
  | _, _, .str x => .str x
  | _, _, .lst q r => .lst (h _ _ q) (AtAll.mono h r)
  | _, _, .tup q r => .tup (Same.sqT h q) (AtAll.mono h r)
  | _, _, .dct q => .dct (h _ _ q)
  | _, _, .scr q => .scr (h.seq q)
theorem AtAll.mono (h : Same F F') : ∀ {vs : List V} {ds : List D}, AtAll K F vs ds → AtAll K F' vs ds
  | _, _, .nil => .nil
  | _, _, .cons q r => .cons (At.mono h q) (AtAll.mono h r)
end
theorem AtAll.length : ∀ {vs : List V} {ds : List D}, AtAll K F vs ds → vs.length = ds.length
  | _, _, .nil => rfl
  | _, _, .cons _ r => congrArg (· + 1) (AtAll.length r)
theorem AtAll.get : ∀ {vs : List V} {ds : List D} {i : Nat} {d : D}, AtAll K F vs ds → ds[i]? = some d → ∃ v, vs[i]? = some v ∧ At K F v d
  | _, _, _, _, .nil, e => by simp at e
  | _, _, 0, _, .cons q _, e => by simp at e; subst e; exact ⟨_, rfl, q⟩
  | _, _, i + 1, d, .cons _ r, e => by
    obtain ⟨v, h1, h2⟩ := AtAll.get (i := i) (d := d) r (by simpa using e)
    exact ⟨v, by simpa using h1, h2⟩
theorem AtAll.append : ∀ {vs ws : List V} {ds es : List D}, AtAll K F vs ds → AtAll K F ws es → AtAll K F (vs ++ ws) (ds ++ es)
  | _, _, _, _, .nil, s => s
  | _, _, _, _, .cons q r, s => .cons q (AtAll.append r s)
theorem AtAll.take : ∀ {vs : List V} {ds : List D} (n : Nat), AtAll K F vs ds → AtAll K F (vs.take n) (ds.take n)
  | _, _, 0, _ => .nil
  | _, _, _ + 1, .nil => .nil
  | _, _, n + 1, .cons q r => .cons q (AtAll.take n r)
theorem AtAll.drop : ∀ {vs : List V} {ds : List D} (n : Nat), AtAll K F vs ds → AtAll K F (vs.drop n) (ds.drop n)
  | _, _, 0, r => r
  | _, _, _ + 1, .nil => .nil
  | _, _, n + 1, .cons _ r => AtAll.drop n r
theorem AtAll.set {v : V} {d : D} (q : At K F v d) : ∀ {vs : List V} {ds : List D} (i : Nat), AtAll K F vs ds → AtAll K F (vs.set i v) (ds.set i d)
  | _, _, _, .nil => .nil
  | _, _, 0, .cons _ r => .cons q r
  | _, _, i + 1, .cons p r => .cons p (AtAll.set q i r)
theorem AtAll.ints : ∀ {vs : List V} {ns : List Int}, AtAll K F vs (ns.map D.int) → vs = ns.map V.int
  | _, [], h => by cases h; rfl
  | _, n :: ns, h => by
    cases h with
    | cons q r => cases q; rw [AtAll.ints r]; rfl
theorem AtAll.of_ints : ∀ (ns : List Int), AtAll K F (ns.map V.int) (ns.map D.int)
  | [] => .nil
  | _ :: ns => .cons (.int _) (AtAll.of_ints ns)
theorem AtAll.strs : ∀ {vs : List V} {ns : List Str}, AtAll K F vs (ns.map D.str) → vs = ns.map V.str
  | _, [], h => by cases h; rfl
  | _, n :: ns, h => by
    cases h with
    | cons q r => cases q; rw [AtAll.strs r]; rfl
theorem AtAll.of_strs : ∀ (ns : List Str), AtAll K F (ns.map V.str) (ns.map D.str)
  | [] => .nil
  | _ :: ns => .cons (.str _) (AtAll.of_strs ns)
theorem AtAll.bls : ∀ {vs : List V} {ns : List Bool}, AtAll K F vs (ns.map D.bl) → vs = ns.map V.bl
  | _, [], h => by cases h; rfl
  | _, n :: ns, h => by
    cases h with
    | cons q r => cases q; rw [AtAll.bls r]; rfl
end

/-! ### what python's == makes of it -/
mutual
def D.py : D → PyData
  | .non => .none | .bl b => .bool b | .int i => .int i | .str s => .str s
  | .tup l => .tuple (D.pys l) | .lst l => .list (D.pys l) | .dct _ => .dict [] | .scr _ => .dict []
def D.pys : List D → List PyData
  | [] => []
  | d :: ds => D.py d :: D.pys ds
end
section
variable {K : PySem.W.Frag} {F : Hp}
mutual
theorem At.dp : ∀ {v : V} {d : D}, At K F v d → d.py.plain = true → Dp K F v d.py
  | _, _, .non, _ => .non
  | _, _, .bl b, _ => .bl b
  | _, _, .int i, _ => .int i
  | _, _, .str x, _ => .str x
  | _, _, .lst q r, h => .lst (SqL.of q) (AtAll.dp r (by simpa [D.py, PyData.plain] using h))
  | _, _, .tup q r, h => .tup q (AtAll.dp r (by simpa [D.py, PyData.plain] using h))
  | _, _, .dct q, h => by simp [D.py, PyData.plain] at h
  | _, _, .scr q, h => by simp [D.py, PyData.plain] at h
theorem AtAll.dp : ∀ {vs : List V} {ds : List D}, AtAll K F vs ds → PyData.plainAll (D.pys ds) = true → DpAll K F vs (D.pys ds)
  | _, _, .nil, _ => .nil
  | _, _, .cons q r, h => by
    simp [D.pys, PyData.plainAll] at h
    exact .cons (At.dp q h.1) (AtAll.dp r h.2)
end
mutual
theorem Dp.mono' {H H' : Hp} (h : Same H H') : ∀ {v : V} {d : PyData}, Dp K H v d → Dp K H' v d
  | _, _, .non => .non
  | _, _, .bl b => .bl b
  | _, _, .int i => .int i
  | _, _, .str x => .str x
  | _, _, .lst q r => .lst (h.seq q) (DpAll.mono' h r)
  | _, _, .tup q r => .tup (Same.sqT h q) (DpAll.mono' h r)
theorem DpAll.mono' {H H' : Hp} (h : Same H H') : ∀ {vs : List V} {ds : List PyData}, DpAll K H vs ds → DpAll K H' vs ds
  | _, _, .nil => .nil
  | _, _, .cons q r => .cons (Dp.mono' h q) (DpAll.mono' h r)
end
end

/-! ### the heap in two: F is what nobody changes any more -/
structure Stp (F H F' H' : Hp) : Prop where
  hh : Same H H'
  ff : Same F F'
  fs : Same F' H'
  nw : ∀ b, H b ≠ none → F b = none → F' b = none
theorem Stp.refl {F H : Hp} (s : Same F H) : Stp F H F H := ⟨Same.refl _, Same.refl _, s, fun _ _ h => h⟩
theorem Same.ne {H H' : Hp} (s : Same H H') {b : Addr} (h : H b ≠ none) : H' b ≠ none := by
  intro e
  exact h (s.free e)
theorem Stp.trans {F H F1 H1 F2 H2 : Hp} (a : Stp F H F1 H1) (b : Stp F1 H1 F2 H2) : Stp F H F2 H2 :=
  ⟨a.hh.trans b.hh, a.ff.trans b.ff, b.fs, fun c h n => b.nw c (Same.ne a.hh h) (a.nw c h n)⟩
theorem same_upd {H : Hp} {p : Addr} (h : H p = none) (o : HO) : Same H (upd H p o) := fun b u q => by rw [upd_ne (ne_of_none q h)]; exact q
/-- a new object that nobody changes -/
theorem Stp.new {F H : Hp} (s : Same F H) {p : Addr} (hp : H p = none) (o : HO) : Stp F H (upd F p o) (upd H p o) where
  hh := same_upd hp o
  ff := same_upd (s.free hp) o
  fs := fun b u q => by
    by_cases e : b = p
    · subst e; rw [upd_same] at q ⊢; exact q
    · rw [upd_ne e] at q ⊢; exact s b u q
  nw := fun b hb hn => by
    have e : b ≠ p := fun e => by subst e; exact hb hp
    rw [upd_ne e]; exact hn
/-- a new object that is kept apart -/
theorem Stp.own {F H : Hp} (s : Same F H) {p : Addr} (hp : H p = none) (o : HO) : Stp F H F (upd H p o) where
  hh := same_upd hp o
  ff := Same.refl _
  fs := fun b u q => by
    have e : b ≠ p := fun e => by subst e; rw [s.free hp] at q; cases q
    rw [upd_ne e]; exact s b u q
  nw := fun _ _ h => h

/-! ### the slots -/
inductive Sl where
  | d (d : D)
  | own (ds : List D)
abbrev Rho := List (Option Sl)

structure EnvAt (K : PySem.W.Frag) (F0 H0 F H : Hp) (σ : L2.St) (ρ : Rho) : Prop where
  fs : Same F H
  st : Stp F0 H0 F H
  dd : ∀ (i : Nat) (d : D), ρ[i]? = some (some (.d d)) → ∃ v, σ[i]? = some (some v) ∧ At K F v d
  ow : ∀ (i : Nat) (ds : List D), ρ[i]? = some (some (.own ds)) → ∃ p xs, σ[i]? = some (some (.ref p)) ∧ H p = some (.lst xs) ∧ F p = none ∧ H0 p = none ∧ AtAll K F xs ds
  sep : ∀ (i j : Nat) (ds es : List D) (p : Addr), ρ[i]? = some (some (.own ds)) → ρ[j]? = some (some (.own es)) → σ[i]? = some (some (.ref p)) → σ[j]? = some (some (.ref p)) → i = j
  len : σ.length = ρ.length

theorem EnvAt.step {K : PySem.W.Frag} {F0 H0 F H F' H' : Hp} {σ : L2.St} {ρ : Rho} (E : EnvAt K F0 H0 F H σ ρ) (s : Stp F H F' H') : EnvAt K F0 H0 F' H' σ ρ where
  fs := s.fs
  st := E.st.trans s
  dd := fun i d e => by
    obtain ⟨v, h1, h2⟩ := E.dd i d e
    exact ⟨v, h1, h2.mono s.ff⟩
  ow := fun i ds e => by
    obtain ⟨p, xs, h1, h2, h3, h4, h5⟩ := E.ow i ds e
    exact ⟨p, xs, h1, s.hh _ _ h2, s.nw p (by rw [h2]; exact fun z => nomatch z) h3, h4, h5.mono s.ff⟩
  sep := E.sep
  len := E.len
theorem setget {α : Type} {l : List α} {i j : Nat} {a b : α} (h : (l.set i a)[j]? = some b) : (i = j ∧ i < l.length ∧ a = b) ∨ (i ≠ j ∧ l[j]? = some b) := by
  by_cases e : i = j
  · subst e
    by_cases hl : i < l.length
    · rw [List.getElem?_set_self hl] at h
      exact .inl ⟨rfl, hl, Option.some.inj h⟩
    · rw [List.getElem?_eq_none (by simp; omega)] at h
      cases h
  · rw [List.getElem?_set_ne e] at h
    exact .inr ⟨e, h⟩
/-- a slot takes data -/
theorem EnvAt.set {K : PySem.W.Frag} {F0 H0 F H : Hp} {σ : L2.St} {ρ : Rho} {i : Nat} {v : V} {d : D} (E : EnvAt K F0 H0 F H σ ρ) (a : At K F v d) : EnvAt K F0 H0 F H (σ.set i (some v)) (ρ.set i (some (.d d))) where
  fs := E.fs
  st := E.st
  dd := fun j e h => by
    rcases setget h with ⟨rfl, hl, z⟩ | ⟨hne, h⟩
    · cases z
      exact ⟨v, by rw [List.getElem?_set_self (by rw [E.len]; exact hl)], a⟩
    · obtain ⟨u, h1, h2⟩ := E.dd j e h
      exact ⟨u, by rw [List.getElem?_set_ne hne]; exact h1, h2⟩
  ow := fun j ds h => by
    rcases setget h with ⟨_, _, z⟩ | ⟨hne, h⟩
    · cases z
    · obtain ⟨p, xs, h1, h2⟩ := E.ow j ds h
      exact ⟨p, xs, by rw [List.getElem?_set_ne hne]; exact h1, h2⟩
  sep := fun j k ds es p h1 h2 h3 h4 => by
    rcases setget h1 with ⟨_, _, z⟩ | ⟨hne, h1⟩
    · cases z
    rcases setget h2 with ⟨_, _, z⟩ | ⟨hne2, h2⟩
    · cases z
    rw [List.getElem?_set_ne hne] at h3
    rw [List.getElem?_set_ne hne2] at h4
    exact E.sep j k ds es p h1 h2 h3 h4
  len := by rw [List.length_set, List.length_set, E.len]
/-- a slot takes a new list of its own -/
theorem EnvAt.setOwn {K : PySem.W.Frag} {F0 H0 F H : Hp} {σ : L2.St} {ρ : Rho} {i : Nat} {p : Addr} {xs : List V} {ds : List D} (E : EnvAt K F0 H0 F H σ ρ) (hp : H p = some (.lst xs)) (hf : F p = none) (h0 : H0 p = none) (a : AtAll K F xs ds)
    (new : ∀ (j : Nat) (es : List D), ρ[j]? = some (some (Sl.own es)) → σ[j]? ≠ some (some (V.ref p))) : EnvAt K F0 H0 F H (σ.set i (some (.ref p))) (ρ.set i (some (.own ds))) where
  fs := E.fs
  st := E.st
  dd := fun j e h => by
    rcases setget h with ⟨_, _, z⟩ | ⟨hne, h⟩
    · cases z
    · obtain ⟨u, h1, h2⟩ := E.dd j e h
      exact ⟨u, by rw [List.getElem?_set_ne hne]; exact h1, h2⟩
  ow := fun j es h => by
    rcases setget h with ⟨rfl, hl, z⟩ | ⟨hne, h⟩
    · cases z
      exact ⟨p, xs, by rw [List.getElem?_set_self (by rw [E.len]; exact hl)], hp, hf, h0, a⟩
    · obtain ⟨q, ys, h1, h2⟩ := E.ow j es h
      exact ⟨q, ys, by rw [List.getElem?_set_ne hne]; exact h1, h2⟩
  sep := fun j k es es' q h1 h2 h3 h4 => by
    rcases setget h1 with ⟨e1, l1, z1⟩ | ⟨n1, h1⟩
    · rcases setget h2 with ⟨e2, l2, z2⟩ | ⟨n2, h2⟩
      · omega
      · subst e1
        rw [List.getElem?_set_self (by rw [E.len]; exact l1)] at h3
        rw [List.getElem?_set_ne n2] at h4
        cases h3
        exact absurd h4 (new k es' h2)
    · rcases setget h2 with ⟨e2, l2, z2⟩ | ⟨n2, h2⟩
      · subst e2
        rw [List.getElem?_set_self (by rw [E.len]; exact l2)] at h4
        rw [List.getElem?_set_ne n1] at h3
        cases h4
        exact absurd h3 (new j es h1)
      · rw [List.getElem?_set_ne n1] at h3
        rw [List.getElem?_set_ne n2] at h4
        exact E.sep j k es es' q h1 h2 h3 h4
  len := by rw [List.length_set, List.length_set, E.len]
/-- a list of one's own changes -/
theorem EnvAt.chg {K : PySem.W.Frag} {F0 H0 F H : Hp} {σ : L2.St} {ρ : Rho} {i : Nat} {p : Addr} {ys : List V} {ds es : List D} (E : EnvAt K F0 H0 F H σ ρ) (hi : ρ[i]? = some (some (.own ds))) (hp : σ[i]? = some (some (.ref p))) (a : AtAll K F ys es) :
    EnvAt K F0 H0 F (upd H p (.lst ys)) σ (ρ.set i (some (.own es))) := by
  obtain ⟨p', xs, e1, e2, e3, e4, e5⟩ := E.ow i ds hi
  rw [hp] at e1
  cases e1
  have fs : Same F (upd H p (.lst ys)) := fun b u q => by
    have e : b ≠ p := fun e => by subst e; rw [e3] at q; cases q
    rw [upd_ne e]; exact E.fs b u q
  have hl : i < ρ.length := (List.getElem?_eq_some_iff.mp hi).1
  refine ⟨fs, ⟨fun b u q => ?_, E.st.ff, fs, fun b q => E.st.nw b q⟩, fun j d h => ?_, fun j fs' h => ?_, fun j k a1 a2 q h1 h2 h3 h4 => ?_, by rw [List.length_set, E.len]⟩
  · have e : b ≠ p := fun e => by subst e; rw [e4] at q; cases q
    rw [upd_ne e]; exact E.st.hh b u q
  · rcases setget h with ⟨_, _, z⟩ | ⟨hne, h⟩
    · cases z
    · exact E.dd j d h
  · rcases setget h with ⟨rfl, _, z⟩ | ⟨hne, h⟩
    · cases z
      exact ⟨p, ys, hp, upd_same, e3, e4, a⟩
    · obtain ⟨q, zs, h1, h2, h3, h4, h5⟩ := E.ow j fs' h
      have e : q ≠ p := fun e => by subst e; exact hne (E.sep i j ds fs' q hi h hp h1)
      exact ⟨q, zs, h1, by rw [upd_ne e]; exact h2, h3, h4, h5⟩
  · have g1 : ∃ b1, ρ[j]? = some (some (.own b1)) := by
      rcases setget h1 with ⟨rfl, _, _⟩ | ⟨_, h1⟩
      · exact ⟨_, hi⟩
      · exact ⟨_, h1⟩
    have g2 : ∃ b1, ρ[k]? = some (some (.own b1)) := by
      rcases setget h2 with ⟨rfl, _, _⟩ | ⟨_, h2⟩
      · exact ⟨_, hi⟩
      · exact ⟨_, h2⟩
    obtain ⟨b1, g1⟩ := g1
    obtain ⟨b2, g2⟩ := g2
    exact E.sep j k b1 b2 q g1 g2 h3 h4
/-- .. and from now on it does not -/
theorem EnvAt.freeze {K : PySem.W.Frag} {F0 H0 F H : Hp} {σ : L2.St} {ρ : Rho} {i : Nat} {ds : List D} (E : EnvAt K F0 H0 F H σ ρ) (hi : ρ[i]? = some (some (.own ds))) : ∃ F', Same F F' ∧ EnvAt K F0 H0 F' H σ (ρ.set i (some (.d (.lst ds)))) := by
  obtain ⟨p, xs, e1, e2, e3, e4, e5⟩ := E.ow i ds hi
  have ff : Same F (upd F p (.lst xs)) := same_upd e3 _
  have fs : Same (upd F p (.lst xs)) H := fun b u q => by
    by_cases e : b = p
    · subst e; rw [upd_same] at q; cases q; exact e2
    · rw [upd_ne e] at q; exact E.fs b u q
  have hl : i < ρ.length := (List.getElem?_eq_some_iff.mp hi).1
  refine ⟨upd F p (.lst xs), ff, ⟨fs, ⟨E.st.hh, E.st.ff.trans ff, fs, fun b h1 h2 => ?_⟩, fun j d h => ?_, fun j es h => ?_, fun j k a1 a2 q h1 h2 h3 h4 => ?_, by rw [List.length_set, E.len]⟩⟩
  · have e : b ≠ p := fun e => by subst e; exact h1 e4
    rw [upd_ne e]; exact E.st.nw b h1 h2
  · rcases setget h with ⟨rfl, _, z⟩ | ⟨hne, h⟩
    · cases z
      exact ⟨_, e1, .lst upd_same (e5.mono ff)⟩
    · obtain ⟨u, h1, h2⟩ := E.dd j d h
      exact ⟨u, h1, h2.mono ff⟩
  · rcases setget h with ⟨_, _, z⟩ | ⟨hne, h⟩
    · cases z
    · obtain ⟨q, zs, h1, h2, h3, h4, h5⟩ := E.ow j es h
      have e : q ≠ p := fun e => by subst e; exact hne (E.sep i j ds es q hi h e1 h1)
      exact ⟨q, zs, h1, h2, by rw [upd_ne e]; exact h3, h4, h5.mono ff⟩
  · rcases setget h1 with ⟨_, _, z⟩ | ⟨_, h1⟩
    · cases z
    rcases setget h2 with ⟨_, _, z⟩ | ⟨_, h2⟩
    · cases z
    exact E.sep j k a1 a2 q h1 h2 h3 h4
end DL

namespace DL
open PySem L2

/-! ### judgements over data -/
abbrev RJ (α : Type) := Hp → Hp → V → α → Prop
/-- what an expression is worth: by the slots' data, without a heap -/
abbrev DJ (α : Type) := Rho → (α → Prop) → Prop
abbrev DE := DJ D
abbrev DT := DJ Bool
abbrev DA := DJ (List D)
structure DEnds where
  nx : Rho → Prop
  rt : D → Prop
  bk : Rho → Prop := fun _ => False
  ct : Rho → Prop := fun _ => False
abbrev DS := DEnds → Rho → Prop
abbrev RD (K : PySem.W.Frag) : RJ D := fun F _ v d => At K F v d
/-- a list that may be read: of one's own, frozen, or new -/
abbrev RL (K : PySem.W.Frag) : RJ (List D) := fun F H v ds => ∃ p xs, v = .ref p ∧ H p = some (.lst xs) ∧ AtAll K F xs ds
def Stable {α : Type} (R : RJ α) : Prop := ∀ (F H F' H' : Hp) (v : V) (a : α), Stp F H F' H' → R F H v a → R F' H' v a
theorem RD.stable {K : PySem.W.Frag} : Stable (RD K) := fun _ _ _ _ _ _ s h => At.mono s.ff h
theorem RL.stable {K : PySem.W.Frag} : Stable (RL K) := fun _ _ _ _ _ _ s ⟨p, xs, e, h, a⟩ => ⟨p, xs, e, s.hh _ _ h, a.mono s.ff⟩

section
variable (K : PySem.W.Frag) (F0 H0 : Hp)
def lJ {α : Type} (R : RJ α) (t : DJ α) : TE := fun σ H Q => ∃ F ρ QQ, EnvAt K F0 H0 F H σ ρ ∧ t ρ QQ ∧ ∀ a v F' H', QQ a → Stp F H F' H' → R F' H' v a → Q v H'
def lN (t : DA) : TE := fun σ H Q => ∃ F ρ QQ, EnvAt K F0 H0 F H σ ρ ∧ t ρ QQ ∧ ∀ ds p xs F' H', QQ ds → Stp F H F' H' → H p = none → H' p = some (.lst xs) → F' p = none → AtAll K F' xs ds → Q (.ref p) H'
def lT (t : DT) : TT := fun σ H Q => ∃ F ρ QQ, EnvAt K F0 H0 F H σ ρ ∧ t ρ QQ ∧ ∀ b F' H', QQ b → Stp F H F' H' → Q b H'
def lA (t : DA) : TA := fun σ H Q => ∃ F ρ QQ, EnvAt K F0 H0 F H σ ρ ∧ t ρ QQ ∧ ∀ ds vs F' H', QQ ds → Stp F H F' H' → AtAll K F' vs ds → Q vs H'
structure Lnk (F : Hp) (E : Ends) (DD : DEnds) : Prop where
  nx : ∀ ρ σ F' H', DD.nx ρ → Same F F' → EnvAt K F0 H0 F' H' σ ρ → E.nx σ H'
  bk : ∀ ρ σ F' H', DD.bk ρ → Same F F' → EnvAt K F0 H0 F' H' σ ρ → E.bk σ H'
  ct : ∀ ρ σ F' H', DD.ct ρ → Same F F' → EnvAt K F0 H0 F' H' σ ρ → E.ct σ H'
  rt : ∀ d v F' H', DD.rt d → Same F F' → Stp F0 H0 F' H' → At K F' v d → E.rt v H'
def lS (t : DS) : TS := fun E σ H => ∃ F ρ DD, EnvAt K F0 H0 F H σ ρ ∧ t DD ρ ∧ Lnk K F0 H0 F E DD
end
theorem Lnk.mono {K : PySem.W.Frag} {F0 H0 F F1 : Hp} {E : Ends} {DD : DEnds} (l : Lnk K F0 H0 F E DD) (s : Same F F1) : Lnk K F0 H0 F1 E DD :=
  ⟨fun ρ σ F' H' a b c => l.nx ρ σ F' H' a (s.trans b) c, fun ρ σ F' H' a b c => l.bk ρ σ F' H' a (s.trans b) c, fun ρ σ F' H' a b c => l.ct ρ σ F' H' a (s.trans b) c, fun d v F' H' a b c e => l.rt d v F' H' a (s.trans b) c e⟩

structure PJ {α : Type} (X : Cx) (F0 H0 : Hp) (R : RJ α) (e : Expr) (t : DJ α) : Prop where
  pe : PE X e (lJ X.K F0 H0 R t)
structure PN (X : Cx) (F0 H0 : Hp) (e : Expr) (t : DA) : Prop where
  pe : PE X e (lN X.K F0 H0 t)
structure PTD (X : Cx) (F0 H0 : Hp) (e : Expr) (t : DT) : Prop where
  pt : PT X e (lT X.K F0 H0 t)
structure PWD (X : Cx) (F0 H0 : Hp) (e : Expr) (t : DT) : Prop where
  pw : PW X e (lT X.K F0 H0 t)
structure PAD (X : Cx) (F0 H0 : Hp) (es : List Expr) (t : DA) : Prop where
  pa : PA X es (lA X.K F0 H0 t)
structure PSD (X : Cx) (F0 H0 : Hp) (st : Stmt) (t : DS) : Prop where
  ps : PS X st (lS X.K F0 H0 t)
structure PSsD (X : Cx) (F0 H0 : Hp) (sts : List Stmt) (t : DS) : Prop where
  ps : PSs X sts (lS X.K F0 H0 t)
abbrev PD (X : Cx) (F0 H0 : Hp) (e : Expr) (t : DE) : Prop := PJ X F0 H0 (RD X.K) e t
abbrev PL (X : Cx) (F0 H0 : Hp) (e : Expr) (t : DA) : Prop := PJ X F0 H0 (RL X.K) e t

section
variable {X : Cx} {F0 H0 : Hp}
theorem pe_imp {e : Expr} {t t' : TE} (h : PE X e t) (w : ∀ σ H Q, t' σ H Q → t σ H Q) : PE X e t' := ⟨fun pins s σ H Q I q => h.run pins s σ H Q I (w σ H Q q)⟩
theorem pt_imp {e : Expr} {t t' : TT} (h : PT X e t) (w : ∀ σ H Q, t' σ H Q → t σ H Q) : PT X e t' := ⟨fun pins s σ H Q I q => h.run pins s σ H Q I (w σ H Q q)⟩
theorem pw_imp {e : Expr} {t t' : TT} (h : PW X e t) (w : ∀ σ H Q, t' σ H Q → t σ H Q) : PW X e t' := ⟨fun wh pins s σ H Q I q => h.run wh pins s σ H Q I (w σ H Q q)⟩
theorem pa_imp {e : List Expr} {t t' : TA} (h : PA X e t) (w : ∀ σ H Q, t' σ H Q → t σ H Q) : PA X e t' := ⟨fun pos pins s σ H Q I q => h.run pos pins s σ H Q I (w σ H Q q)⟩
theorem ps_imp {e : Stmt} {t t' : TS} (h : PS X e t) (w : ∀ D σ H, t' D σ H → t D σ H) : PS X e t' := ⟨fun pins s σ H D I q => h.run pins s σ H D I (w D σ H q)⟩
theorem pss_imp {e : List Stmt} {t t' : TS} (h : PSs X e t) (w : ∀ D σ H, t' D σ H → t D σ H) : PSs X e t' := ⟨fun pins s σ H D I q => h.run pins s σ H D I (w D σ H q)⟩

/-! ### names, constants -/
def dVar (i : Nat) : DE := fun ρ Q => ∃ d, ρ[i]? = some (some (.d d)) ∧ Q d
def dOwn (i : Nat) : DA := fun ρ Q => ∃ ds, ρ[i]? = some (some (.own ds)) ∧ Q ds
def dC (d : D) : DE := fun _ Q => Q d
theorem pd_pe {i : Nat} {e : Expr} (h : PE X e (tVar i)) : PD X F0 H0 e (dVar i) := by
  refine ⟨pe_imp h ?_⟩
  rintro σ H Q ⟨F, ρ, QQ, E, ⟨d, e1, q⟩, k⟩
  obtain ⟨v, h1, h2⟩ := E.dd i d e1
  exact ⟨v, h1, k d v F H q (Stp.refl E.fs) h2⟩
theorem pl_pe {i : Nat} {e : Expr} (h : PE X e (tVar i)) : PL X F0 H0 e (dOwn i) := by
  refine ⟨pe_imp h ?_⟩
  rintro σ H Q ⟨F, ρ, QQ, E, ⟨d, e1, q⟩, k⟩
  obtain ⟨p, xs, h1, h2, h3, h4, h5⟩ := E.ow i d e1
  exact ⟨.ref p, h1, k d _ F H q (Stp.refl E.fs) ⟨p, xs, rfl, h2, h5⟩⟩
theorem dv (i : Nat) {x : Str} {pos : Pos} (hN : X.N[i]? = some x := by rfl) (hv : Vis X.env.scope x := by first | exact Or.inl rfl | exact Or.inr (Or.inl rfl) | exact Or.inr (Or.inr rfl)) (hd : (x == ("__debug__" : Str)) = false := by decide)
    (hcd : (x == ("__classdict__" : Str)) = false := by decide) : PD X F0 H0 (.Name x pos) (dVar i) := pd_pe (pe_var hN hv hd hcd)
theorem ov (i : Nat) {x : Str} {pos : Pos} (hN : X.N[i]? = some x := by rfl) (hv : Vis X.env.scope x := by first | exact Or.inl rfl | exact Or.inr (Or.inl rfl) | exact Or.inr (Or.inr rfl)) (hd : (x == ("__debug__" : Str)) = false := by decide)
    (hcd : (x == ("__classdict__" : Str)) = false := by decide) : PL X F0 H0 (.Name x pos) (dOwn i) := pl_pe (pe_var hN hv hd hcd)
theorem pd_const {e : Expr} {v : V} {d : D} (h : PE X e (tC v)) (a : ∀ F, At X.K F v d) : PD X F0 H0 e (dC d) := by
  refine ⟨pe_imp h ?_⟩
  rintro σ H Q ⟨F, ρ, QQ, E, q, k⟩
  exact k d v F H q (Stp.refl E.fs) (a F)
theorem pd_int {i j pos} : PD X F0 H0 (.Constant (.int i) j pos) (dC (.int i)) := pd_const pe_int fun _ => .int i
theorem pd_bl {b j pos} : PD X F0 H0 (.Constant (.bool b) j pos) (dC (.bl b)) := pd_const pe_bl fun _ => .bl b
theorem pd_non {j pos} : PD X F0 H0 (.Constant .none j pos) (dC .non) := pd_const pe_non fun _ => .non
theorem pd_str {x j pos} : PD X F0 H0 (.Constant (.str x) j pos) (dC (.str x)) := pd_const pe_str fun _ => .str x
theorem pd_glob {x : Str} {v : V} {d : D} {u : Value} {pos : Pos} (hg : Gl X x) (hm : X.mg x = some u) (r : RelV v u) (a : ∀ F, At X.K F v d) (hd : (x == ("__debug__" : Str)) = false := by decide) : PD X F0 H0 (.Name x pos) (dC d) :=
  pd_const (pe_glob hg hm r hd) a

/-- from a new list, or from data, to a list that is read -/
theorem PN.pl {e : Expr} {t : DA} (h : PN X F0 H0 e t) : PL X F0 H0 e t := by
  refine ⟨pe_imp h.pe ?_⟩
  rintro σ H Q ⟨F, ρ, QQ, E, q, k⟩
  exact ⟨F, ρ, QQ, E, q, fun ds p xs F' H' q s h1 h2 h3 h4 => k ds _ F' H' q s ⟨p, xs, rfl, h2, h4⟩⟩
def dLst (t : DE) : DA := fun ρ Q => t ρ fun d => ∃ l, d = .lst l ∧ Q l
theorem PJ.lst {e : Expr} {t : DE} (h : PD X F0 H0 e t) : PL X F0 H0 e (dLst t) := by
  refine ⟨pe_imp h.pe ?_⟩
  rintro σ H Q ⟨F, ρ, QQ, E, q, k⟩
  refine ⟨F, ρ, _, E, q, fun d v F' H' ⟨l, e1, q⟩ s a => ?_⟩
  subst e1
  cases a with
  | lst h1 h2 => exact k l _ F' H' q s ⟨_, _, rfl, s.fs _ _ h1, h2⟩
def dFz (t : DA) : DE := fun ρ Q => t ρ fun l => Q (.lst l)
/-- a new list, nobody's to change from now on -/
theorem PN.pd {e : Expr} {t : DA} (h : PN X F0 H0 e t) : PD X F0 H0 e (dFz t) := by
  refine ⟨pe_imp h.pe ?_⟩
  rintro σ H Q ⟨F, ρ, QQ, E, q, k⟩
  refine ⟨F, ρ, _, E, q, fun ds p xs F' H' q s h1 h2 h3 h4 => ?_⟩
  have ff : Same F' (upd F' p (.lst xs)) := same_upd h3 _
  refine k _ (.ref p) (upd F' p (.lst xs)) H' q ⟨s.hh, s.ff.trans ff, fun b u z => ?_, fun b h5 h6 => ?_⟩ (.lst upd_same (h4.mono ff))
  · by_cases e : b = p
    · subst e; rw [upd_same] at z; cases z; exact h2
    · rw [upd_ne e] at z; exact s.fs b u z
  · have e : b ≠ p := fun e => by subst e; exact h5 h1
    rw [upd_ne e]; exact s.nw b h5 h6

/-! ### operators by values -/
def Br2 {α β γ : Type} (Ra : RJ α) (Rb : RJ β) (Rc : RJ γ) (r : R2) (g : α → β → (γ → Prop) → Prop) : Prop :=
  ∀ (F H : Hp) (x y : V) (a : α) (b : β) (QQ : γ → Prop) (Q : VK), Same F H → Ra F H x a → Rb F H y b → g a b QQ → (∀ c v F' H', QQ c → Stp F H F' H' → Rc F' H' v c → Q v H') → r x y H Q
def OpD {α β γ : Type} (X : Cx) (f : Value → Value → Sem Value) (Ra : RJ α) (Rb : RJ β) (Rc : RJ γ) (g : α → β → (γ → Prop) → Prop) : Prop := ∃ r, OpR X f r ∧ Br2 Ra Rb Rc r g
def dOp {α β γ : Type} (g : α → β → (γ → Prop) → Prop) (ta : DJ α) (tb : DJ β) : DJ γ := fun ρ Q => ta ρ fun x => tb ρ fun y => g x y Q
def dTst (t : DE) : DT := fun ρ Q => t ρ fun d => ∃ k, d = .bl k ∧ Q k
section
variable {α β γ : Type} {Ra : RJ α} {Rb : RJ β} {Rc : RJ γ} {g : α → β → (γ → Prop) → Prop} {a b : Expr} {ta : DJ α} {tb : DJ β} {pos : Pos}
theorem lOp {r : R2} (br : Br2 Ra Rb Rc r g) (sa : Stable Ra) {σ : L2.St} {H : Hp} {Q : VK} (h : lJ X.K F0 H0 Rc (dOp g ta tb) σ H Q) : tOp r (lJ X.K F0 H0 Ra ta) (lJ X.K F0 H0 Rb tb) σ H Q := by
  obtain ⟨F, ρ, QQ, E, q, k⟩ := h
  refine ⟨F, ρ, _, E, q, fun a v F1 H1 q1 s1 ra => ?_⟩
  refine ⟨F1, ρ, _, E.step s1, q1, fun b u F2 H2 q2 s2 rb => ?_⟩
  exact br F2 H2 v u a b QQ Q s2.fs (sa _ _ _ _ _ _ s2 ra) rb q2 fun c w F' H' q' s' rc => k c w F' H' q' ((s1.trans s2).trans s') rc
theorem pj_op {op : Operator} (o : OpD X (binaryOp op) Ra Rb Rc g) (ha : PJ X F0 H0 Ra a ta) (hb : PJ X F0 H0 Rb b tb) (sa : Stable Ra := by first | exact RD.stable | exact RL.stable) : PJ X F0 H0 Rc (.BinOp a op b pos) (dOp g ta tb) := by
  obtain ⟨r, ho, br⟩ := o
  exact ⟨pe_imp (pe_op ho ha.pe hb.pe) fun σ H Q h => lOp br sa h⟩
theorem pd_cmp {op : CmpOp} {g : α → β → (D → Prop) → Prop} (o : OpD X (compareOp op) Ra Rb (RD X.K) g) (ha : PJ X F0 H0 Ra a ta) (hb : PJ X F0 H0 Rb b tb) (hm : behindInMarks op b = false := by first | exact nomark _ | rfl) (sa : Stable Ra := by first | exact RD.stable | exact RL.stable) :
    PD X F0 H0 (.Compare a [op] [b] pos) (dOp g ta tb) := by
  obtain ⟨r, ho, br⟩ := o
  exact ⟨pe_imp (pe_cmpR ho ha.pe hb.pe hm) fun σ H Q h => lOp br sa h⟩
theorem lTst {t : DE} {σ : L2.St} {H : Hp} {Q : Bool → Hp → Prop} (h : lT X.K F0 H0 (dTst t) σ H Q) : lJ X.K F0 H0 (RD X.K) t σ H (fun x H' => ∃ k, x = .bl k ∧ Q k H') := by
  obtain ⟨F, ρ, QQ, E, q, k⟩ := h
  refine ⟨F, ρ, _, E, q, fun d v F' H' ⟨c, e1, q'⟩ s a => ?_⟩
  subst e1
  cases a
  exact ⟨c, rfl, k c F' H' q' s⟩
theorem ptd_cmp {op : CmpOp} {g : α → β → (D → Prop) → Prop} (o : OpD X (compareOp op) Ra Rb (RD X.K) g) (ha : PJ X F0 H0 Ra a ta) (hb : PJ X F0 H0 Rb b tb) (hm : behindInMarks op b = false := by first | exact nomark _ | rfl) (sa : Stable Ra := by first | exact RD.stable | exact RL.stable) :
    PTD X F0 H0 (.Compare a [op] [b] pos) (dTst (dOp g ta tb)) := by
  obtain ⟨r, ho, br⟩ := o
  exact ⟨pt_imp (pt_cmpR ho ha.pe hb.pe hm) fun σ H Q h => lOp br sa (lTst h)⟩
theorem ptd_val {e : Expr} {t : DE} (h : PD X F0 H0 e t) (he : ∀ whole, isTrue e X.env whole = (do let v ← whole; standAt e.pos; holding [v] (truthy v)) := by intro _; rfl) : PTD X F0 H0 e (dTst t) :=
  ⟨pt_imp (pt_val h.pe he) fun σ H Q h => lTst h⟩
end
end
end DL

namespace DL
open PySem L2
section
variable {X : Cx} {F0 H0 : Hp} {a b c : Expr} {pos : Pos}

/-! ### ints -/
def gI (f : Int → Int → Int) : D → D → (D → Prop) → Prop := fun x y Q => ∃ i j, x = .int i ∧ y = .int j ∧ Q (.int (f i j))
def gIC (C : Int → Int → Prop) (f : Int → Int → Int) : D → D → (D → Prop) → Prop := fun x y Q => ∃ i j, x = .int i ∧ y = .int j ∧ C i j ∧ Q (.int (f i j))
def gIB (f : Int → Int → Bool) : D → D → (D → Prop) → Prop := fun x y Q => ∃ i j, x = .int i ∧ y = .int j ∧ Q (.bl (f i j))
theorem br_I0 {K : PySem.W.Frag} {f : Int → Int → Int} : Br2 (RD K) (RD K) (RD K) (rI0 fun i j => .int (f i j)) (gI f) := by
  rintro F H x y d e QQ Q fs rx ry ⟨i, j, rfl, rfl, q⟩ k
  cases rx
  cases ry
  exact ⟨i, j, rfl, rfl, k _ _ F H q (Stp.refl fs) (.int _)⟩
theorem br_IC {K : PySem.W.Frag} {C : Int → Int → Prop} {f : Int → Int → Int} : Br2 (RD K) (RD K) (RD K) (rI C fun i j => .int (f i j)) (gIC C f) := by
  rintro F H x y d e QQ Q fs rx ry ⟨i, j, rfl, rfl, c, q⟩ k
  cases rx
  cases ry
  exact ⟨i, j, rfl, rfl, c, k _ _ F H q (Stp.refl fs) (.int _)⟩
theorem br_IB {K : PySem.W.Frag} {f : Int → Int → Bool} : Br2 (RD K) (RD K) (RD K) (rI0 fun i j => .bl (f i j)) (gIB f) := by
  rintro F H x y d e QQ Q fs rx ry ⟨i, j, rfl, rfl, q⟩ k
  cases rx
  cases ry
  exact ⟨i, j, rfl, rfl, k _ _ F H q (Stp.refl fs) (.bl _)⟩
def MulOk (i j : Int) : Prop := i.natAbs < 2 ^ 64 ∨ j.natAbs < 2 ^ 64 ∨ i.natAbs.log2 + j.natAbs.log2 < 1000000
theorem MulOk.ok {i j : Int} (h : MulOk i j) : IntMulOk i j := by
  rcases h with h | h | h
  · exact .of_left (intBits_le_64 (by omega) (by omega))
  · exact .of_right (intBits_le_64 (by omega) (by omega))
  · exact CMulW.ok h
theorem mulok {i j : Int} (a b : Nat) (ha : i.natAbs < 2 ^ a) (hb : j.natAbs < 2 ^ b) (h : a + b < 1000000 := by decide) : MulOk i j := by
  refine .inr (.inr ?_)
  have e1 : i.natAbs.log2 ≤ a := by
    by_cases z : i.natAbs = 0
    · rw [z]; simp
    · have := (Nat.log2_lt z).mpr ha; omega
  have e2 : j.natAbs.log2 ≤ b := by
    by_cases z : j.natAbs = 0
    · rw [z]; simp
    · have := (Nat.log2_lt z).mpr hb; omega
  omega
def DivOk (_ j : Int) : Prop := j ≠ 0 ∧ j.natAbs.log2 < 9000
theorem divok {i j : Int} (h : j ≠ 0) (b : Nat) (hb : j.natAbs < 2 ^ b) (h9 : b ≤ 9000 := by decide) : DivOk i j := by
  refine ⟨h, ?_⟩
  have := (Nat.log2_lt (n := j.natAbs) (k := b) (by omega)).mpr hb
  omega
theorem op_mulX' : OpR X (binaryOp .Mult) (rI MulOk fun i j => .int (i * j)) := opI fun _ _ _ _ _ _ _ hc q => PyProof.Rows.mul_int q hc.ok
theorem op_fdivX : OpR X (binaryOp .FloorDiv) (rI DivOk fun i j => .int (i.fdiv j)) := opI fun i j _ _ _ _ _ hc q =>
  PyProof.Rows.floordiv_int hc.1 q (.inl (PyProof.noPylong_of_log2 hc.2))
theorem op_fdivP : OpR X (binaryOp .FloorDiv) (rI (fun i j => 0 < j ∧ DivOk i j) fun i j => .int (i / j)) := opI fun i j _ _ _ _ _ hc q => by
  have h1 : (0 : Int) < j := hc.1
  exact PyProof.Rows.floordiv_int (by omega) (by rw [Int.fdiv_eq_ediv_of_nonneg i (by omega)]; exact q) (.inl (PyProof.noPylong_of_log2 hc.2.2))
abbrev gAdd := gI fun i j => i + j
abbrev gSub := gI fun i j => i - j
abbrev gMul := gIC MulOk fun i j => i * j
/-- // by a positive one; by any one -/
abbrev gDiv := gIC (fun i j => 0 < j ∧ DivOk i j) fun i j => i / j
abbrev gDivN := gIC DivOk fun i j => i.fdiv j
abbrev gMod := gIC (fun _ j => 0 < j) fun i j => i % j
abbrev gModN := gIC (fun _ j => j ≠ 0) fun i j => i.fmod j
abbrev gPow := gIC CPow fun i j => i ^ j.toNat
theorem o_add : OpD X (binaryOp .Add) (RD X.K) (RD X.K) (RD X.K) gAdd := ⟨_, op_add, br_I0⟩
theorem o_sub : OpD X (binaryOp .Sub) (RD X.K) (RD X.K) (RD X.K) gSub := ⟨_, op_sub, br_I0⟩
theorem o_mul : OpD X (binaryOp .Mult) (RD X.K) (RD X.K) (RD X.K) gMul := ⟨_, op_mulX', br_IC⟩
theorem o_div : OpD X (binaryOp .FloorDiv) (RD X.K) (RD X.K) (RD X.K) gDiv := ⟨_, op_fdivP, br_IC⟩
theorem o_divN : OpD X (binaryOp .FloorDiv) (RD X.K) (RD X.K) (RD X.K) gDivN := ⟨_, op_fdivX, br_IC⟩
theorem o_mod : OpD X (binaryOp .Mod) (RD X.K) (RD X.K) (RD X.K) gMod := ⟨_, op_mod, br_IC⟩
theorem o_modN : OpD X (binaryOp .Mod) (RD X.K) (RD X.K) (RD X.K) gModN := ⟨_, op_modN, br_IC⟩
theorem o_pow : OpD X (binaryOp .Pow) (RD X.K) (RD X.K) (RD X.K) gPow := ⟨_, op_pow, br_IC⟩
abbrev gLt := gIB fun i j => decide (i < j)
abbrev gLe := gIB fun i j => decide (i ≤ j)
abbrev gGt := gIB fun i j => decide (j < i)
abbrev gGe := gIB fun i j => decide (j ≤ i)
theorem o_lt : OpD X (compareOp .Lt) (RD X.K) (RD X.K) (RD X.K) gLt := ⟨_, op_lt, br_IB⟩
theorem o_le : OpD X (compareOp .LtE) (RD X.K) (RD X.K) (RD X.K) gLe := ⟨_, op_le, br_IB⟩
theorem o_gt : OpD X (compareOp .Gt) (RD X.K) (RD X.K) (RD X.K) gGt := ⟨_, op_gt, br_IB⟩
theorem o_ge : OpD X (compareOp .GtE) (RD X.K) (RD X.K) (RD X.K) gGe := ⟨_, op_ge, br_IB⟩
def dNeg (t : DE) : DE := fun ρ Q => t ρ fun x => ∃ i, x = .int i ∧ Q (.int (-i))
theorem pd_neg {t : DE} (h : PD X F0 H0 a t) : PD X F0 H0 (.UnaryOp .USub a pos) (dNeg t) := by
  refine ⟨pe_imp (pe_un un_neg h.pe) ?_⟩
  rintro σ H Q ⟨F, ρ, QQ, E, q, k⟩
  refine ⟨F, ρ, _, E, q, fun d v F' H' ⟨i, e1, q'⟩ s r => ?_⟩
  subst e1
  cases r
  exact ⟨i, rfl, k _ _ F' H' q' s (.int _)⟩

/-! ### ==, != of any data -/
def rEqP (ne : Bool) (K : PySem.W.Frag) : R2 := fun x y H Q => ∃ d e, Dp K H x d ∧ Dp K H y e ∧ d.plain = true ∧ e.plain = true ∧ min d.depth e.depth ≤ 64 ∧ Q (.bl (if ne then !PyData.eqv d e else PyData.eqv d e)) H
theorem op_eqP (hu : X.A.units + 64 < cLine) : OpR X (compareOp .Eq) (rEqP false X.K) := by
  intro pins s σ H x y v u Q I rx ry h
  obtain ⟨d, e, hd, he, sd, se, hm, q⟩ := h
  obtain ⟨as, r1⟩ := Dp.reads I d x v hd rx
  obtain ⟨bs, r2⟩ := Dp.reads I e y u he ry
  exact PySem.SeqAt.eq_plain r1 r2 sd se (by omega) ⟨.bl _, H, I, rfl, q⟩
theorem op_neP (hu : X.A.units + 64 < cLine) : OpR X (compareOp .NotEq) (rEqP true X.K) := by
  intro pins s σ H x y v u Q I rx ry h
  obtain ⟨d, e, hd, he, sd, se, hm, q⟩ := h
  obtain ⟨as, r1⟩ := Dp.reads I d x v hd rx
  obtain ⟨bs, r2⟩ := Dp.reads I e y u he ry
  exact PySem.SeqAt.ne_plain r1 r2 sd se (by omega) ⟨.bl _, H, I, rfl, q⟩
/-- data that may be compared -/
def D.ok (d : D) : Bool := d.py.plain && decide (d.py.depth ≤ 64)
theorem ok_pl {d : D} (h : d.ok = true) : d.py.plain = true := (Bool.and_eq_true_iff.mp h).1
theorem ok_dp {d : D} (h : d.ok = true) : d.py.depth ≤ 64 := of_decide_eq_true (Bool.and_eq_true_iff.mp h).2
def eqD (x y : D) : Bool := PyData.eqv x.py y.py
def gEq : D → D → (D → Prop) → Prop := fun x y Q => x.ok = true ∧ y.ok = true ∧ Q (.bl (eqD x y))
def gNe : D → D → (D → Prop) → Prop := fun x y Q => x.ok = true ∧ y.ok = true ∧ Q (.bl (!eqD x y))
theorem o_eq (hu : X.A.units + 64 < cLine) : OpD X (compareOp .Eq) (RD X.K) (RD X.K) (RD X.K) gEq := by
  refine ⟨_, op_eqP hu, ?_⟩
  rintro F H x y d e QQ Q fs rx ry ⟨h1, h2, q⟩ k
  have m1 := ok_dp h1
  exact ⟨d.py, e.py, Dp.mono' fs (At.dp rx (ok_pl h1)), Dp.mono' fs (At.dp ry (ok_pl h2)), (ok_pl h1), (ok_pl h2), by omega, k _ _ F H q (Stp.refl fs) (.bl _)⟩
theorem o_ne (hu : X.A.units + 64 < cLine) : OpD X (compareOp .NotEq) (RD X.K) (RD X.K) (RD X.K) gNe := by
  refine ⟨_, op_neP hu, ?_⟩
  rintro F H x y d e QQ Q fs rx ry ⟨h1, h2, q⟩ k
  have m1 := ok_dp h1
  exact ⟨d.py, e.py, Dp.mono' fs (At.dp rx (ok_pl h1)), Dp.mono' fs (At.dp ry (ok_pl h2)), (ok_pl h1), (ok_pl h2), by omega, k _ _ F H q (Stp.refl fs) (.bl _)⟩
/-- .. of lists that may still change -/
def gEqL : List D → List D → (D → Prop) → Prop := fun x y Q => (D.lst x).ok = true ∧ (D.lst y).ok = true ∧ Q (.bl (eqD (.lst x) (.lst y)))
def gNeL : List D → List D → (D → Prop) → Prop := fun x y Q => (D.lst x).ok = true ∧ (D.lst y).ok = true ∧ Q (.bl (!eqD (.lst x) (.lst y)))
theorem RL.dp {K : PySem.W.Frag} {F H : Hp} {v : V} {ds : List D} (fs : Same F H) (h : RL K F H v ds) (p : (D.lst ds).py.plain = true) : Dp K H v (D.lst ds).py := by
  obtain ⟨p', xs, rfl, h1, h2⟩ := h
  exact .lst (SqL.of h1) (DpAll.mono' fs (AtAll.dp h2 (by simpa [D.py, PyData.plain] using p)))
theorem o_eqL (hu : X.A.units + 64 < cLine) : OpD X (compareOp .Eq) (RL X.K) (RL X.K) (RD X.K) gEqL := by
  refine ⟨_, op_eqP hu, ?_⟩
  rintro F H x y d e QQ Q fs rx ry ⟨h1, h2, q⟩ k
  have m1 := ok_dp h1
  exact ⟨_, _, RL.dp fs rx (ok_pl h1), RL.dp fs ry (ok_pl h2), (ok_pl h1), (ok_pl h2), by omega, k _ _ F H q (Stp.refl fs) (.bl _)⟩
theorem o_neL (hu : X.A.units + 64 < cLine) : OpD X (compareOp .NotEq) (RL X.K) (RL X.K) (RD X.K) gNeL := by
  refine ⟨_, op_neP hu, ?_⟩
  rintro F H x y d e QQ Q fs rx ry ⟨h1, h2, q⟩ k
  have m1 := ok_dp h1
  exact ⟨_, _, RL.dp fs rx (ok_pl h1), RL.dp fs ry (ok_pl h2), (ok_pl h1), (ok_pl h2), by omega, k _ _ F H q (Stp.refl fs) (.bl _)⟩

/-! ### is -/
def D.isNon : D → Bool
  | .non => true
  | _ => false
theorem At.isNon {K : PySem.W.Frag} {F : Hp} {v : V} {d : D} (h : At K F v d) : decide (v = .non) = d.isNon := by
  cases h <;> simp [D.isNon]
def gIsN : D → D → (D → Prop) → Prop := fun x y Q => y = .non ∧ Q (.bl x.isNon)
def gNotN : D → D → (D → Prop) → Prop := fun x y Q => y = .non ∧ Q (.bl (!x.isNon))
theorem o_isN : OpD X (compareOp .Is) (RD X.K) (RD X.K) (RD X.K) gIsN := by
  refine ⟨_, op_isN, ?_⟩
  rintro F H x y d e QQ Q fs rx ry ⟨rfl, q⟩ k
  cases ry
  refine ⟨rfl, ?_⟩
  rw [At.isNon rx]
  exact k _ _ F H q (Stp.refl fs) (.bl _)
theorem o_notN : OpD X (compareOp .IsNot) (RD X.K) (RD X.K) (RD X.K) gNotN := by
  refine ⟨_, op_notN, ?_⟩
  rintro F H x y d e QQ Q fs rx ry ⟨rfl, q⟩ k
  cases ry
  refine ⟨rfl, ?_⟩
  rw [At.isNon rx]
  exact k _ _ F H q (Stp.refl fs) (.bl _)
def gIsB : D → D → (D → Prop) → Prop := fun x y Q => ∃ i j, x = .bl i ∧ y = .bl j ∧ Q (.bl (i == j))
def gNotB : D → D → (D → Prop) → Prop := fun x y Q => ∃ i j, x = .bl i ∧ y = .bl j ∧ Q (.bl (!(i == j)))
theorem o_isB : OpD X (compareOp .Is) (RD X.K) (RD X.K) (RD X.K) gIsB := by
  refine ⟨_, op_is_bl, ?_⟩
  rintro F H x y d e QQ Q fs rx ry ⟨i, j, rfl, rfl, q⟩ k
  cases rx; cases ry
  refine ⟨i, j, rfl, rfl, ?_⟩
  have e : decide (i = j) = (i == j) := by cases i <;> cases j <;> rfl
  rw [e]
  exact k _ _ F H q (Stp.refl fs) (.bl _)
theorem o_notB : OpD X (compareOp .IsNot) (RD X.K) (RD X.K) (RD X.K) gNotB := by
  refine ⟨_, op_isnot_bl, ?_⟩
  rintro F H x y d e QQ Q fs rx ry ⟨i, j, rfl, rfl, q⟩ k
  cases rx; cases ry
  refine ⟨i, j, rfl, rfl, ?_⟩
  have e : decide (i = j) = (i == j) := by cases i <;> cases j <;> rfl
  rw [e]
  exact k _ _ F H q (Stp.refl fs) (.bl _)

/-! ### tests, and | or | not, if | else -/
/-- by truth -/
def truV : D → Bool → Prop
  | .non, k => k = false
  | .bl b, k => k = b
  | .int i, k => k = (i != 0)
  | .str s, k => s.length ≤ sizeLine ∧ k = ((s.length : Int) != 0)
  | .tup l, k => k = !l.isEmpty
  | .lst l, k => k = !l.isEmpty
  | _, _ => False
def dTru (t : DE) : DT := fun ρ Q => t ρ fun d => ∃ k, truV d k ∧ Q k
theorem At.tru {K : PySem.W.Frag} {F H : Hp} {v : V} {d : D} {k : Bool} (fs : Same F H) (a : At K F v d) (h : truV d k) : TruV K v H k := by
  cases a with
  | non => exact h
  | bl b => exact h
  | int i => exact h
  | str x => exact h
  | lst q r =>
    refine .inl ⟨_, SqL.of (fs _ _ q), ?_⟩
    have e : k = !_ := h
    rw [e]
    cases r <;> rfl
  | tup q r =>
    refine .inr (.inl ⟨_, Same.sqT fs q, ?_⟩)
    have e : k = !_ := h
    rw [e]
    cases r <;> rfl
  | dct q => exact h.elim
  | scr q => exact h.elim
theorem ptd_tru {t : DE} (h : PD X F0 H0 a t) (he : ∀ whole, isTrue a X.env whole = (do let v ← whole; standAt a.pos; holding [v] (truthy v)) := by intro _; rfl) : PTD X F0 H0 a (dTru t) := by
  refine ⟨pt_imp (pt_truth h.pe he) ?_⟩
  rintro σ H Q ⟨F, ρ, QQ, E, q, k⟩
  exact ⟨F, ρ, _, E, q, fun d v F' H' ⟨b, e1, q'⟩ s r => ⟨b, At.tru s.fs r e1, k b F' H' q' s⟩⟩
def dTruL (t : DA) : DT := fun ρ Q => t ρ fun l => Q (!l.isEmpty)
theorem ptd_truL {t : DA} (h : PL X F0 H0 a t) (he : ∀ whole, isTrue a X.env whole = (do let v ← whole; standAt a.pos; holding [v] (truthy v)) := by intro _; rfl) : PTD X F0 H0 a (dTruL t) := by
  refine ⟨pt_imp (pt_truth h.pe he) ?_⟩
  rintro σ H Q ⟨F, ρ, QQ, E, q, k⟩
  refine ⟨F, ρ, _, E, q, fun d v F' H' q' s ⟨p, xs, e1, h1, h2⟩ => ⟨_, ?_, k _ F' H' q' s⟩⟩
  subst e1
  refine .inl ⟨_, SqL.of h1, ?_⟩
  cases h2 <;> rfl
section
variable {tA tB : DT} {rest : List Expr}
def dAnd (t u : DT) : DT := fun ρ Q => t ρ fun c => if c = true then u ρ Q else Q false
def dOr (t u : DT) : DT := fun ρ Q => t ρ fun c => if c = true then Q true else u ρ Q
def dNot (t : DT) : DT := fun ρ Q => t ρ fun c => Q (!c)
theorem PWD.pt (h : PWD X F0 H0 a tA) : PTD X F0 H0 a tA := ⟨h.pw.pt⟩
theorem pwd_and1 (ha : PTD X F0 H0 a tA) : PWD X F0 H0 (.BoolOp .And [a] pos) tA := ⟨pw_and1 ha.pt⟩
theorem pwd_or1 (ha : PTD X F0 H0 a tA) : PWD X F0 H0 (.BoolOp .Or [a] pos) tA := ⟨pw_or1 ha.pt⟩
theorem pwd_and (ha : PTD X F0 H0 a tA) (hb : PWD X F0 H0 (.BoolOp .And (b :: rest) pos) tB) : PWD X F0 H0 (.BoolOp .And (a :: b :: rest) pos) (dAnd tA tB) := by
  refine ⟨pw_imp (L2.pw_and ha.pt hb.pw) ?_⟩
  rintro σ H Q ⟨F, ρ, QQ, E, q, k⟩
  refine ⟨F, ρ, _, E, q, fun c F1 H1 q1 s1 => ?_⟩
  cases c with
  | true => exact ⟨F1, ρ, QQ, E.step s1, q1, fun b F' H' q' s' => k b F' H' q' (s1.trans s')⟩
  | false => exact k false F1 H1 q1 s1
theorem pwd_or (ha : PTD X F0 H0 a tA) (hb : PWD X F0 H0 (.BoolOp .Or (b :: rest) pos) tB) : PWD X F0 H0 (.BoolOp .Or (a :: b :: rest) pos) (dOr tA tB) := by
  refine ⟨pw_imp (L2.pw_or ha.pt hb.pw) ?_⟩
  rintro σ H Q ⟨F, ρ, QQ, E, q, k⟩
  refine ⟨F, ρ, _, E, q, fun c F1 H1 q1 s1 => ?_⟩
  cases c with
  | false => exact ⟨F1, ρ, QQ, E.step s1, q1, fun b F' H' q' s' => k b F' H' q' (s1.trans s')⟩
  | true => exact k true F1 H1 q1 s1
theorem ptd_not (ha : PTD X F0 H0 a tA) : PTD X F0 H0 (.UnaryOp .Not a pos) (dNot tA) := by
  refine ⟨pt_imp (L2.pt_not ha.pt) ?_⟩
  rintro σ H Q ⟨F, ρ, QQ, E, q, k⟩
  exact ⟨F, ρ, _, E, q, fun c F1 H1 q1 s1 => k _ F1 H1 q1 s1⟩
def dIf {α : Type} (t : DT) (ta tb : DJ α) : DJ α := fun ρ Q => t ρ fun c => if c = true then ta ρ Q else tb ρ Q
theorem pd_if {α : Type} {R : RJ α} {ta tb : DJ α} (hc : PTD X F0 H0 c tA) (ha : PJ X F0 H0 R a ta) (hb : PJ X F0 H0 R b tb) : PJ X F0 H0 R (.IfExp c a b pos) (dIf tA ta tb) := by
  refine ⟨pe_imp (pe_ifExp hc.pt ha.pe hb.pe) ?_⟩
  rintro σ H Q ⟨F, ρ, QQ, E, q, k⟩
  refine ⟨F, ρ, _, E, q, fun c F1 H1 q1 s1 => ?_⟩
  cases c with
  | true => exact ⟨F1, ρ, QQ, E.step s1, q1, fun b v F' H' q' s' r => k b v F' H' q' (s1.trans s') r⟩
  | false => exact ⟨F1, ρ, QQ, E.step s1, q1, fun b v F' H' q' s' r => k b v F' H' q' (s1.trans s') r⟩
/-- and | or as values (bools) -/
def dAndV (ta tb : DE) : DE := fun ρ Q => ta ρ fun x => ∃ c, x = .bl c ∧ if c = true then tb ρ Q else Q (.bl false)
def dOrV (ta tb : DE) : DE := fun ρ Q => ta ρ fun x => ∃ c, x = .bl c ∧ if c = true then Q (.bl true) else tb ρ Q
def dNotV (ta : DE) : DE := fun ρ Q => ta ρ fun x => ∃ c, x = .bl c ∧ Q (.bl (!c))
theorem pd_one {op} {t : DE} (h : PD X F0 H0 a t) : PD X F0 H0 (.BoolOp op [a] pos) t := ⟨pe_one h.pe⟩
theorem pd_and {ta tb : DE} (ha : PD X F0 H0 a ta) (hb : PD X F0 H0 (.BoolOp .And (b :: rest) pos) tb) : PD X F0 H0 (.BoolOp .And (a :: b :: rest) pos) (dAndV ta tb) := by
  refine ⟨pe_imp (L2.pe_and ha.pe hb.pe) ?_⟩
  rintro σ H Q ⟨F, ρ, QQ, E, q, k⟩
  refine ⟨F, ρ, _, E, q, fun d v F1 H1 ⟨c, e1, q1⟩ s1 r => ?_⟩
  subst e1
  cases r
  refine ⟨c, rfl, ?_⟩
  cases c with
  | true => exact ⟨F1, ρ, QQ, E.step s1, q1, fun b v F' H' q' s' r => k b v F' H' q' (s1.trans s') r⟩
  | false => exact k _ _ F1 H1 q1 s1 (.bl _)
theorem pd_or {ta tb : DE} (ha : PD X F0 H0 a ta) (hb : PD X F0 H0 (.BoolOp .Or (b :: rest) pos) tb) : PD X F0 H0 (.BoolOp .Or (a :: b :: rest) pos) (dOrV ta tb) := by
  refine ⟨pe_imp (L2.pe_or ha.pe hb.pe) ?_⟩
  rintro σ H Q ⟨F, ρ, QQ, E, q, k⟩
  refine ⟨F, ρ, _, E, q, fun d v F1 H1 ⟨c, e1, q1⟩ s1 r => ?_⟩
  subst e1
  cases r
  refine ⟨c, rfl, ?_⟩
  cases c with
  | false => exact ⟨F1, ρ, QQ, E.step s1, q1, fun b v F' H' q' s' r => k b v F' H' q' (s1.trans s') r⟩
  | true => exact k _ _ F1 H1 q1 s1 (.bl _)
theorem pd_not {ta : DE} (ha : PD X F0 H0 a ta) : PD X F0 H0 (.UnaryOp .Not a pos) (dNotV ta) := by
  refine ⟨pe_imp (L2.pe_not ha.pe) ?_⟩
  rintro σ H Q ⟨F, ρ, QQ, E, q, k⟩
  refine ⟨F, ρ, _, E, q, fun d v F1 H1 ⟨c, e1, q1⟩ s1 r => ?_⟩
  subst e1
  cases r
  exact ⟨c, rfl, k _ _ F1 H1 q1 s1 (.bl _)⟩
/-- x or y, of any values -/
def dOrT (ta tb : DE) : DE := fun ρ Q => ta ρ fun d => ∃ k, truV d k ∧ if k = true then Q d else tb ρ Q
theorem pd_orT {ta tb : DE} (ha : PD X F0 H0 a ta) (hb : PD X F0 H0 (.BoolOp .Or (b :: rest) pos) tb) : PD X F0 H0 (.BoolOp .Or (a :: b :: rest) pos) (dOrT ta tb) := by
  refine ⟨pe_imp (L2.pe_orT ha.pe hb.pe) ?_⟩
  rintro σ H Q ⟨F, ρ, QQ, E, q, k⟩
  refine ⟨F, ρ, _, E, q, fun d v F1 H1 ⟨c, e1, q1⟩ s1 r => ?_⟩
  refine ⟨c, At.tru s1.fs r e1, ?_⟩
  cases c with
  | false => exact ⟨F1, ρ, QQ, E.step s1, q1, fun b v F' H' q' s' r => k b v F' H' q' (s1.trans s') r⟩
  | true => exact k _ _ F1 H1 q1 s1 r
end
/-- a < b < c -/
def dChain (g g' : D → D → (D → Prop) → Prop) (ta tb tc : DE) : DE := fun ρ Q => ta ρ fun x => tb ρ fun y => g x y fun z => ∃ k, z = .bl k ∧ (if k = true then tc ρ fun w => g' y w Q else Q (.bl false))
theorem lChain {r r' : R2} {g g' : D → D → (D → Prop) → Prop} {ta tb tc : DE} (br : Br2 (RD X.K) (RD X.K) (RD X.K) r g) (br' : Br2 (RD X.K) (RD X.K) (RD X.K) r' g') {σ : L2.St} {H : Hp} {Q : VK} (h : lJ X.K F0 H0 (RD X.K) (dChain g g' ta tb tc) σ H Q) :
    tChain r r' (lJ X.K F0 H0 (RD X.K) ta) (lJ X.K F0 H0 (RD X.K) tb) (lJ X.K F0 H0 (RD X.K) tc) σ H Q := by
  obtain ⟨F, ρ, QQ, E, q, k⟩ := h
  refine ⟨F, ρ, _, E, q, fun a v F1 H1 q1 s1 ra => ?_⟩
  refine ⟨F1, ρ, _, E.step s1, q1, fun b u F2 H2 q2 s2 rb => ?_⟩
  refine br F2 H2 v u a b _ _ s2.fs (ra.mono s2.ff) rb q2 fun c w F3 H3 ⟨kk, e1, q3⟩ s3 rc => ?_
  subst e1
  cases rc
  refine ⟨kk, rfl, ?_⟩
  cases kk with
  | false => exact k _ _ F3 H3 q3 ((s1.trans s2).trans s3) (.bl _)
  | true =>
    refine ⟨F3, ρ, _, E.step ((s1.trans s2).trans s3), q3, fun e x F4 H4 q4 s4 re => ?_⟩
    exact br' F4 H4 u x b e QQ Q s4.fs (rb.mono (s3.ff.trans s4.ff)) re q4 fun c w F' H' q' s' rc => k c w F' H' q' ((((s1.trans s2).trans s3).trans s4).trans s') rc
theorem pd_chain {op op' : CmpOp} {g g' : D → D → (D → Prop) → Prop} {ta tb tc : DE} (o : OpD X (compareOp op) (RD X.K) (RD X.K) (RD X.K) g) (o' : OpD X (compareOp op') (RD X.K) (RD X.K) (RD X.K) g') (ha : PD X F0 H0 a ta) (hb : PD X F0 H0 b tb) (hc : PD X F0 H0 c tc)
    (hm : lastMarks [op, op'] [b, c] = false := by with_unfolding_all rfl) : PD X F0 H0 (.Compare a [op, op'] [b, c] pos) (dChain g g' ta tb tc) := by
  obtain ⟨r, ho, br⟩ := o
  obtain ⟨r', ho', br'⟩ := o'
  exact ⟨pe_imp (pe_chain ho ho' ha.pe hb.pe hc.pe hm) fun σ H Q h => lChain br br' h⟩
theorem ptd_chain {op op' : CmpOp} {g g' : D → D → (D → Prop) → Prop} {ta tb tc : DE} (o : OpD X (compareOp op) (RD X.K) (RD X.K) (RD X.K) g) (o' : OpD X (compareOp op') (RD X.K) (RD X.K) (RD X.K) g') (ha : PD X F0 H0 a ta) (hb : PD X F0 H0 b tb) (hc : PD X F0 H0 c tc)
    (hm : lastMarks [op, op'] [b, c] = false := by with_unfolding_all rfl) : PTD X F0 H0 (.Compare a [op, op'] [b, c] pos) (dTst (dChain g g' ta tb tc)) := by
  obtain ⟨r, ho, br⟩ := o
  obtain ⟨r', ho', br'⟩ := o'
  exact ⟨pt_imp (pt_chain ho ho' ha.pe hb.pe hc.pe hm) fun σ H Q h => lChain br br' (lTst h)⟩

/-! ### arguments, displays -/
def dNil : DA := fun _ Q => Q []
def dCons (ta : DE) (tr : DA) : DA := fun ρ Q => ta ρ fun x => tr ρ fun xs => Q (x :: xs)
theorem pad_nil : PAD X F0 H0 [] dNil := by
  refine ⟨pa_imp pa_nil ?_⟩
  rintro σ H Q ⟨F, ρ, QQ, E, q, k⟩
  exact k [] [] F H q (Stp.refl E.fs) .nil
theorem pad_cons {es : List Expr} {ta : DE} {tr : DA} (ha : PD X F0 H0 a ta) (hr : PAD X F0 H0 es tr) (hs : starEach (a :: es) X.env = (false, eval a X.env) :: starEach es X.env := by rfl) : PAD X F0 H0 (a :: es) (dCons ta tr) := by
  refine ⟨pa_imp (pa_cons ha.pe hr.pa hs) ?_⟩
  rintro σ H Q ⟨F, ρ, QQ, E, q, k⟩
  refine ⟨F, ρ, _, E, q, fun d v F1 H1 q1 s1 r1 => ?_⟩
  exact ⟨F1, ρ, _, E.step s1, q1, fun ds vs F2 H2 q2 s2 r2 => k _ _ F2 H2 q2 (s1.trans s2) (.cons (r1.mono s2.ff) r2)⟩
def dTup (t : DA) : DE := fun ρ Q => t ρ fun l => l.length ≤ sizeLine ∧ Q (.tup l)
theorem pd_tup {es : List Expr} {t : DA} {x1} (h : PAD X F0 H0 es t) : PD X F0 H0 (.Tuple es x1 pos) (dTup t) := by
  refine ⟨pe_imp (pe_tup h.pa) ?_⟩
  rintro σ H Q ⟨F, ρ, QQ, E, q, k⟩
  refine ⟨F, ρ, _, E, q, fun ds vs F' H' ⟨hz, q'⟩ s r => ⟨by rw [r.length]; exact hz, fun p hp => ?_⟩⟩
  have n := Stp.new s.fs hp (.tup vs)
  exact k _ _ _ _ q' (s.trans n) (.tup (SqT.of upd_same) (r.mono n.ff))
def dLs (t : DA) : DA := fun ρ Q => t ρ fun l => l.length ≤ sizeLine ∧ Q l
theorem pn_lst {es : List Expr} {t : DA} (h : PAD X F0 H0 es t) : PN X F0 H0 (.List es pos) (dLs t) := by
  refine ⟨pe_imp (pe_lst h.pa) ?_⟩
  rintro σ H Q ⟨F, ρ, QQ, E, q, k⟩
  refine ⟨F, ρ, _, E, q, fun ds vs F' H' ⟨hz, q'⟩ s r => ⟨by rw [r.length]; exact hz, fun p hp => ?_⟩⟩
  exact k _ p vs _ _ q' (s.trans (Stp.own s.fs hp _)) (s.hh.free hp) upd_same (s.fs.free hp) r

/-! ### calls of one's own defs: a promise over data -/
/-- t: what is asked of the arguments' data, and what comes -/
def spD (K : PySem.W.Frag) (n : Nat) (t : List D → (D → Prop) → Prop) : Sp := fun vs H Q _ => ∃ F ds QQ, Same F H ∧ AtAll K F vs ds ∧ ds.length = n ∧ t ds QQ ∧ ∀ d v F' H', QQ d → Stp F H F' H' → At K F' v d → Q v H'
def dCall (t : List D → (D → Prop) → Prop) (ta : DA) : DE := fun ρ Q => ta ρ fun ds => t ds Q
theorem pd_call {k n : Nat} {f : Addr} {fd : FuncData} {ps : List Str} {CX : CXT} {E : XK} {x : Str} {p : Pos} {es : List Expr} {t : List D → (D → Prop) → Prop} {ta : DA} (G : FnOk X.prog X.w X.K X.mg X.base CX k f fd ps (spD X.K n t)) (hr : Room k X.A) (hg : Gl X x) (hm : X.mg x = some (.ref f)) (hk : PySem.W.keepIn X.K (.ref f) = true)
    (hb : Binds X.K fd ps []) (hx : Passes CX X E) (ha : PAD X F0 H0 (a :: es) ta) (hn : (a :: es).length = n := by rfl) (hdb : (x == ("__debug__" : Str)) = false := by decide) (he : starEach (a :: es) X.env = (false, eval a X.env) :: starEach es X.env := by rfl) (hpl : (backTo pos (starEach es X.env)).any (·.1) = false := by rfl) :
    PD X F0 H0 (.Call (.Name x p) (a :: es) [] pos) (dCall (fun ds Q => ds.length = n ∧ t ds Q) ta) := by
  refine ⟨pe_imp (pe_call G hr hg hm hk hb .nil hx ha.pa hdb he hpl) ?_⟩
  rintro σ H Q ⟨F, ρ, QQ, E, q, k⟩
  refine ⟨F, ρ, _, E, q, fun ds vs F1 H1 ⟨hl, q1⟩ s1 r1 => ?_⟩
  show spD X.K n t (vs ++ []) H1 Q _
  rw [List.append_nil]
  exact ⟨F1, ds, QQ, s1.fs, r1, hl, q1, fun d v F' H' q' s' r' => k d v F' H' q' (s1.trans s') r'⟩
theorem spD_len {K : PySem.W.Frag} {n : Nat} {t : List D → (D → Prop) → Prop} {vs : List V} {H : Hp} {Q : VK} {E : XK} (h : spD K n t vs H Q E) : vs.length = n := by
  obtain ⟨F, ds, QQ, _, r, hl, _⟩ := h
  rw [r.length, hl]

/-! ### calls of what is built in -/
def Br1 {α γ : Type} (Ra : RJ α) (Rc : RJ γ) (r : List V → Hp → VK → Prop) (g : α → (γ → Prop) → Prop) : Prop :=
  ∀ (F H : Hp) (x : V) (a : α) (QQ : γ → Prop) (Q : VK), Same F H → Ra F H x a → g a QQ → (∀ c v F' H', QQ c → Stp F H F' H' → Rc F' H' v c → Q v H') → r [x] H Q
def ClD {α γ : Type} (X : Cx) (f : Value) (Ra : RJ α) (Rc : RJ γ) (g : α → (γ → Prop) → Prop) : Prop := ∃ r, CallR X f r ∧ Br1 Ra Rc r g
def dC1 {α γ : Type} (g : α → (γ → Prop) → Prop) (ta : DJ α) : DJ γ := fun ρ Q => ta ρ fun x => g x Q
section
variable {α γ : Type} {Ra : RJ α} {Rc : RJ γ} {g : α → (γ → Prop) → Prop} {ta : DJ α} {x : Str} {p : Pos} {id T : String}
theorem lC1 {r : List V → Hp → VK → Prop} (br : Br1 Ra Rc r g) {σ : L2.St} {H : Hp} {Q : VK} (h : lJ X.K F0 H0 Rc (dC1 g ta) σ H Q) : tCB r (tCons (lJ X.K F0 H0 Ra ta) tNil) σ H Q := by
  obtain ⟨F, ρ, QQ, E, q, k⟩ := h
  refine ⟨F, ρ, _, E, q, fun a v F1 H1 q1 s1 ra => ?_⟩
  exact br F1 H1 v a QQ Q s1.fs ra q1 fun c w F' H' q' s' rc => k c w F' H' q' (s1.trans s') rc
theorem pj_callB (o : ClD X (.builtin id) Ra Rc g) (hg : Gl X x) (hm : X.mg x = none) (hv : bootBuiltins x = some (.builtin id)) (ha : PJ X F0 H0 Ra a ta) (hn : x ≠ "__name__" := by decide) (hdb : (x == ("__debug__" : Str)) = false := by decide)
    (he : starEach [a] X.env = (false, eval a X.env) :: starEach [] X.env := by rfl) : PJ X F0 H0 Rc (.Call (.Name x p) [a] [] pos) (dC1 g ta) := by
  obtain ⟨r, ho, br⟩ := o
  exact ⟨pe_imp (pe_callB ho hg hm hv (pa_cons ha.pe pa_nil he) hn hdb he rfl) fun σ H Q h => lC1 br h⟩
theorem pj_callTy (o : ClD X (.type T) Ra Rc g) (hg : Gl X x) (hm : X.mg x = none) (hv : bootBuiltins x = some (.type T)) (ha : PJ X F0 H0 Ra a ta) (hn : x ≠ "__name__" := by decide) (hdb : (x == ("__debug__" : Str)) = false := by decide)
    (he : starEach [a] X.env = (false, eval a X.env) :: starEach [] X.env := by rfl) : PJ X F0 H0 Rc (.Call (.Name x p) [a] [] pos) (dC1 g ta) := by
  obtain ⟨r, ho, br⟩ := o
  exact ⟨pe_imp (pe_callTy ho hg hm hv (pa_cons ha.pe pa_nil he) hn hdb he rfl) fun σ H Q h => lC1 br h⟩
end
def gAbs : D → (D → Prop) → Prop := fun x Q => ∃ i, x = .int i ∧ Q (.int (i.natAbs : Int))
theorem c_abs : ClD X (.builtin "abs") (RD X.K) (RD X.K) gAbs := by
  refine ⟨_, call_abs, ?_⟩
  rintro F H x d QQ Q fs rx ⟨i, rfl, q⟩ k
  cases rx
  refine ⟨i, rfl, ?_⟩
  have e : (if i < 0 then -i else i) = (i.natAbs : Int) := by split <;> omega
  rw [e]
  exact k _ _ F H q (Stp.refl fs) (.int _)
def lenV : D → Nat → Prop
  | .tup l, n => n = l.length
  | .lst l, n => n = l.length
  | .str s, n => s.length ≤ sizeLine ∧ n = s.length
  | .scr l, n => n = l.length
  | _, _ => False
def gLen : D → (D → Prop) → Prop := fun x Q => ∃ n : Nat, lenV x n ∧ Q (.int n)
theorem c_len : ClD X (.builtin "len") (RD X.K) (RD X.K) gLen := by
  refine ⟨_, call_len, ?_⟩
  rintro F H x d QQ Q fs rx ⟨n, e, q⟩ k
  refine ⟨x, n, rfl, ?_, k _ _ F H q (Stp.refl fs) (.int _)⟩
  cases rx with
  | str z => exact e
  | lst h1 h2 => exact .inl ⟨_, SqL.of (fs _ _ h1), by rw [h2.length]; exact e⟩
  | tup h1 h2 => exact .inr ⟨_, Same.sqT fs h1, by rw [h2.length]; exact e⟩
  | scr h1 => exact .inl ⟨_, fs.seq h1, by rw [List.length_map]; exact e⟩
  | _ => exact e.elim
def gLenL : List D → (D → Prop) → Prop := fun x Q => Q (.int x.length)
theorem c_lenL : ClD X (.builtin "len") (RL X.K) (RD X.K) gLenL := by
  refine ⟨_, call_len, ?_⟩
  rintro F H x d QQ Q fs ⟨p, xs, rfl, h1, h2⟩ q k
  exact ⟨_, _, rfl, .inl ⟨_, SqL.of h1, h2.length.symm⟩, k _ _ F H q (Stp.refl fs) (.int _)⟩
/-- tuple(xs) of a list -/
def gTupL : List D → (D → Prop) → Prop := fun x Q => Q (.tup x)
theorem c_tupL : ClD X (.type "tuple") (RL X.K) (RD X.K) gTupL := by
  refine ⟨_, call_tuple_of, ?_⟩
  rintro F H x d QQ Q fs ⟨p, xs, rfl, h1, h2⟩ q k
  refine ⟨p, xs, rfl, .inl ⟨SqL.of h1, fun l hl => ?_⟩⟩
  have n := Stp.new fs hl (.tup xs)
  exact k _ _ _ _ q n (.tup (SqT.of upd_same) (h2.mono n.ff))
def gAll : List D → (D → Prop) → Prop := fun x Q => ∃ bs : List Bool, x = bs.map D.bl ∧ Q (.bl (bs.all id))
def gAny : List D → (D → Prop) → Prop := fun x Q => ∃ bs : List Bool, x = bs.map D.bl ∧ Q (.bl (bs.any id))
theorem c_all (hc : X.calm = true) : ClD X (.builtin "all") (RL X.K) (RD X.K) gAll := by
  refine ⟨_, cr_all hc, ?_⟩
  rintro F H x d QQ Q fs ⟨p, xs, rfl, h1, h2⟩ ⟨bs, rfl, q⟩ k
  have e := h2.bls
  subst e
  exact ⟨p, bs, rfl, SqL.of h1, k _ _ F H q (Stp.refl fs) (.bl _)⟩
theorem c_any (hc : X.calm = true) : ClD X (.builtin "any") (RL X.K) (RD X.K) gAny := by
  refine ⟨_, cr_any hc, ?_⟩
  rintro F H x d QQ Q fs ⟨p, xs, rfl, h1, h2⟩ ⟨bs, rfl, q⟩ k
  have e := h2.bls
  subst e
  exact ⟨p, bs, rfl, SqL.of h1, k _ _ F H q (Stp.refl fs) (.bl _)⟩
/-- max, min of a list of ints -/
def gMaxL : List D → (D → Prop) → Prop := fun x Q => ∃ ns : List Int, x = ns.map D.int ∧ 0 < ns.length ∧ ∀ m, m ∈ ns → (∀ y, y ∈ ns → y ≤ m) → Q (.int m)
def gMinL : List D → (D → Prop) → Prop := fun x Q => ∃ ns : List Int, x = ns.map D.int ∧ 0 < ns.length ∧ ∀ m, m ∈ ns → (∀ y, y ∈ ns → m ≤ y) → Q (.int m)
theorem c_maxL (hc : X.calm = true) : ClD X (.builtin "max") (RL X.K) (RD X.K) gMaxL := by
  refine ⟨_, cr_max hc, ?_⟩
  rintro F H x d QQ Q fs ⟨p, xs, rfl, h1, h2⟩ ⟨bs, rfl, hl, q⟩ k
  have e := h2.ints
  subst e
  exact ⟨p, bs, rfl, SqL.of h1, hl, fun m a b => k _ _ F H (q m a b) (Stp.refl fs) (.int _)⟩
theorem c_minL (hc : X.calm = true) : ClD X (.builtin "min") (RL X.K) (RD X.K) gMinL := by
  refine ⟨_, cr_min hc, ?_⟩
  rintro F H x d QQ Q fs ⟨p, xs, rfl, h1, h2⟩ ⟨bs, rfl, hl, q⟩ k
  have e := h2.ints
  subst e
  exact ⟨p, bs, rfl, SqL.of h1, hl, fun m a b => k _ _ F H (q m a b) (Stp.refl fs) (.int _)⟩
/-- isinstance(x, T), T built in -/
def tyD : D → Option String
  | .non => some "NoneType" | .bl _ => some "bool" | .int _ => some "int" | .str _ => some "str" | .tup _ => some "tuple" | .lst _ => some "list" | _ => none
theorem At.ty {F H : Hp} {v : V} {d : D} {T : String} (fs : Same F H) (a : At X.K F v d) (h : tyD d = some T) : TyX X.K H v (.type T) := by
  cases a with
  | non => cases h; exact .base .non
  | bl b => cases h; exact .base (.bl b)
  | int b => cases h; exact .base (.int b)
  | str b => cases h; exact .base (.str b)
  | lst h1 h2 => cases h; exact .base (.lst (fs _ _ h1))
  | tup h1 h2 =>
    cases h
    rcases h1 with (h1 | ⟨o, h1⟩) | ⟨o, its, n, h1, h2, _⟩
    · exact .base (.tup (fs _ _ h1))
    · exact .fTuple (fs _ _ h1)
    · exact .kTuple h1 h2
  | dct h1 => cases h
  | scr h1 => cases h
def dIsi (T : String) (t : DE) : DE := fun ρ Q => t ρ fun d => ∃ U b, tyD d = some U ∧ kitB U T = some b ∧ Q (.bl b)
theorem pd_isi {T : String} {t : DE} {x : Str} {p p2 : Pos} (hg : Gl X "isinstance") (hm : X.mg "isinstance" = none) (hg2 : Gl X x) (hm2 : X.mg x = none) (hv2 : bootBuiltins x = some (.type T)) (ha : PD X F0 H0 a t) (hn : x ≠ "__name__" := by decide) (hdb : (x == ("__debug__" : Str)) = false := by decide)
    (he : starEach [a, .Name x p2] X.env = (false, eval a X.env) :: starEach [.Name x p2] X.env := by rfl) (he2 : starEach [.Name x p2] X.env = (false, eval (.Name x p2) X.env) :: starEach [] X.env := by rfl) :
    PD X F0 H0 (.Call (.Name "isinstance" p) [a, .Name x p2] [] pos) (dIsi T t) := by
  refine ⟨pe_imp (pe_callB call_isi hg hm (by decide +kernel) (pa_cons ha.pe (pa_cons (pe_bltn (v := .ty T) hg2 hm2 hv2 rfl hn hdb) pa_nil he2) he) (by decide) (by decide) he (by rw [he2]; rfl)) ?_⟩
  rintro σ H Q ⟨F, ρ, QQ, E, q, k⟩
  refine ⟨F, ρ, _, E, q, fun d v F1 H1 ⟨U, b, e1, e2, q1⟩ s1 r1 => ?_⟩
  exact ⟨v, .ty T, .type U, .type T, b, rfl, .ty T, At.ty s1.fs r1 e1, kit_ty e2, k _ _ F1 H1 q1 s1 (.bl b)⟩
end
end DL

namespace DL
open PySem L2
section
variable {X : Cx} {F0 H0 : Hp} {a b c : Expr} {pos : Pos}

/-! ### subscripts -/
def ixV : D → Int → D → Prop
  | .tup l, i, z => atI l i = some z
  | .lst l, i, z => atI l i = some z
  | .str s, i, z => s.length ≤ sizeLine ∧ ∃ c, atI s.cps.toList i = some c ∧ z = .str ⟨#[c]⟩
  | .scr ns, i, z => ∃ n, atI ns i = some n ∧ z = .int n
  | _, _, _ => False
def gIx : D → D → (D → Prop) → Prop := fun x y Q => ∃ i z, y = .int i ∧ ixV x i z ∧ Q z
def gIxL : List D → D → (D → Prop) → Prop := fun x y Q => ∃ i z, y = .int i ∧ atI x i = some z ∧ Q z
theorem AtAll.atI {K : PySem.W.Frag} {F : Hp} {vs : List V} {ds : List D} {i : Int} {z : D} (h : AtAll K F vs ds) (e : L2.atI ds i = some z) : ∃ v, L2.atI vs i = some v ∧ At K F v z := by
  unfold L2.atI at e ⊢
  rw [h.length]
  cases q : ixN ds.length i with
  | none => rw [q] at e; cases e
  | some j =>
    rw [q] at e
    exact AtAll.get (i := j) h e
def IxD {α β γ : Type} (X : Cx) (Ra : RJ α) (Rb : RJ β) (Rc : RJ γ) (g : α → β → (γ → Prop) → Prop) : Prop := ∃ r, IxR X r ∧ Br2 Ra Rb Rc r g
theorem pj_ix {α β γ : Type} {Ra : RJ α} {Rb : RJ β} {Rc : RJ γ} {g : α → β → (γ → Prop) → Prop} {ta : DJ α} {tb : DJ β} (o : IxD X Ra Rb Rc g) (ha : PJ X F0 H0 Ra a ta) (hb : PJ X F0 H0 Rb b tb) (hs : PlainIx b := by exact fun _ _ => rfl) (sa : Stable Ra := by first | exact RD.stable | exact RL.stable) :
    PJ X F0 H0 Rc (.Subscript a b pos) (dOp g ta tb) := by
  obtain ⟨r, ho, br⟩ := o
  exact ⟨pe_imp (pe_ix ho ha.pe hb.pe hs) fun σ H Q h => lOp br sa h⟩
theorem o_ix : IxD X (RD X.K) (RD X.K) (RD X.K) gIx := by
  refine ⟨_, ix_seq, ?_⟩
  rintro F H x y d e QQ Q fs rx ry ⟨i, z, rfl, h, q⟩ k
  cases ry
  cases rx with
  | str s =>
    obtain ⟨hz, c, h1, rfl⟩ := h
    exact .inr (.inr ⟨s, i, c, rfl, rfl, hz, h1, k _ _ F H q (Stp.refl fs) (.str _)⟩)
  | lst h1 h2 =>
    obtain ⟨v, h3, h4⟩ := h2.atI h
    exact .inl ⟨_, _, i, v, rfl, rfl, SqL.of (fs _ _ h1), h3, k _ _ F H q (Stp.refl fs) h4⟩
  | tup h1 h2 =>
    obtain ⟨v, h3, h4⟩ := h2.atI h
    exact .inr (.inl ⟨_, _, i, v, rfl, rfl, Same.sqT fs h1, h3, k _ _ F H q (Stp.refl fs) h4⟩)
  | @scr a ns h1 =>
    obtain ⟨n, h2, rfl⟩ := h
    refine .inl ⟨_, _, i, .int n, rfl, rfl, fs.seq h1, ?_, k _ _ F H q (Stp.refl fs) (.int _)⟩
    unfold L2.atI at h2 ⊢
    rw [List.length_map]
    cases e : ixN ns.length i with
    | none => rw [e] at h2; cases h2
    | some j =>
      rw [e] at h2
      have h2' : ns[j]? = some n := h2
      show (ns.map V.int)[j]? = some (.int n)
      rw [List.getElem?_map, h2']
      rfl
  | _ => exact h.elim
theorem o_ixL : IxD X (RL X.K) (RD X.K) (RD X.K) gIxL := by
  refine ⟨_, ix_list, ?_⟩
  rintro F H x y d e QQ Q fs ⟨p, xs, rfl, h1, h2⟩ ry ⟨i, z, rfl, h, q⟩ k
  cases ry
  obtain ⟨v, h3, h4⟩ := h2.atI h
  exact ⟨p, _, i, v, rfl, rfl, SqL.of h1, h3, k _ _ F H q (Stp.refl fs) h4⟩

/-! ### slices -/
abbrev DO := Rho → (Option Int → Prop) → Prop
structure POD (X : Cx) (F0 H0 : Hp) (e : Option Expr) (t : DO) : Prop where
  po : PO X e (fun σ H Q => ∃ F ρ QQ, EnvAt X.K F0 H0 F H σ ρ ∧ t ρ QQ ∧ ∀ o F' H', QQ o → Stp F H F' H' → Q o H')
def dNoPart : DO := fun _ Q => Q none
def dPart (t : DE) : DO := fun ρ Q => t ρ fun x => ∃ i, x = .int i ∧ Q (some i)
theorem po_imp {e : Option Expr} {t t' : TO} (h : PO X e t) (w : ∀ σ H Q, t' σ H Q → t σ H Q) : PO X e t' := ⟨fun pins s σ H Q I q => h.run pins s σ H Q I (w σ H Q q)⟩
theorem pod_none : POD X F0 H0 none dNoPart := by
  refine ⟨po_imp po_none ?_⟩
  rintro σ H Q ⟨F, ρ, QQ, E, q, k⟩
  exact k none F H q (Stp.refl E.fs)
theorem pod_some {t : DE} (h : PD X F0 H0 a t) : POD X F0 H0 (some a) (dPart t) := by
  refine ⟨po_imp (po_some h.pe) ?_⟩
  rintro σ H Q ⟨F, ρ, QQ, E, q, k⟩
  refine ⟨F, ρ, _, E, q, fun d v F' H' ⟨i, e1, q'⟩ s r => ?_⟩
  subst e1
  cases r
  exact ⟨i, rfl, k _ F' H' q' s⟩
def cutL {α : Type} (xs : List α) (lo hi : Option Int) : List α := (xs.drop (HT.sIx xs.length 0 lo)).take (HT.sIx xs.length xs.length hi - HT.sIx xs.length 0 lo)
theorem AtAll.cut {K : PySem.W.Frag} {F : Hp} {vs : List V} {ds : List D} {lo hi : Option Int} (h : AtAll K F vs ds) : AtAll K F (cutV vs lo hi) (cutL ds lo hi) := by
  unfold cutV cutL
  rw [h.length]
  exact (h.drop _).take _
def dSl {α β : Type} (g : α → Option Int → Option Int → (β → Prop) → Prop) (te : DJ α) (tl th : DO) : DJ β := fun ρ Q => te ρ fun x => tl ρ fun l => th ρ fun u => g x l u Q
def gSlT : D → Option Int → Option Int → (D → Prop) → Prop := fun x l u Q => ∃ xs, x = .tup xs ∧ Q (.tup (cutL xs l u))
theorem cut_whole {α : Type} {xs : List α} {lo hi : Option Int} (h : HT.sIx xs.length 0 lo = 0 ∧ HT.sIx xs.length xs.length hi = xs.length) : cutL xs lo hi = xs := by
  unfold cutL
  rw [h.1, h.2]
  simp
theorem pd_slT {te : DE} {tl th : DO} {lo hi : Option Expr} {p2 : Pos} (he : PD X F0 H0 a te) (hl : POD X F0 H0 lo tl) (hh : POD X F0 H0 hi th) : PD X F0 H0 (.Subscript a (.Slice lo hi none p2) pos) (dSl gSlT te tl th) := by
  refine ⟨pe_imp (pe_slice sl_tupA he.pe hl.po hh.po) ?_⟩
  rintro σ H Q ⟨F, ρ, QQ, E, q, k⟩
  refine ⟨F, ρ, _, E, q, fun d v F1 H1 q1 s1 r1 => ?_⟩
  refine ⟨F1, ρ, _, E.step s1, q1, fun l F2 H2 q2 s2 => ?_⟩
  refine ⟨F2, ρ, _, E.step (s1.trans s2), q2, fun u F3 H3 ⟨xs, e1, q3⟩ s3 => ?_⟩
  subst e1
  cases r1 with
  | @tup ad vs' _ h1 h2 =>
    have h2' := h2.mono (s2.ff.trans s3.ff)
    refine ⟨_, _, rfl, Same.sqT ((s2.ff.trans s3.ff).trans s3.fs) h1, fun hw => ?_, fun hw p hp => ?_⟩
    · rw [h2.length] at hw
      rw [cut_whole hw] at q3
      exact k _ _ F3 H3 q3 ((s1.trans s2).trans s3) (.tup (Same.sqT (s2.ff.trans s3.ff) h1) h2')
    · have n := Stp.new s3.fs hp (.tup (cutV vs' l u))
      exact k _ _ _ _ q3 (((s1.trans s2).trans s3).trans n) (.tup (SqT.of upd_same) (h2'.cut.mono n.ff))
def gSlL : List D → Option Int → Option Int → (List D → Prop) → Prop := fun x l u Q => Q (cutL x l u)
theorem pn_slL {te : DA} {tl th : DO} {lo hi : Option Expr} {p2 : Pos} (he : PL X F0 H0 a te) (hl : POD X F0 H0 lo tl) (hh : POD X F0 H0 hi th) : PN X F0 H0 (.Subscript a (.Slice lo hi none p2) pos) (dSl gSlL te tl th) := by
  refine ⟨pe_imp (pe_slice sl_list he.pe hl.po hh.po) ?_⟩
  rintro σ H Q ⟨F, ρ, QQ, E, q, k⟩
  refine ⟨F, ρ, _, E, q, fun d v F1 H1 q1 s1 ⟨p, xs, e1, h1, h2⟩ => ?_⟩
  subst e1
  refine ⟨F1, ρ, _, E.step s1, q1, fun l F2 H2 q2 s2 => ?_⟩
  refine ⟨F2, ρ, _, E.step (s1.trans s2), q2, fun u F3 H3 q3 s3 => ?_⟩
  refine ⟨_, _, rfl, SqL.of (s3.hh _ _ (s2.hh _ _ h1)), fun p hp => ?_⟩
  have s := (s1.trans s2).trans s3
  exact k _ p _ _ _ q3 (s.trans (Stp.own s.fs hp _)) (s.hh.free hp) upd_same (s.fs.free hp) ((h2.mono (s2.ff.trans s3.ff)).cut)
def gSlS : D → Option Int → Option Int → (D → Prop) → Prop := fun x l u Q => ∃ z, x = .str z ∧ z.length ≤ sizeLine ∧ Q (.str (cutS z l u))
theorem pd_slS {te : DE} {tl th : DO} {lo hi : Option Expr} {p2 : Pos} (he : PD X F0 H0 a te) (hl : POD X F0 H0 lo tl) (hh : POD X F0 H0 hi th) : PD X F0 H0 (.Subscript a (.Slice lo hi none p2) pos) (dSl gSlS te tl th) := by
  refine ⟨pe_imp (pe_slice sl_str he.pe hl.po hh.po) ?_⟩
  rintro σ H Q ⟨F, ρ, QQ, E, q, k⟩
  refine ⟨F, ρ, _, E, q, fun d v F1 H1 q1 s1 r1 => ?_⟩
  refine ⟨F1, ρ, _, E.step s1, q1, fun l F2 H2 q2 s2 => ?_⟩
  refine ⟨F2, ρ, _, E.step (s1.trans s2), q2, fun u F3 H3 ⟨xs, e1, hz, q3⟩ s3 => ?_⟩
  subst e1
  cases r1
  exact ⟨_, rfl, hz, k _ _ F3 H3 q3 ((s1.trans s2).trans s3) (.str _)⟩

/-! ### texts, tuples, lists: +, * -/
def gAddS : D → D → (D → Prop) → Prop := fun x y Q => ∃ i j, x = .str i ∧ y = .str j ∧ i.length + j.length ≤ sizeLine ∧ Q (.str (i ++ j))
theorem o_addS : OpD X (binaryOp .Add) (RD X.K) (RD X.K) (RD X.K) gAddS := by
  refine ⟨_, op_add_str, ?_⟩
  rintro F H x y d e QQ Q fs rx ry ⟨i, j, rfl, rfl, hz, q⟩ k
  cases rx; cases ry
  exact ⟨i, j, rfl, rfl, hz, k _ _ F H q (Stp.refl fs) (.str _)⟩
def gCatT : D → D → (D → Prop) → Prop := fun x y Q => ∃ i j, x = .tup i ∧ y = .tup j ∧ i.length + j.length ≤ sizeLine ∧ Q (.tup (i ++ j))
theorem o_catT : OpD X (binaryOp .Add) (RD X.K) (RD X.K) (RD X.K) gCatT := by
  refine ⟨_, op_catA, ?_⟩
  rintro F H x y d e QQ Q fs rx ry ⟨i, j, rfl, rfl, hz, q⟩ k
  cases rx with
  | @tup ad1 vs1 _ h1 h2 =>
    cases ry with
    | @tup ad2 vs2 _ h3 h4 =>
      refine ⟨_, _, _, _, rfl, rfl, Same.sqT fs h1, Same.sqT fs h3, by rw [h2.length, h4.length]; exact hz, fun e => ?_, fun e e' => ?_, fun _ _ p hp => ?_⟩
      · subst e
        cases h2
        exact k _ _ F H q (Stp.refl fs) (.tup h3 h4)
      · subst e'
        cases h4
        rw [List.append_nil] at q
        exact k _ _ F H q (Stp.refl fs) (.tup h1 h2)
      · have n := Stp.new fs hp (.tup (vs1 ++ vs2))
        exact k _ _ _ _ q n (.tup (SqT.of upd_same) ((h2.append h4).mono n.ff))
/-- operators that make a new list -/
def Br2N {α β : Type} (K : PySem.W.Frag) (Ra : RJ α) (Rb : RJ β) (r : R2) (g : α → β → (List D → Prop) → Prop) : Prop :=
  ∀ (F H : Hp) (x y : V) (a : α) (b : β) (QQ : List D → Prop) (Q : VK), Same F H → Ra F H x a → Rb F H y b → g a b QQ → (∀ ds p xs F' H', QQ ds → Stp F H F' H' → H p = none → H' p = some (.lst xs) → F' p = none → AtAll K F' xs ds → Q (.ref p) H') → r x y H Q
def OpN {α β : Type} (X : Cx) (f : Value → Value → Sem Value) (Ra : RJ α) (Rb : RJ β) (g : α → β → (List D → Prop) → Prop) : Prop := ∃ r, OpR X f r ∧ Br2N X.K Ra Rb r g
theorem pn_op {α β : Type} {Ra : RJ α} {Rb : RJ β} {g : α → β → (List D → Prop) → Prop} {ta : DJ α} {tb : DJ β} {op : Operator} (o : OpN X (binaryOp op) Ra Rb g) (ha : PJ X F0 H0 Ra a ta) (hb : PJ X F0 H0 Rb b tb) (sa : Stable Ra := by first | exact RD.stable | exact RL.stable) : PN X F0 H0 (.BinOp a op b pos) (dOp g ta tb) := by
  obtain ⟨r, ho, br⟩ := o
  refine ⟨pe_imp (pe_op ho ha.pe hb.pe) ?_⟩
  rintro σ H Q ⟨F, ρ, QQ, E, q, k⟩
  refine ⟨F, ρ, _, E, q, fun a v F1 H1 q1 s1 ra => ?_⟩
  refine ⟨F1, ρ, _, E.step s1, q1, fun b u F2 H2 q2 s2 rb => ?_⟩
  exact br F2 H2 v u a b QQ Q s2.fs (sa _ _ _ _ _ _ s2 ra) rb q2 fun c p xs F' H' q' s' h1 h2 h3 h4 => k c p xs F' H' q' ((s1.trans s2).trans s') ((s1.trans s2).hh.free h1) h2 h3 h4
def gCat : List D → List D → (List D → Prop) → Prop := fun x y Q => x.length + y.length ≤ sizeLine ∧ Q (x ++ y)
theorem o_cat : OpN X (binaryOp .Add) (RL X.K) (RL X.K) gCat := by
  refine ⟨_, op_cat, ?_⟩
  rintro F H x y d e QQ Q fs ⟨p1, xs, rfl, h1, h2⟩ ⟨p2, ys, rfl, h3, h4⟩ ⟨hz, q⟩ k
  refine ⟨p1, p2, xs, ys, rfl, rfl, h1, h3, by rw [h2.length, h4.length]; exact hz, fun p hp => ?_⟩
  exact k _ p _ _ _ q (Stp.own fs hp _) hp upd_same (fs.free hp) (h2.append h4)
def gRep : List D → D → (List D → Prop) → Prop := fun x y Q => ∃ k : Int, y = .int k ∧ 0 ≤ k ∧ k < 2 ^ 63 ∧ x.length * k.toNat ≤ sizeLine ∧ Q (List.replicate k.toNat x).flatten
theorem AtAll.rep {K : PySem.W.Frag} {F : Hp} {vs : List V} {ds : List D} (h : AtAll K F vs ds) : ∀ n, AtAll K F (List.replicate n vs).flatten (List.replicate n ds).flatten
  | 0 => .nil
  | n + 1 => by
    rw [List.replicate_succ, List.replicate_succ, List.flatten_cons, List.flatten_cons]
    exact h.append (AtAll.rep h n)
theorem o_rep : OpN X (binaryOp .Mult) (RL X.K) (RD X.K) gRep := by
  refine ⟨_, op_rep, ?_⟩
  rintro F H x y d e QQ Q fs ⟨p1, xs, rfl, h1, h2⟩ ry ⟨n, rfl, n0, n1, hz, q⟩ k
  cases ry
  refine ⟨p1, n, xs, rfl, rfl, h1, by omega, n1, by rw [h2.length]; exact hz, fun p hp => ?_⟩
  exact k _ p _ _ _ q (Stp.own fs hp _) hp upd_same (fs.free hp) (h2.rep _)

/-! ### in -/
def rInP (neg : Bool) (K : PySem.W.Frag) : R2 := fun x y H Q => ∃ d ds, Dp K H x d ∧ (Dp K H y (.list ds) ∨ Dp K H y (.tuple ds)) ∧ d.plain = true ∧ PyData.plainAll ds = true ∧ d.depth ≤ 64 ∧ Q (.bl (if neg then !(ds.any fun z => PyData.eqv z d) else ds.any fun z => PyData.eqv z d)) H
theorem op_inP (hu : X.A.units + 65 < cLine) : OpR X (compareOp .In) (rInP false X.K) := by
  intro pins s σ H x y v u Q I rx ry h
  obtain ⟨d, ds, hd, he, sd, se, hm, q⟩ := h
  obtain ⟨as, r1⟩ := Dp.reads I d x v hd rx
  rcases he with he | he
  · obtain ⟨bs, r2⟩ := Dp.reads I _ y u he ry
    exact PySem.SeqAt.in_list_data r2 r1 se sd (by omega) ⟨.bl _, H, I, rfl, q⟩
  · obtain ⟨bs, r2⟩ := Dp.reads I _ y u he ry
    exact PySem.SeqAt.in_tuple_data r2 r1 se sd (by omega) ⟨.bl _, H, I, rfl, q⟩
theorem op_notInP (hu : X.A.units + 65 < cLine) : OpR X (compareOp .NotIn) (rInP true X.K) := by
  intro pins s σ H x y v u Q I rx ry h
  obtain ⟨d, ds, hd, he, sd, se, hm, q⟩ := h
  obtain ⟨as, r1⟩ := Dp.reads I d x v hd rx
  rcases he with he | he
  · obtain ⟨bs, r2⟩ := Dp.reads I _ y u he ry
    exact PySem.SeqAt.notIn_list_data r2 r1 se sd (by omega) ⟨.bl _, H, I, rfl, q⟩
  · obtain ⟨bs, r2⟩ := Dp.reads I _ y u he ry
    exact PySem.SeqAt.notIn_tuple_data r2 r1 se sd (by omega) ⟨.bl _, H, I, rfl, q⟩
theorem pys_any (p : PyData → Bool) : ∀ l : List D, (D.pys l).any p = l.any fun z => p z.py
  | [] => rfl
  | d :: l => by rw [D.pys, List.any_cons, List.any_cons, pys_any p l]
def gIn (neg : Bool) : D → D → (D → Prop) → Prop := fun x y Q => ∃ l, (y = .lst l ∨ y = .tup l) ∧ x.ok = true ∧ PyData.plainAll (D.pys l) = true ∧ Q (.bl (if neg then !(l.any fun z => eqD z x) else l.any fun z => eqD z x))
theorem br_in {neg : Bool} {K : PySem.W.Frag} : Br2 (RD K) (RD K) (RD K) (rInP neg K) (gIn neg) := by
  rintro F H x y d e QQ Q fs rx ry ⟨l, hl, h1, h2, q⟩ k
  have ey : Dp K H y (.list (D.pys l)) ∨ Dp K H y (.tuple (D.pys l)) := by
    rcases hl with rfl | rfl
    · exact .inl (Dp.mono' fs (At.dp ry (by simpa [D.py, PyData.plain] using h2)))
    · exact .inr (Dp.mono' fs (At.dp ry (by simpa [D.py, PyData.plain] using h2)))
  refine ⟨d.py, D.pys l, Dp.mono' fs (At.dp rx (ok_pl h1)), ey, ok_pl h1, h2, ok_dp h1, ?_⟩
  rw [pys_any]
  exact k _ _ F H q (Stp.refl fs) (.bl _)
theorem o_in (hu : X.A.units + 65 < cLine) : OpD X (compareOp .In) (RD X.K) (RD X.K) (RD X.K) (gIn false) := ⟨_, op_inP hu, br_in⟩
theorem o_notIn (hu : X.A.units + 65 < cLine) : OpD X (compareOp .NotIn) (RD X.K) (RD X.K) (RD X.K) (gIn true) := ⟨_, op_notInP hu, br_in⟩
/-- one sign in a text -/
def gInS (neg : Bool) : D → D → (D → Prop) → Prop := fun x y Q => ∃ (c : Nat) (z : Str), x = .str ⟨#[c]⟩ ∧ y = .str z ∧ Q (.bl (if neg then !decide (c ∈ z.cps.toList) else decide (c ∈ z.cps.toList)))
theorem o_inS : OpD X (compareOp .In) (RD X.K) (RD X.K) (RD X.K) (gInS false) := by
  refine ⟨_, op_in_sign, ?_⟩
  rintro F H x y d e QQ Q fs rx ry ⟨c, z, rfl, rfl, q⟩ k
  cases rx; cases ry
  exact ⟨c, z, rfl, rfl, k _ _ F H q (Stp.refl fs) (.bl _)⟩
theorem o_notInS : OpD X (compareOp .NotIn) (RD X.K) (RD X.K) (RD X.K) (gInS true) := by
  refine ⟨_, op_notIn_sign, ?_⟩
  rintro F H x y d e QQ Q fs rx ry ⟨c, z, rfl, rfl, q⟩ k
  cases rx; cases ry
  exact ⟨c, z, rfl, rfl, k _ _ F H q (Stp.refl fs) (.bl _)⟩
/-- calls that make a new list -/
def Br1N {α : Type} (K : PySem.W.Frag) (Ra : RJ α) (r : List V → Hp → VK → Prop) (g : α → (List D → Prop) → Prop) : Prop :=
  ∀ (F H : Hp) (x : V) (a : α) (QQ : List D → Prop) (Q : VK), Same F H → Ra F H x a → g a QQ → (∀ ds p xs F' H', QQ ds → Stp F H F' H' → H p = none → H' p = some (.lst xs) → F' p = none → AtAll K F' xs ds → Q (.ref p) H') → r [x] H Q
def ClN {α : Type} (X : Cx) (f : Value) (Ra : RJ α) (g : α → (List D → Prop) → Prop) : Prop := ∃ r, CallR X f r ∧ Br1N X.K Ra r g
section
variable {α : Type} {Ra : RJ α} {g : α → (List D → Prop) → Prop} {ta : DJ α} {x : Str} {p : Pos} {id T : String}
theorem lC1N {r : List V → Hp → VK → Prop} (br : Br1N X.K Ra r g) {σ : L2.St} {H : Hp} {Q : VK} (h : lN X.K F0 H0 (dC1 g ta) σ H Q) : tCB r (tCons (lJ X.K F0 H0 Ra ta) tNil) σ H Q := by
  obtain ⟨F, ρ, QQ, E, q, k⟩ := h
  refine ⟨F, ρ, _, E, q, fun a v F1 H1 q1 s1 ra => ?_⟩
  exact br F1 H1 v a QQ Q s1.fs ra q1 fun c p xs F' H' q' s' h1 h2 h3 h4 => k c p xs F' H' q' (s1.trans s') (s1.hh.free h1) h2 h3 h4
theorem pn_callB (o : ClN X (.builtin id) Ra g) (hg : Gl X x) (hm : X.mg x = none) (hv : bootBuiltins x = some (.builtin id)) (ha : PJ X F0 H0 Ra a ta) (hn : x ≠ "__name__" := by decide) (hdb : (x == ("__debug__" : Str)) = false := by decide)
    (he : starEach [a] X.env = (false, eval a X.env) :: starEach [] X.env := by rfl) : PN X F0 H0 (.Call (.Name x p) [a] [] pos) (dC1 g ta) := by
  obtain ⟨r, ho, br⟩ := o
  exact ⟨pe_imp (pe_callB ho hg hm hv (pa_cons ha.pe pa_nil he) hn hdb he rfl) fun σ H Q h => lC1N br h⟩
theorem pn_callTy (o : ClN X (.type T) Ra g) (hg : Gl X x) (hm : X.mg x = none) (hv : bootBuiltins x = some (.type T)) (ha : PJ X F0 H0 Ra a ta) (hn : x ≠ "__name__" := by decide) (hdb : (x == ("__debug__" : Str)) = false := by decide)
    (he : starEach [a] X.env = (false, eval a X.env) :: starEach [] X.env := by rfl) : PN X F0 H0 (.Call (.Name x p) [a] [] pos) (dC1 g ta) := by
  obtain ⟨r, ho, br⟩ := o
  exact ⟨pe_imp (pe_callTy ho hg hm hv (pa_cons ha.pe pa_nil he) hn hdb he rfl) fun σ H Q h => lC1N br h⟩
end
def gLstT : D → (List D → Prop) → Prop := fun x Q => ∃ l, x = .tup l ∧ Q l
theorem c_lstT : ClN X (.type "list") (RD X.K) gLstT := by
  refine ⟨_, call_list_of, ?_⟩
  rintro F H x d QQ Q fs rx ⟨l, rfl, q⟩ k
  cases rx with
  | tup h1 h2 => exact ⟨_, _, rfl, .inr (Same.sqT fs h1), fun p hp => k _ p _ _ _ q (Stp.own fs hp _) hp upd_same (fs.free hp) h2⟩
end

/-! ### targets -/
abbrev DG := D → Rho → (Rho → Prop) → Prop
abbrev DGs := List D → Rho → (Rho → Prop) → Prop
def lG (K : PySem.W.Frag) (F0 H0 : Hp) (vs : List Nat) (t : DG) : TG := fun v σ H Q => ∃ F ρ d QQ, EnvAt K F0 H0 F H σ ρ ∧ At K F v d ∧ t d ρ QQ ∧ ∀ ρ' σ', QQ ρ' → EnvAt K F0 H0 F H σ' ρ' → wipe σ' vs = wipe σ vs → Q σ' H
def lGs (K : PySem.W.Frag) (F0 H0 : Hp) (vs : List Nat) (t : DGs) : TGs := fun ws σ H Q => ∃ F ρ ds QQ, EnvAt K F0 H0 F H σ ρ ∧ AtAll K F ws ds ∧ t ds ρ QQ ∧ ∀ ρ' σ', QQ ρ' → EnvAt K F0 H0 F H σ' ρ' → wipe σ' vs = wipe σ vs → Q σ' H
structure PGD (X : Cx) (F0 H0 : Hp) (vs : List Nat) (tg : Expr) (t : DG) : Prop where
  pg : PG X tg (lG X.K F0 H0 vs t)
structure PGsD (X : Cx) (F0 H0 : Hp) (vs : List Nat) (tgs : List Expr) (t : DGs) : Prop where
  pg : PGs X tgs (lGs X.K F0 H0 vs t)
theorem wipe_set {σ : L2.St} {i : Nat} {o : Option V} : ∀ {vs : List Nat}, i ∈ vs → wipe (σ.set i o) vs = wipe σ vs
  | v :: vs, h => by
    unfold wipe
    by_cases e : i ∈ vs
    · rw [wipe_set e]
    · have e2 : i = v := by
        rcases List.mem_cons.mp h with z | z
        · exact z
        · exact absurd z e
      subst e2
      have z : ∀ vs : List Nat, i ∉ vs → (wipe (σ.set i o) vs).set i none = (wipe σ vs).set i none := by
        intro vs
        induction vs with
        | nil => intro _; show (σ.set i o).set i none = σ.set i none; rw [List.set_set]
        | cons w vs ih =>
          intro hn
          have hw : w ≠ i := fun e => hn (by rw [e]; exact List.mem_cons_self)
          have ih' := ih fun z => hn (List.mem_cons_of_mem _ z)
          show ((wipe (σ.set i o) vs).set w none).set i none = ((wipe σ vs).set w none).set i none
          rw [List.set_comm _ _ hw, ih', List.set_comm _ _ (Ne.symm hw)]
      exact z vs e
def gN (i : Nat) : DG := fun d ρ Q => Q (ρ.set i (some (.d d)))
section
variable {X : Cx} {F0 H0 : Hp} {a b c : Expr} {pos : Pos} {vs : List Nat}
theorem pg_imp {e : Expr} {t t' : TG} (h : PG X e t) (w : ∀ v σ H Q, t' v σ H Q → t v σ H Q) : PG X e t' := ⟨fun pins s σ H v u Q I r q => h.run pins s σ H v u Q I r (w v σ H Q q)⟩
theorem pgs_imp {e : List Expr} {t t' : TGs} (h : PGs X e t) (w : ∀ v σ H Q, t' v σ H Q → t v σ H Q) : PGs X e t' := ⟨fun pins s σ H v u Q I r q => h.run pins s σ H v u Q I r (w v σ H Q q)⟩
theorem pgd_name {i : Nat} {x : Str} (hN : X.N.Nodup) (hi : X.N[i]? = some x) (hx : Loc X.env.scope x) (hm : i ∈ vs := by decide) (hf : X.fn x = true ∨ X.env.scope.names.lookup x = some .local := by first | exact .inl rfl | exact .inr rfl | assumption) :
    PGD X F0 H0 vs (.Name x pos) (gN i) := by
  refine ⟨pg_imp (pg_name hN hi hx hf) ?_⟩
  rintro v σ H Q ⟨F, ρ, d, QQ, E, r, q, k⟩
  exact k _ _ q (E.set r) (wipe_set hm)
def dGNil : DGs := fun ds ρ Q => ds = [] ∧ Q ρ
def dGCons (t : DG) (u : DGs) : DGs := fun ds ρ Q => ∃ d r, ds = d :: r ∧ t d ρ fun ρ' => u r ρ' Q
theorem pgsd_nil : PGsD X F0 H0 vs [] dGNil := by
  refine ⟨pgs_imp pgs_nil ?_⟩
  rintro v σ H Q ⟨F, ρ, ds, QQ, E, r, ⟨rfl, q⟩, k⟩
  cases r
  exact ⟨rfl, k _ _ q E rfl⟩
theorem pgsd_cons {e : Expr} {es : List Expr} {t : DG} {u : DGs} (h1 : PGD X F0 H0 vs e t) (h2 : PGsD X F0 H0 vs es u)
    (hs : (assignEach (e :: es) X.env).map (·.2) = assign e X.env :: (assignEach es X.env).map (·.2) := by rfl) : PGsD X F0 H0 vs (e :: es) (dGCons t u) := by
  refine ⟨pgs_imp (pgs_cons h1.pg h2.pg hs) ?_⟩
  rintro ws σ H Q ⟨F, ρ, ds, QQ, E, r, ⟨d, rr, rfl, q⟩, k⟩
  cases r with
  | cons r1 r2 =>
    refine ⟨_, _, rfl, F, ρ, d, _, E, r1, q, fun ρ' σ' q' E' w' => ?_⟩
    exact ⟨F, ρ', rr, QQ, E', r2, q', fun ρ2 σ2 q2 E2 w2 => k ρ2 σ2 q2 E2 (w2.trans w')⟩
def gTp (n : Nat) (t : DGs) : DG := fun d ρ Q => ∃ l, d = .tup l ∧ l.length = n ∧ t l ρ Q
theorem pgd_tup {es : List Expr} {k : Nat} {t : DGs} {n : Nat} (hc : X.calm = true) (h : PGsD X F0 H0 vs es t)
    (hn : (assignEach es X.env).length = n := by rfl) (hst : (assignEach es X.env).findIdx? (·.1) = none := by rfl) : PGD X F0 H0 vs (.Tuple es k pos) (gTp n t) := by
  refine ⟨pg_imp (pg_tup hc h.pg hn hst) ?_⟩
  rintro v σ H Q ⟨F, ρ, d, QQ, E, r, ⟨l, rfl, hl, q⟩, k⟩
  cases r with
  | tup h1 h2 => exact ⟨_, _, rfl, Same.sqT E.fs h1, by rw [h2.length]; exact hl, F, ρ, l, QQ, E, h2, q, k⟩
end
end DL

namespace DL
open PySem L2
section
variable {X : Cx} {F0 H0 : Hp} {a b c e : Expr} {pos : Pos} {st : Stmt} {rest sts : List Stmt} {t u : DS}

/-! ### statements -/
def dNext : DS := fun DD ρ => DD.nx ρ
def dSeq (t u : DS) : DS := fun DD ρ => t { DD with nx := u DD } ρ
def dBrk : DS := fun DD ρ => DD.bk ρ
def dCnt : DS := fun DD ρ => DD.ct ρ
def dRet (t : DE) : DS := fun DD ρ => t ρ DD.rt
def dRetL (t : DA) : DS := fun DD ρ => t ρ fun l => DD.rt (.lst l)
def dDrop (t : DE) : DS := fun DD ρ => t ρ fun _ => DD.nx ρ
def dIfS (c : DT) (t u : DS) : DS := fun DD ρ => c ρ fun b => if b = true then t DD ρ else u DD ρ
def dNever : DS := fun _ _ => False
theorem pssd_nil : PSsD X F0 H0 [] dNext := by
  refine ⟨pss_imp pss_nil ?_⟩
  rintro G σ H ⟨F, ρ, DD, E, q, l⟩
  exact l.nx ρ σ F H q (Same.refl _) E
theorem pssd_cons (h1 : PSD X F0 H0 st t) (h2 : PSsD X F0 H0 rest u) : PSsD X F0 H0 (st :: rest) (dSeq t u) := by
  refine ⟨pss_imp (pss_cons h1.ps h2.ps) ?_⟩
  rintro G σ H ⟨F, ρ, DD, E, q, l⟩
  exact ⟨F, ρ, { DD with nx := u DD }, E, q, ⟨fun ρ' σ' F' H' q' s' E' => ⟨F', ρ', DD, E', q', l.mono s'⟩, l.bk, l.ct, l.rt⟩⟩
/-- a cut: what holds between the two is the prover's to say -/
def dCut (t u : DS) : DS := fun DD ρ => ∃ M : Rho → Prop, t { DD with nx := M } ρ ∧ ∀ ρ', M ρ' → u DD ρ'
theorem pssd_cut (h1 : PSD X F0 H0 st t) (h2 : PSsD X F0 H0 rest u) : PSsD X F0 H0 (st :: rest) (dCut t u) := by
  refine ⟨pss_imp (pss_cons h1.ps h2.ps) ?_⟩
  rintro G σ H ⟨F, ρ, DD, E, ⟨M, q, k⟩, l⟩
  exact ⟨F, ρ, { DD with nx := M }, E, q, ⟨fun ρ' σ' F' H' q' s' E' => ⟨F', ρ', DD, E', k ρ' q', l.mono s'⟩, l.bk, l.ct, l.rt⟩⟩
theorem pssd_one (h1 : PSD X F0 H0 st t) : PSsD X F0 H0 [st] t := ⟨pss_one h1.ps⟩
theorem psd_pass : PSD X F0 H0 (.Pass pos) dNext := by
  refine ⟨ps_imp ps_pass ?_⟩
  rintro G σ H ⟨F, ρ, DD, E, q, l⟩
  exact l.nx ρ σ F H q (Same.refl _) E
theorem psd_break : PSD X F0 H0 (.Break pos) dBrk := by
  refine ⟨ps_imp ps_break ?_⟩
  rintro G σ H ⟨F, ρ, DD, E, q, l⟩
  exact l.bk ρ σ F H q (Same.refl _) E
theorem psd_continue : PSD X F0 H0 (.Continue pos) dCnt := by
  refine ⟨ps_imp ps_continue ?_⟩
  rintro G σ H ⟨F, ρ, DD, E, q, l⟩
  exact l.ct ρ σ F H q (Same.refl _) E
theorem psd_never : PSD X F0 H0 st dNever := ⟨ps_imp ps_never (by rintro G σ H ⟨F, ρ, DD, E, q, l⟩; exact q)⟩
theorem psd_ret {te : DE} (h : PD X F0 H0 e te) : PSD X F0 H0 (.Return (some e) pos) (dRet te) := by
  refine ⟨ps_imp (ps_ret h.pe) ?_⟩
  rintro G σ H ⟨F, ρ, DD, E, q, l⟩
  exact ⟨F, ρ, _, E, q, fun d v F' H' q' s r => l.rt d v F' H' q' s.ff (E.st.trans s) r⟩
theorem psd_expr {te : DE} (h : PD X F0 H0 e te) (hs : swapsWith e none pos.line X.env = pure false := by rfl) : PSD X F0 H0 (.Expr e pos) (dDrop te) := by
  refine ⟨ps_imp (ps_expr h.pe hs) ?_⟩
  rintro G σ H ⟨F, ρ, DD, E, q, l⟩
  exact ⟨F, ρ, _, E, q, fun d v F' H' q' s r => l.nx ρ σ F' H' q' s.ff (E.step s)⟩
theorem psd_if {tc : DT} {s1 s2 : List Stmt} (hc : PTD X F0 H0 c tc) (ha : PSsD X F0 H0 s1 t) (hb : PSsD X F0 H0 s2 u) : PSD X F0 H0 (.If c s1 s2 pos) (dIfS tc t u) := by
  refine ⟨ps_imp (ps_if hc.pt ha.ps hb.ps) ?_⟩
  rintro G σ H ⟨F, ρ, DD, E, q, l⟩
  refine ⟨F, ρ, _, E, q, fun b F' H' q' s => ?_⟩
  cases b with
  | true => exact ⟨F', ρ, DD, E.step s, q', l.mono s.ff⟩
  | false => exact ⟨F', ρ, DD, E.step s, q', l.mono s.ff⟩

/-! ### stores -/
def dSet (i : Nat) (t : DE) : DS := fun DD ρ => t ρ fun d => DD.nx (ρ.set i (some (.d d)))
def dSetO (i : Nat) (t : DA) : DS := fun DD ρ => t ρ fun l => DD.nx (ρ.set i (some (.own l)))
theorem psd_set {i : Nat} {x : Str} {te : DE} {pos' : Pos} (hN : X.N.Nodup) (hi : X.N[i]? = some x) (hx : Loc X.env.scope x) (h : PD X F0 H0 e te) (hs : swapsWith e (some (.Name x pos')) pos.line X.env = pure false := by rfl) (hf : X.fn x = true ∨ X.env.scope.names.lookup x = some .local := by first | exact .inl rfl | exact .inr rfl | assumption) :
    PSD X F0 H0 (.Assign [.Name x pos'] e pos) (dSet i te) := by
  refine ⟨ps_imp (ps_set hN hi hx h.pe hs hf) ?_⟩
  rintro G σ H ⟨F, ρ, DD, E, q, l⟩
  exact ⟨F, ρ, _, E, q, fun d v F' H' q' s r => l.nx _ _ F' H' q' s.ff ((E.step s).set r)⟩
theorem EnvAt.newOwn {K : PySem.W.Frag} {F H F' H' : Hp} {σ : L2.St} {ρ : Rho} {i : Nat} {p : Addr} {xs : List V} {ds : List D} (E : EnvAt K F0 H0 F H σ ρ) (s : Stp F H F' H') (hp : H p = none) (h1 : H' p = some (.lst xs)) (h2 : F' p = none) (r : AtAll K F' xs ds) :
    EnvAt K F0 H0 F' H' (σ.set i (some (.ref p))) (ρ.set i (some (.own ds))) := by
  refine (E.step s).setOwn h1 h2 (E.st.hh.free hp) r fun j es hj z => ?_
  obtain ⟨q, ys, e1, e2, _⟩ := E.ow j es hj
  rw [z] at e1
  cases e1
  rw [hp] at e2
  cases e2
theorem psd_setN {i : Nat} {x : Str} {te : DA} {pos' : Pos} (hN : X.N.Nodup) (hi : X.N[i]? = some x) (hx : Loc X.env.scope x) (h : PN X F0 H0 e te) (hs : swapsWith e (some (.Name x pos')) pos.line X.env = pure false := by rfl) (hf : X.fn x = true ∨ X.env.scope.names.lookup x = some .local := by first | exact .inl rfl | exact .inr rfl | assumption) :
    PSD X F0 H0 (.Assign [.Name x pos'] e pos) (dSetO i te) := by
  refine ⟨ps_imp (ps_set hN hi hx h.pe hs hf) ?_⟩
  rintro G σ H ⟨F, ρ, DD, E, q, l⟩
  exact ⟨F, ρ, _, E, q, fun ds p xs F' H' q' s hp h1 h2 r => l.nx _ _ F' H' q' s.ff (E.newOwn s hp h1 h2 r)⟩
def dPar (i j : Nat) (t : DA) : DS := fun DD ρ => t ρ fun ds => ∃ d e, ds = [d, e] ∧ DD.nx ((ρ.set i (some (.d d))).set j (some (.d e)))
theorem psd_par {i j : Nat} {x y : Str} {ta : DA} {px py pt : Pos} {kt k2 pt2} (hc : X.calm = true) (hN : X.N.Nodup) (hi : X.N[i]? = some x) (hj : X.N[j]? = some y) (hij : i ≠ j)
    (hx : X.env.scope.names.lookup x = some .local) (hy : X.env.scope.names.lookup y = some .local) (ha : PAD X F0 H0 [a, b] ta)
    (hw : swappedStores [.Tuple [.Name x px, .Name y py] kt pt] (.Tuple [a, b] k2 pt2) X.env = pure (some [x, y]) := by rfl)
    (hs : swapsWithSole [.Tuple [.Name x px, .Name y py] kt pt] (.Tuple [a, b] k2 pt2) pos.line X.env = pure false := by rfl) :
    PSD X F0 H0 (.Assign [.Tuple [.Name x px, .Name y py] kt pt] (.Tuple [a, b] k2 pt2) pos) (dPar i j ta) := by
  refine ⟨ps_imp (ps_par hc hN hi hj hij hx hy ha.pa hw hs) ?_⟩
  rintro G σ H ⟨F, ρ, DD, E, q, l⟩
  refine ⟨F, ρ, _, E, q, fun ds vs F' H' ⟨d, e, e1, q'⟩ s r => ?_⟩
  subst e1
  cases r with
  | cons r1 r2 =>
    cases r2 with
    | cons r2 r3 =>
      cases r3
      exact ⟨_, _, rfl, l.nx _ _ F' H' q' s.ff (((E.step s).set r1).set r2)⟩
def dAsg (te : DE) (g : DG) : DS := fun DD ρ => te ρ fun d => g d ρ DD.nx
theorem psd_asg {vs : List Nat} {tg : Expr} {te : DE} {g : DG} (h : PD X F0 H0 e te) (hg : PGD X F0 H0 vs tg g) (hs : swapsWithSole [tg] e pos.line X.env = pure false := by rfl) (hw : swappedStores [tg] e X.env = pure none := by rfl)
    (h1 : (assignEach [tg] X.env).map (·.2) = [assign tg X.env] := by rfl) : PSD X F0 H0 (.Assign [tg] e pos) (dAsg te g) := by
  refine ⟨ps_imp (ps_asg h.pe hg.pg hs hw h1) ?_⟩
  rintro G σ H ⟨F, ρ, DD, E, q, l⟩
  exact ⟨F, ρ, _, E, q, fun d v F' H' q' s r => ⟨F', ρ, d, _, E.step s, r, q', fun ρ' σ' q2 E2 _ => l.nx _ _ F' H' q2 s.ff E2⟩⟩
/-- slots from which names are to be stored -/
def allV : List Nat := List.range 60

/-! ### a list of one's own: append, extend, pop, xs[i] = v; and frozen -/
def dApp (i : Nat) (t : DE) : DS := fun DD ρ => ∃ l, ρ[i]? = some (some (.own l)) ∧ l.length < sizeLine ∧ t ρ fun d => DD.nx (ρ.set i (some (.own (l ++ [d]))))
theorem psd_app {i : Nat} {te : DE} {o : Expr} {apos cpos : Pos} (ho : PE X o (tVar i)) (h : PD X F0 H0 e te) (hs : swapsWith (.Call (.Attribute o "append" apos) [e] [] cpos) none pos.line X.env = pure false := by rfl)
    (hbase : attributeBase o "append" X.env (eval o X.env) = eval o X.env := by rfl)
    (hfew : ((backTo cpos (starEach [e] X.env)).all (fun x => !x.1) && (backToKw cpos (keywordEach [] X.env)).all (fun x => x.1.isSome) && decide ([e].length + ([] : List Keyword).length + (if ([] : List Keyword).isEmpty then 0 else 1) < 30)) = true := by rfl)
    (hline : (apos.endLine == cpos.line) = true := by rfl) (he : starEach [e] X.env = (false, eval e X.env) :: starEach [] X.env := by rfl) : PSD X F0 H0 (.Expr (.Call (.Attribute o "append" apos) [e] [] cpos) pos) (dApp i te) := by
  refine ⟨ps_imp (ps_expr (pe_bm PySem.F.plainAttrs_list PySem.F.slot_list_append PySem.F.type_list_append mt_append ho (pa_cons h.pe pa_nil he) hbase hfew hline he rfl) hs) ?_⟩
  rintro G σ H ⟨F, ρ, DD, E, ⟨l, hl, hz, q⟩, L⟩
  obtain ⟨p, xs, e1, e2, e3, e4, e5⟩ := E.ow i l hl
  refine ⟨_, e1, .inl ⟨rfl, _, SqL.of e2⟩, F, ρ, _, E, q, fun d v F' H' q' s r => ?_⟩
  have E' := E.step s
  have r' := e5.mono s.ff
  refine ⟨p, xs, v, rfl, rfl, s.hh _ _ e2, by rw [e5.length]; exact hz, ?_⟩
  exact L.nx _ _ _ _ q' s.ff (E'.chg hl e1 (r'.append (.cons r .nil)))
def dExt (i : Nat) (t : DA) : DS := fun DD ρ => ∃ l, ρ[i]? = some (some (.own l)) ∧ t ρ fun m => l.length + m.length ≤ sizeLine ∧ DD.nx (ρ.set i (some (.own (l ++ m))))
theorem psd_ext {i : Nat} {te : DA} {o : Expr} {apos cpos : Pos} (ho : PE X o (tVar i)) (h : PL X F0 H0 e te) (hs : swapsWith (.Call (.Attribute o "extend" apos) [e] [] cpos) none pos.line X.env = pure false := by rfl)
    (hbase : attributeBase o "extend" X.env (eval o X.env) = eval o X.env := by rfl)
    (hfew : ((backTo cpos (starEach [e] X.env)).all (fun x => !x.1) && (backToKw cpos (keywordEach [] X.env)).all (fun x => x.1.isSome) && decide ([e].length + ([] : List Keyword).length + (if ([] : List Keyword).isEmpty then 0 else 1) < 30)) = true := by rfl)
    (hline : (apos.endLine == cpos.line) = true := by rfl) (he : starEach [e] X.env = (false, eval e X.env) :: starEach [] X.env := by rfl) : PSD X F0 H0 (.Expr (.Call (.Attribute o "extend" apos) [e] [] cpos) pos) (dExt i te) := by
  refine ⟨ps_imp (ps_expr (pe_bm PySem.F.plainAttrs_list PySem.F.slot_list_extend PySem.F.type_list_extend mt_extend ho (pa_cons h.pe pa_nil he) hbase hfew hline he rfl) hs) ?_⟩
  rintro G σ H ⟨F, ρ, DD, E, ⟨l, hl, q⟩, L⟩
  obtain ⟨p, xs, e1, e2, e3, e4, e5⟩ := E.ow i l hl
  refine ⟨_, e1, .inl ⟨rfl, _, SqL.of e2⟩, F, ρ, _, E, q, fun m v F' H' ⟨hz, q'⟩ s ⟨p2, ys, ev, h1, h2⟩ => ?_⟩
  subst ev
  have E' := E.step s
  have r' := e5.mono s.ff
  refine ⟨p, p2, xs, ys, rfl, rfl, s.hh _ _ e2, h1, by rw [e5.length, h2.length]; exact hz, ?_⟩
  exact L.nx _ _ _ _ q' s.ff (E'.chg hl e1 (r'.append h2))
/-- x = xs.pop() -/
def dPop (i j : Nat) : DS := fun DD ρ => ∃ l d, i ≠ j ∧ ρ[i]? = some (some (.own l)) ∧ l[l.length - 1]? = some d ∧ DD.nx ((ρ.set i (some (.own l.dropLast))).set j (some (.d d)))
theorem AtAll.dropLast {K : PySem.W.Frag} {F : Hp} {vs : List V} {ds : List D} (h : AtAll K F vs ds) : AtAll K F vs.dropLast ds.dropLast := by
  rw [List.dropLast_eq_take, List.dropLast_eq_take, h.length]
  exact h.take _
theorem psd_pop {i j : Nat} {x : Str} {o : Expr} {apos cpos pos' : Pos} (ho : PE X o (tVar i)) (hN : X.N.Nodup) (hi : X.N[j]? = some x) (hx : Loc X.env.scope x)
    (hbase : attributeBase o "pop" X.env (eval o X.env) = eval o X.env := by rfl) (hline : (apos.endLine == cpos.line) = true := by rfl) (hs : swapsWith (.Call (.Attribute o "pop" apos) [] [] cpos) (some (.Name x pos')) pos.line X.env = pure false := by rfl)
    (hf : X.fn x = true ∨ X.env.scope.names.lookup x = some .local := by first | exact .inl rfl | exact .inr rfl | assumption) : PSD X F0 H0 (.Assign [.Name x pos'] (.Call (.Attribute o "pop" apos) [] [] cpos) pos) (dPop i j) := by
  refine ⟨ps_imp (ps_set hN hi hx (pe_bm0 PySem.F.plainAttrs_list PySem.F.slot_list_pop PySem.F.type_list_pop mt_pop ho hbase hline) hs hf) ?_⟩
  rintro G σ H ⟨F, ρ, DD, E, ⟨l, d, hij, hl, hd, q⟩, L⟩
  obtain ⟨p, xs, e1, e2, e3, e4, e5⟩ := E.ow i l hl
  obtain ⟨v, h1, h2⟩ := e5.get hd
  refine ⟨_, e1, .inl ⟨rfl, _, SqL.of e2⟩, p, xs, v, rfl, rfl, e2, by rw [e5.length]; exact h1, ?_⟩
  exact L.nx _ _ _ _ q (Same.refl _) ((E.chg hl e1 e5.dropLast).set h2)
/-- a ghost step: from here on slot i is nobody's to change -/
def dFrz (i : Nat) (t : DS) : DS := fun DD ρ => ∃ l, ρ[i]? = some (some (.own l)) ∧ t DD (ρ.set i (some (.d (.lst l))))
theorem pssd_frz {i : Nat} (h : PSsD X F0 H0 sts t) : PSsD X F0 H0 sts (dFrz i t) := by
  refine ⟨pss_imp h.ps ?_⟩
  rintro G σ H ⟨F, ρ, DD, E, ⟨l, hl, q⟩, L⟩
  obtain ⟨F', ff, E'⟩ := E.freeze hl
  exact ⟨F', _, DD, E', q, L.mono ff⟩
theorem psd_frz {i : Nat} (h : PSD X F0 H0 st t) : PSD X F0 H0 st (dFrz i t) := by
  refine ⟨ps_imp h.ps ?_⟩
  rintro G σ H ⟨F, ρ, DD, E, ⟨l, hl, q⟩, L⟩
  obtain ⟨F', ff, E'⟩ := E.freeze hl
  exact ⟨F', _, DD, E', q, L.mono ff⟩
/-- return of a list of one's own -/
theorem psd_retL {te : DA} (h : PN X F0 H0 e te) : PSD X F0 H0 (.Return (some e) pos) (dRet (dFz te)) := psd_ret h.pd
/-- an own slot takes part in a store: xs[k] = e -/
def dSetAt (i : Nat) (te tk : DE) : DS := fun DD ρ => te ρ fun d => ∃ l : List D, ρ[i]? = some (some (.own l)) ∧ tk ρ fun y => ∃ (k : Int) (j : Nat), y = .int k ∧ ixN l.length k = some j ∧ DD.nx (ρ.set i (some (.own (l.set j d))))
theorem psd_setAt {i : Nat} {te tk : DE} {o : Expr} {tpos : Pos} (ho : PE X o (tVar i)) (h : PD X F0 H0 e te) (hk : PD X F0 H0 a tk) (hs : swapsWithSole [.Subscript o a tpos] e pos.line X.env = pure false := by rfl) (hw : swappedStores [.Subscript o a tpos] e X.env = pure none := by rfl)
    (h1 : (assignEach [.Subscript o a tpos] X.env).map (·.2) = [assign (.Subscript o a tpos) X.env] := by rfl)
    (ha : ∀ v, assign (.Subscript o a tpos) X.env v = (do
      let ov ← holding [v] (eval o X.env)
      let iv ← holding [v, ov] (eval a X.env)
      standAt tpos
      holding [v, ov, iv] (setItem ov iv v)
      release [v, ov, iv] []) := by intro _; rfl) : PSD X F0 H0 (.Assign [.Subscript o a tpos] e pos) (dSetAt i te tk) := by
  refine ⟨ps_imp (ps_asg h.pe (pg_sub ho hk.pe set_list ha) hs hw h1) ?_⟩
  rintro G σ H ⟨F, ρ, DD, E, q, L⟩
  refine ⟨F, ρ, _, E, q, fun d v F1 H1 ⟨l, hl, q1⟩ s1 r1 => ?_⟩
  have E1 := E.step s1
  obtain ⟨p, xs, e1, e2, e3, e4, e5⟩ := E1.ow i l hl
  refine ⟨_, e1, F1, ρ, _, E1, q1, fun y w F2 H2 ⟨k, j, ey, hj, q2⟩ s2 r2 => ?_⟩
  subst ey
  cases r2
  have E2 := E1.step s2
  refine ⟨p, xs, k, j, rfl, rfl, s2.hh _ _ e2, by rw [e5.length]; exact hj, ?_⟩
  exact L.nx _ _ _ _ q2 (s1.ff.trans s2.ff) (E2.chg hl e1 ((e5.mono s2.ff).set (r1.mono s2.ff) j))
end
end DL

namespace DL
open PySem PySem.Spec PyProof.Rows L2

/-! ### what is walked -/
structure Walk (K : PySem.W.Frag) (ok : Hp → Hp → Prop) (J : It) (items : List D) : Prop where
  go : ∀ i F H, ok F H → i < items.length → J.go i H
  stop : ∀ F H, ok F H → J.stop items.length H
  yld : ∀ i d F H x H', ok F H → items[i]? = some d → J.yld i H x H' → ∃ F', Stp F H F' H' ∧ At K F' x d
def okS (F1 : Hp) : Hp → Hp → Prop := fun F H => Same F1 F ∧ Same F H
theorem Walk.weak {K : PySem.W.Frag} {ok ok' : Hp → Hp → Prop} {J : It} {items : List D} (w : Walk K ok J items) (h : ∀ F H, ok' F H → ok F H) : Walk K ok' J items :=
  ⟨fun i F H a => w.go i F H (h _ _ a), fun F H a => w.stop F H (h _ _ a), fun i d F H x H' a => w.yld i d F H x H' (h _ _ a)⟩
/-- S: the walked thing stays whatever is stored; else: as long as nothing is stored -/
def lI (K : PySem.W.Frag) (F0 H0 : Hp) (S : Bool) (t : DA) : TI := fun σ H R => ∃ F ρ QQ, EnvAt K F0 H0 F H σ ρ ∧ t ρ QQ ∧
  ∀ items J F' H', QQ items → Stp F H F' H' → Walk K (if S then okS F' else fun F2 H2 => Stp F' H' F2 H2) J items → R J H'
structure PID (X : Cx) (F0 H0 : Hp) (S : Bool) (tg iter : Expr) (t : DA) : Prop where
  pi : PI X tg iter (lI X.K F0 H0 S t)
section
variable {X : Cx} {F0 H0 : Hp} {a b c e tg iter : Expr} {pos : Pos} {st : Stmt} {sts : List Stmt}
theorem pi_imp {t t' : TI} (h : PI X tg iter t) (w : ∀ σ H Q, t' σ H Q → t σ H Q) : PI X tg iter t' := ⟨fun pins s σ H R I q => h.run pins s σ H R I (w σ H R q)⟩
theorem PID.weak {t : DA} (h : PID X F0 H0 true tg iter t) : PID X F0 H0 false tg iter t := by
  refine ⟨pi_imp h.pi ?_⟩
  rintro σ H R ⟨F, ρ, QQ, E, q, k⟩
  exact ⟨F, ρ, QQ, E, q, fun items J F' H' q' s w => k items J F' H' q' s (w.weak fun F2 H2 z => ⟨z.ff, z.fs⟩)⟩
def dSeqL (t : DE) : DA := fun ρ Q => t ρ fun d => ∃ l, d = .lst l ∧ Q l
def dSeqT (t : DE) : DA := fun ρ Q => t ρ fun d => ∃ l, d = .tup l ∧ Q l
theorem walk_lst {K : PySem.W.Frag} {F1 : Hp} {p : Addr} {xs : List V} {ds : List D} (h : F1 p = some (.lst xs)) (r : AtAll K F1 xs ds) : Walk K (okS F1) (Itl K p) ds where
  go := fun i F H ⟨a, b⟩ hi => ⟨xs, xs[i]'(by rw [r.length]; exact hi), SqL.of (b _ _ (a _ _ h)), List.getElem?_eq_getElem _⟩
  stop := fun F H ⟨a, b⟩ => ⟨xs, SqL.of (b _ _ (a _ _ h)), by rw [r.length]; exact Nat.le_refl _⟩
  yld := fun i d F H x H' ⟨a, b⟩ hd ⟨e1, e2⟩ => by
    subst e1
    obtain ⟨v, h1, h2⟩ := r.get hd
    have e3 := e2 xs (SqL.of (b _ _ (a _ _ h)))
    rw [h1] at e3
    cases e3
    exact ⟨F, Stp.refl b, h2.mono a⟩
theorem walk_own {K : PySem.W.Frag} {F1 H1 : Hp} {p : Addr} {xs : List V} {ds : List D} (h : H1 p = some (.lst xs)) (r : AtAll K F1 xs ds) : Walk K (fun F H => Stp F1 H1 F H) (Itl K p) ds where
  go := fun i F H a hi => ⟨xs, xs[i]'(by rw [r.length]; exact hi), SqL.of (a.hh _ _ h), List.getElem?_eq_getElem _⟩
  stop := fun F H a => ⟨xs, SqL.of (a.hh _ _ h), by rw [r.length]; exact Nat.le_refl _⟩
  yld := fun i d F H x H' a hd ⟨e1, e2⟩ => by
    subst e1
    obtain ⟨v, h1, h2⟩ := r.get hd
    have e3 := e2 xs (SqL.of (a.hh _ _ h))
    rw [h1] at e3
    cases e3
    exact ⟨F, Stp.refl a.fs, h2.mono a.ff⟩
theorem walk_tup {K : PySem.W.Frag} {F1 : Hp} {p : Addr} {xs : List V} {ds : List D} (h : SqT K F1 p xs) (r : AtAll K F1 xs ds) : Walk K (okS F1) (Itt K p) ds where
  go := fun i F H ⟨a, b⟩ hi => ⟨xs, xs[i]'(by rw [r.length]; exact hi), Same.sqT b (Same.sqT a h), List.getElem?_eq_getElem _⟩
  stop := fun F H ⟨a, b⟩ => ⟨xs, Same.sqT b (Same.sqT a h), by rw [r.length]; exact Nat.le_refl _⟩
  yld := fun i d F H x H' ⟨a, b⟩ hd ⟨e1, e2⟩ => by
    subst e1
    obtain ⟨v, h1, h2⟩ := r.get hd
    have e3 := e2 xs (Same.sqT b (Same.sqT a h))
    rw [h1] at e3
    cases e3
    exact ⟨F, Stp.refl b, h2.mono a⟩
/-- a list that nobody changes -/
theorem pid_lst {t : DE} (h : PD X F0 H0 iter t) : PID X F0 H0 true tg iter (dSeqL t) := by
  refine ⟨pi_imp (pi_list h.pe) ?_⟩
  rintro σ H R ⟨F, ρ, QQ, E, q, k⟩
  refine ⟨F, ρ, _, E, q, fun d v F' H' ⟨l, e1, q'⟩ s r => ?_⟩
  subst e1
  cases r with
  | lst h1 h2 => exact ⟨_, rfl, ⟨_, SqL.of (s.fs _ _ h1)⟩, k l _ F' H' q' s (walk_lst h1 h2)⟩
/-- a list of one's own: while nothing is stored -/
theorem pid_own {t : DA} (h : PL X F0 H0 iter t) : PID X F0 H0 false tg iter t := by
  refine ⟨pi_imp (pi_list h.pe) ?_⟩
  rintro σ H R ⟨F, ρ, QQ, E, q, k⟩
  refine ⟨F, ρ, _, E, q, fun d v F' H' q' s ⟨p, xs, e1, h1, h2⟩ => ?_⟩
  subst e1
  exact ⟨p, rfl, ⟨_, SqL.of h1⟩, k d _ F' H' q' s (walk_own h1 h2)⟩
theorem pid_tup {t : DE} (h : PD X F0 H0 iter t) : PID X F0 H0 true tg iter (dSeqT t) := by
  refine ⟨pi_imp (pi_tup h.pe) ?_⟩
  rintro σ H R ⟨F, ρ, QQ, E, q, k⟩
  refine ⟨F, ρ, _, E, q, fun d v F' H' ⟨l, e1, q'⟩ s r => ?_⟩
  subst e1
  cases r with
  | tup h1 h2 => exact ⟨_, rfl, ⟨_, Same.sqT s.fs h1⟩, k l _ F' H' q' s (walk_tup h1 h2)⟩
theorem walk_rng {K : PySem.W.Frag} {F1 : Hp} {lo : Int} {n : Nat} : Walk K (okS F1) (Itr lo n) ((List.range n).map fun (i : Nat) => D.int (lo + i)) where
  go := fun i F H _ hi => by
    show i < n
    simpa using hi
  stop := fun F H _ => by
    show n ≤ _
    simp
  yld := fun i d F H x H' ⟨_, b⟩ hd ⟨e1, e2⟩ => by
    subst e1 e2
    rw [List.getElem?_map] at hd
    by_cases hi : i < n
    · rw [List.getElem?_range hi] at hd
      cases hd
      exact ⟨F, Stp.refl b, .int _⟩
    · rw [List.getElem?_eq_none (by simpa using hi)] at hd
      cases hd
def rng (lo hi : Int) : List D := (List.range (hi - lo).toNat).map fun (i : Nat) => D.int (lo + i)
def dRng1 (t : DE) : DA := fun ρ Q => t ρ fun x => ∃ j : Int, x = .int j ∧ -(2 ^ 62) ≤ j ∧ j < 2 ^ 62 ∧ Q (rng 0 j)
def dRng2 (t u : DE) : DA := fun ρ Q => t ρ fun x => u ρ fun y => ∃ i j : Int, x = .int i ∧ y = .int j ∧ (-(2 ^ 62) ≤ i ∧ i < 2 ^ 62 ∧ -(2 ^ 62) ≤ j ∧ j < 2 ^ 62) ∧ Q (rng i j)
theorem pid_rng1 {t : DE} {p : Pos} (hg : Gl X "range") (hm : X.mg "range" = none) (h : PD X F0 H0 a t) (hs : starEach [a] X.env = [(false, eval a X.env)] := by rfl) : PID X F0 H0 true tg (.Call (.Name "range" p) [a] [] pos) (dRng1 t) := by
  refine ⟨pi_imp (pi_range1 hg hm (pa_cons h.pe pa_nil hs) hs) ?_⟩
  rintro σ H R ⟨F, ρ, QQ, E, q, k⟩
  refine ⟨F, ρ, _, E, q, fun d v F' H' ⟨j, e1, h1, h2, q'⟩ s r => ?_⟩
  subst e1
  cases r
  refine ⟨j, rfl, h1, h2, k _ _ F' H' q' s ?_⟩
  have w := walk_rng (K := X.K) (F1 := F') (lo := 0) (n := (j - 0).toNat)
  rw [Int.sub_zero] at w
  unfold rng
  rw [Int.sub_zero]
  exact w
theorem pid_rng2 {t u : DE} {p : Pos} (hg : Gl X "range") (hm : X.mg "range" = none) (h : PD X F0 H0 a t) (h2 : PD X F0 H0 b u) (hs : starEach [a, b] X.env = [(false, eval a X.env), (false, eval b X.env)] := by rfl) (hs2 : starEach [b] X.env = [(false, eval b X.env)] := by rfl) :
    PID X F0 H0 true tg (.Call (.Name "range" p) [a, b] [] pos) (dRng2 t u) := by
  refine ⟨pi_imp (pi_range2 hg hm (pa_cons h.pe (pa_cons h2.pe pa_nil hs2) (by rw [hs, hs2])) hs hs2) ?_⟩
  rintro σ H R ⟨F, ρ, QQ, E, q, k⟩
  refine ⟨F, ρ, _, E, q, fun d v F1 H1 q1 s1 r1 => ?_⟩
  refine ⟨F1, ρ, _, E.step s1, q1, fun d2 v2 F' H' ⟨i, j, e1, e2, hh, q'⟩ s2 r2 => ?_⟩
  subst e1 e2
  cases r1; cases r2
  exact ⟨i, j, rfl, hh, k _ _ F' H' q' (s1.trans s2) walk_rng⟩

/-! ### for -/
def dFor (ti : DA) (g : DG) (tb : DS) : DS := fun DD ρ => ti ρ fun items => ∃ I : Nat → Rho → Prop, I 0 ρ ∧
  (∀ i x ρ, items[i]? = some x → I i ρ → g x ρ fun ρ1 => tb ⟨I (i + 1), DD.rt, DD.nx, I (i + 1)⟩ ρ1) ∧ ∀ ρ, I items.length ρ → DD.nx ρ
theorem psd_for {ti : DA} {g : DG} {tb : DS} {vs : List Nat} (hp : PassesOwn (model X.prog X.w) X.A X.env X.xe) (hc : X.calm = true) (hi : PID X F0 H0 true tg iter ti) (hg : PGD X F0 H0 vs tg g) (hb : PSsD X F0 H0 sts tb)
    (hs : ∀ x, foldedSetIterable iter X.env x = pure x := by intro _; rfl) : PSD X F0 H0 (.For tg iter sts [] pos) (dFor ti g tb) := by
  refine ⟨ps_imp (ps_for hp hc hi.pi hg.pg hb.ps hs) ?_⟩
  rintro G σ H ⟨F, ρ, DD, E, q, L⟩
  refine ⟨F, ρ, _, E, q, fun items J F1 H1 ⟨I, i0, is, ie⟩ s1 w => ?_⟩
  refine ⟨fun i m σ H => m = items.length - i ∧ i ≤ items.length ∧ ∃ F ρ, EnvAt X.K F0 H0 F H σ ρ ∧ Same F1 F ∧ I i ρ, ⟨_, rfl, Nat.zero_le _, F1, ρ, E.step s1, Same.refl _, i0⟩, ?_⟩
  rintro i m σ2 H2 ⟨rfl, hi, F2, ρ2, E2, ff, p⟩
  have L2' := L.mono (s1.ff.trans ff)
  by_cases hlt : i < items.length
  · refine .inr ⟨w.go i F2 H2 ⟨ff, E2.fs⟩ hlt, fun σ' H' => ∃ F ρ, EnvAt X.K F0 H0 F H' σ' ρ ∧ Same F1 F ∧ I (i + 1) ρ, fun σ' H' p' => ⟨items.length - (i + 1), by omega, rfl, hlt, p'⟩, fun x H' y => ?_⟩
    have hd : items[i]? = some items[i] := List.getElem?_eq_getElem hlt
    obtain ⟨F3, s3, r3⟩ := w.yld i _ F2 H2 x H' ⟨ff, E2.fs⟩ hd y
    refine ⟨F3, ρ2, _, _, E2.step s3, r3, is i _ ρ2 hd p, fun ρ' σ' q' E' _ => ?_⟩
    refine ⟨F3, ρ', _, E', q', ⟨fun ρ4 σ4 F4 H4 q4 f4 E4 => ⟨F4, ρ4, E4, (ff.trans s3.ff).trans f4, q4⟩, fun ρ4 σ4 F4 H4 q4 f4 E4 => L2'.nx ρ4 σ4 F4 H4 q4 (s3.ff.trans f4) E4, fun ρ4 σ4 F4 H4 q4 f4 E4 => ⟨F4, ρ4, E4, (ff.trans s3.ff).trans f4, q4⟩, fun d v F4 H4 q4 f4 => L2'.rt d v F4 H4 q4 (s3.ff.trans f4)⟩⟩
  · have e : i = items.length := by omega
    subst e
    exact .inl ⟨w.stop F2 H2 ⟨ff, E2.fs⟩, L2'.nx ρ2 σ2 F2 H2 (ie ρ2 p) (Same.refl _) E2⟩

/-! ### while -/
def dWhile (tc : DT) (tb : DS) : DS := fun DD ρ => ∃ W : Nat → Rho → Prop, (∃ m, W m ρ) ∧ ∀ m ρ, W m ρ → tc ρ fun b => if b = true then tb ⟨fun ρ' => ∃ m', m' < m ∧ W m' ρ', DD.rt, DD.nx, fun ρ' => ∃ m', m' < m ∧ W m' ρ'⟩ ρ else DD.nx ρ
theorem psd_while {tc : DT} {tb : DS} (hp : PassesOwn (model X.prog X.w) X.A X.env X.xe) (hc : PTD X F0 H0 c tc) (hb : PSsD X F0 H0 sts tb) : PSD X F0 H0 (.While c sts [] pos) (dWhile tc tb) := by
  refine ⟨ps_imp (ps_while hp hc.pt hb.ps) ?_⟩
  rintro G σ H ⟨F, ρ, DD, E, ⟨W, ⟨m0, i0⟩, is⟩, L⟩
  refine ⟨fun m σ H => ∃ F2 ρ, EnvAt X.K F0 H0 F2 H σ ρ ∧ Same F F2 ∧ W m ρ, ⟨m0, F, ρ, E, Same.refl _, i0⟩, ?_⟩
  rintro m σ2 H2 ⟨F2, ρ2, E2, ff, i2⟩
  refine ⟨F2, ρ2, _, E2, is m ρ2 i2, fun b F3 H3 q3 s3 => ?_⟩
  have L3 := L.mono (ff.trans s3.ff)
  cases b with
  | true =>
    refine ⟨fun σ' H' => ∃ F4 ρ4, EnvAt X.K F0 H0 F4 H' σ' ρ4 ∧ Same F F4 ∧ ∃ m', m' < m ∧ W m' ρ4, fun σ' H' ⟨F4, ρ4, E4, f4, m', h4, i4⟩ => ⟨m', h4, F4, ρ4, E4, f4, i4⟩, ?_⟩
    have f3 := ff.trans s3.ff
    exact ⟨F3, ρ2, _, E2.step s3, q3, ⟨fun ρ4 σ4 F4 H4 q4 f4 E4 => ⟨F4, ρ4, E4, f3.trans f4, q4⟩, fun ρ4 σ4 F4 H4 q4 f4 E4 => L3.nx ρ4 σ4 F4 H4 q4 f4 E4, fun ρ4 σ4 F4 H4 q4 f4 E4 => ⟨F4, ρ4, E4, f3.trans f4, q4⟩, fun d v F4 H4 q4 f4 => L3.rt d v F4 H4 q4 f4⟩⟩
  | false => exact L3.nx ρ2 σ2 F3 H3 q3 (Same.refl _) (E2.step s3)

/-! ### comprehensions -/
def wipeD (ρ : Rho) : List Nat → Rho
  | [] => ρ
  | v :: vs => (wipeD ρ vs).set v none
theorem EnvAt.unset {K : PySem.W.Frag} {F H : Hp} {σ : L2.St} {ρ : Rho} {i : Nat} (E : EnvAt K F0 H0 F H σ ρ) : EnvAt K F0 H0 F H (σ.set i none) (ρ.set i none) where
  fs := E.fs
  st := E.st
  dd := fun j d h => by
    rcases setget h with ⟨_, _, z⟩ | ⟨hne, h⟩
    · cases z
    · obtain ⟨u, h1, h2⟩ := E.dd j d h
      exact ⟨u, by rw [List.getElem?_set_ne hne]; exact h1, h2⟩
  ow := fun j ds h => by
    rcases setget h with ⟨_, _, z⟩ | ⟨hne, h⟩
    · cases z
    · obtain ⟨p, xs, h1, h2⟩ := E.ow j ds h
      exact ⟨p, xs, by rw [List.getElem?_set_ne hne]; exact h1, h2⟩
  sep := fun j k ds es p h1 h2 h3 h4 => by
    rcases setget h1 with ⟨_, _, z⟩ | ⟨hne, h1⟩
    · cases z
    rcases setget h2 with ⟨_, _, z⟩ | ⟨hne2, h2⟩
    · cases z
    rw [List.getElem?_set_ne hne] at h3
    rw [List.getElem?_set_ne hne2] at h4
    exact E.sep j k ds es p h1 h2 h3 h4
  len := by rw [List.length_set, List.length_set, E.len]
theorem EnvAt.wipe {K : PySem.W.Frag} {F H : Hp} {σ : L2.St} {ρ : Rho} (E : EnvAt K F0 H0 F H σ ρ) : ∀ vs, EnvAt K F0 H0 F H (L2.wipe σ vs) (wipeD ρ vs)
  | [] => E
  | v :: vs => (EnvAt.wipe E vs).unset
def lcGo (vs : List Nat) (g : DG) (tt : DT) (te : DE) (ρ : Rho) : List D → List D → (List D → Prop) → Prop
  | [], acc, Q => Q acc
  | x :: xs, acc, Q => g x (wipeD ρ vs) fun ρ1 => tt ρ1 fun b => if b = true then te ρ1 fun y => lcGo vs g tt te ρ xs (acc ++ [y]) Q else lcGo vs g tt te ρ xs acc Q
def dLc (vs : List Nat) (ti : DA) (g : DG) (tt : DT) (te : DE) : DA := fun ρ Q => ti ρ fun items => items.length ≤ sizeLine ∧ lcGo vs g tt te ρ items [] Q
structure PTsD (X : Cx) (F0 H0 : Hp) (ifs : List Expr) (t : DT) : Prop where
  pt : PTs X ifs (lT X.K F0 H0 t)
def dYes : DT := fun _ Q => Q true
theorem pts_imp {es : List Expr} {t t' : TT} (h : PTs X es t) (w : ∀ σ H Q, t' σ H Q → t σ H Q) : PTs X es t' := ⟨fun pins s σ H Q I q => h.run pins s σ H Q I (w σ H Q q)⟩
theorem ptsd_nil : PTsD X F0 H0 [] dYes := by
  refine ⟨pts_imp pts_nil ?_⟩
  rintro σ H Q ⟨F, ρ, QQ, E, q, k⟩
  exact k true F H q (Stp.refl E.fs)
theorem ptsd_one {t : DT} (h : PTD X F0 H0 c t) : PTsD X F0 H0 [c] t := ⟨pts_one h.pt⟩
theorem lLc {vs : List Nat} {ti : DA} {g : DG} {tt : DT} {te : DE} {S : Bool} {σ : L2.St} {H : Hp} {Q : VK} (h : lN X.K F0 H0 (dLc vs ti g tt te) σ H Q) : tLc (lI X.K F0 H0 S ti) (lG X.K F0 H0 vs g) (lT X.K F0 H0 tt) (lJ X.K F0 H0 (RD X.K) te) vs σ H Q := by
  obtain ⟨F, ρ, QQ, E, q, k⟩ := h
  refine ⟨F, ρ, _, E, q, fun items J F1 H1 ⟨hz, q1⟩ s1 w => ?_⟩
  have w : Walk X.K (fun F2 H2 => Stp F1 H1 F2 H2) J items := by
    cases S with
    | true => exact w.weak fun F2 H2 z => ⟨z.ff, z.fs⟩
    | false => exact w
  intro C hC
  have E1 := E.step s1
  have s0 : Stp F1 H1 F1 (upd H1 C (.lst [])) := Stp.own s1.fs hC _
  refine ⟨fun i m H2 => m = items.length - i ∧ i ≤ items.length ∧ ∃ F2 acc accd, Stp F1 H1 F2 H2 ∧ H2 C = some (.lst acc) ∧ F2 C = none ∧ AtAll X.K F2 acc accd ∧ accd.length ≤ i ∧ lcGo vs g tt te ρ (items.drop i) accd QQ, ⟨_, rfl, Nat.zero_le _, F1, [], [], s0, upd_same, s1.fs.free hC, .nil, Nat.le_refl _, q1⟩, ?_⟩
  rintro i m H2 ⟨rfl, hi, F2, acc, accd, s2, hC2, hC3, ra, hl, q2⟩
  by_cases hlt : i < items.length
  · refine .inr ⟨w.go i F2 H2 s2 hlt, fun H' => ∃ F2 acc accd, Stp F1 H1 F2 H' ∧ H' C = some (.lst acc) ∧ F2 C = none ∧ AtAll X.K F2 acc accd ∧ accd.length ≤ i + 1 ∧ lcGo vs g tt te ρ (items.drop (i + 1)) accd QQ, fun H' p' => ⟨items.length - (i + 1), by omega, rfl, hlt, p'⟩, fun x H' y => ?_⟩
    have hd : items[i]? = some items[i] := List.getElem?_eq_getElem hlt
    obtain ⟨F3, s3, r3⟩ := w.yld i _ F2 H2 x H' s2 hd y
    rw [List.drop_eq_getElem_cons hlt] at q2
    have E3 := (E1.step (s2.trans s3)).wipe vs
    refine ⟨F3, _, _, _, E3, r3, q2, fun ρ' σ' q3 E' wp => ⟨wp.trans (by
      have : ∀ us : List Nat, (∀ v ∈ us, v ∈ vs) → L2.wipe (L2.wipe σ us) vs = L2.wipe σ vs := by
        intro us
        induction us with
        | nil => intro _; rfl
        | cons u us ih =>
          intro hu
          show L2.wipe ((L2.wipe σ us).set u none) vs = _
          rw [wipe_set (hu u List.mem_cons_self)]
          exact ih fun v hv => hu v (List.mem_cons_of_mem _ hv)
      exact this vs fun _ h => h), ?_⟩⟩
    refine ⟨F3, ρ', _, E', q3, fun b F4 H4 q4 s4 => ?_⟩
    have hC4 : H4 C = some (.lst acc) := s4.hh _ _ (s3.hh _ _ hC2)
    have hC5 : F4 C = none := (s3.trans s4).nw C (by rw [hC2]; exact fun z => nomatch z) hC3
    cases b with
    | false => exact ⟨F4, acc, accd, (s2.trans s3).trans s4, hC4, hC5, ra.mono (s3.ff.trans s4.ff), by omega, q4⟩
    | true =>
      refine ⟨F4, ρ', _, E'.step s4, q4, fun d v F5 H5 q5 s5 r5 => ?_⟩
      have hC6 : H5 C = some (.lst acc) := s5.hh _ _ hC4
      have hC7 : F5 C = none := s5.nw C (by rw [hC4]; exact fun z => nomatch z) hC5
      have s6 := ((s2.trans s3).trans s4).trans s5
      refine ⟨acc, hC6, by rw [ra.length]; omega, F5, _, _, ⟨fun b u z => ?_, s6.ff, fun b u z => ?_, fun b z1 z2 => s6.nw b z1 z2⟩, upd_same, hC7, (ra.mono ((s3.ff.trans s4.ff).trans s5.ff)).append (.cons r5 .nil), by simp; omega, q5⟩
      · rw [upd_ne (ne_of_none z hC)]; exact s6.hh b u z
      · rw [upd_ne (ne_of_none z hC7)]; exact s6.fs b u z
  · have e : i = items.length := by omega
    subst e
    rw [List.drop_length] at q2
    exact .inl ⟨w.stop F2 H2 s2, k accd C acc F2 H2 q2 (s1.trans s2) (s1.hh.free hC) hC2 hC3 ra⟩
section
variable {elt : Expr} {ifs : List Expr} {scope : Scope} {own : List (Str × Nat)} {ti : DA} {g : DG} {tt : DT} {te : DE} {S : Bool}
theorem pn_lc (hc : X.calm = true) (hN : X.N.Nodup) (hi : PID X F0 H0 S tg iter ti) (ok : BlkOk X.N X.env.scope scope own)
    (hg : ∀ (s : Shared) (H : Hp) (C : Addr) (cl : List (Str × Addr)) (fp : List Addr), PGD (X.blk s H scope (compEnvC scope cl C X.env) fp) F0 H0 (own.map (·.2)) tg g) (ht : ∀ (s : Shared) (H : Hp) (C : Addr) (cl : List (Str × Addr)) (fp : List Addr), PTsD (X.blk s H scope (compEnvC scope cl C X.env) fp) F0 H0 ifs tt)
    (he : ∀ (s : Shared) (H : Hp) (C : Addr) (cl : List (Str × Addr)) (fp : List Addr), PD (X.blk s H scope (compEnvC scope cl C X.env) fp) F0 H0 elt te) (hs : ∀ x, foldedSetIterable iter X.env x = pure x := by intro _; rfl) :
    PN X F0 H0 (.ListComp elt [⟨tg, iter, ifs, 0⟩] scope pos) (dLc (own.map (·.2)) ti g tt te) :=
  ⟨pe_imp (pe_lc (g := lG X.K F0 H0 (own.map (·.2)) g) (tt := lT X.K F0 H0 tt) (te := lJ X.K F0 H0 (RD X.K) te) hc hN hi.pi ok (fun s H C cl fp => (hg s H C cl fp).pg) (fun s H C cl fp => (ht s H C cl fp).pt) (fun s H C cl fp => (he s H C cl fp).pe) hs) fun σ H Q h => lLc h⟩
/-- y = [..] -/
theorem psd_setLc {i : Nat} {y : Str} {py spos : Pos} (hc : X.calm = true) (hN : X.N.Nodup) (hy : X.N[i]? = some y) (hyl : X.env.scope.names.lookup y = some .local)
    (hsw : swapsWith (.ListComp elt [⟨tg, iter, ifs, 0⟩] scope pos) (some (.Name y py)) spos.line X.env = pure true) (hi : PID X F0 H0 S tg iter ti) (ok : BlkOk X.N X.env.scope scope own)
    (hg : ∀ (s : Shared) (H : Hp) (C : Addr) (cl : List (Str × Addr)) (fp : List Addr), PGD (X.blk s H scope (compEnvC scope cl C X.env) fp) F0 H0 (own.map (·.2)) tg g) (ht : ∀ (s : Shared) (H : Hp) (C : Addr) (cl : List (Str × Addr)) (fp : List Addr), PTsD (X.blk s H scope (compEnvC scope cl C X.env) fp) F0 H0 ifs tt)
    (he : ∀ (s : Shared) (H : Hp) (C : Addr) (cl : List (Str × Addr)) (fp : List Addr), PD (X.blk s H scope (compEnvC scope cl C X.env) fp) F0 H0 elt te) (hs : ∀ x, foldedSetIterable iter X.env x = pure x := by intro _; rfl) :
    PSD X F0 H0 (.Assign [.Name y py] (.ListComp elt [⟨tg, iter, ifs, 0⟩] scope pos) spos) (dSetO i (dLc (own.map (·.2)) ti g tt te)) := by
  refine ⟨ps_imp (ps_setLc (g := lG X.K F0 H0 (own.map (·.2)) g) (tt := lT X.K F0 H0 tt) (te := lJ X.K F0 H0 (RD X.K) te) hc hN hy hyl hsw hi.pi ok (fun s H C cl fp => (hg s H C cl fp).pg) (fun s H C cl fp => (ht s H C cl fp).pt) (fun s H C cl fp => (he s H C cl fp).pe) hs) ?_⟩
  rintro G σ H ⟨F, ρ, DD, E, q, L⟩
  exact lLc ⟨F, ρ, _, E, q, fun ds p xs F' H' q' s hp h1 h2 r => L.nx _ _ F' H' q' s.ff (E.newOwn s hp h1 h2 r)⟩
end

/-! ### a def -/
/-- the slots at the entry -/
def startD (N : List Str) (ds : List D) : Rho := ds.map (fun d => some (.d d)) ++ List.replicate (N.length - ds.length) none
theorem EnvAt.start {K : PySem.W.Frag} {F H : Hp} {N : List Str} {vs : List V} {ds : List D} (s : Same F H) (r : AtAll K F vs ds) : EnvAt K F H F H (L2.start N vs) (startD N ds) where
  fs := s
  st := Stp.refl s
  dd := fun i d h => by
    unfold startD at h
    by_cases hi : i < ds.length
    · rw [List.getElem?_append_left (by simpa using hi), List.getElem?_map] at h
      cases e : ds[i]? with
      | none => rw [e] at h; cases h
      | some d' =>
        rw [e] at h
        cases h
        obtain ⟨v, h1, h2⟩ := r.get e
        refine ⟨v, ?_, h2⟩
        unfold L2.start
        rw [List.getElem?_append_left (by rw [List.length_map, r.length]; exact hi), List.getElem?_map, h1]
        rfl
    · rw [List.getElem?_append_right (by simpa using hi), List.getElem?_replicate] at h
      split at h <;> cases h
  ow := fun i d h => by
    unfold startD at h
    by_cases hi : i < ds.length
    · rw [List.getElem?_append_left (by simpa using hi), List.getElem?_map] at h
      cases e : ds[i]? with
      | none => rw [e] at h; cases h
      | some d' => rw [e] at h; cases h
    · rw [List.getElem?_append_right (by simpa using hi), List.getElem?_replicate] at h
      split at h <;> cases h
  sep := fun i j d e p h _ _ _ => by
    unfold startD at h
    by_cases hi : i < ds.length
    · rw [List.getElem?_append_left (by simpa using hi), List.getElem?_map] at h
      cases e : ds[i]? with
      | none => rw [e] at h; cases h
      | some d' => rw [e] at h; cases h
    · rw [List.getElem?_append_right (by simpa using hi), List.getElem?_replicate] at h
      split at h <;> cases h
  len := by
    unfold startD L2.start
    simp [r.length]
section
variable {P : Program} {w : World} {K : PySem.W.Frag} {mg : Str → Option Value} {base : Heap}
/-- a def's contract over data, from its body as a term and from what the term says -/
theorem fnD {x qual : Str} {st : Stmt} {f : Addr} {fd : FuncData} {N ps : List Str} {k n : Nat} {t : List D → (D → Prop) → Prop} {T : DS} (F : Fun K x qual st f fd) (S : FnScope N ps (defScope st)) (hn : ps.length = n)
    (hb : ∀ (cdv : Value) (A : Around) (outer : List Env) (s : Shared) (H : Hp) (E : XK) (F0 : Hp), Room k (A.deeper (envOfC qual (defScope st) s.heap.objs.size f cdv)) → PSsD (cxOf CX0 P w K mg base N qual (defScope st) f cdv A outer s H E).nox F0 H (defBody st) T)
    (hv : ∀ ds Q, ds.length = n → t ds Q → T ⟨fun _ => Q .non, Q, fun _ => False, fun _ => False⟩ (startD N ds)) : FnOk P w K mg base CX0 (k + 1) f fd ps (spD K n t) := by
  refine F.ok S (fun vs H Q E h => by rw [spD_len h, hn]) (fun cdv A outer s H vs Q E hr h => ?_)
  obtain ⟨F0, ds, QQ, fs, r, hl, ht, k⟩ := h
  refine ⟨_, (hb cdv A outer s H E F0 hr).ps, F0, _, _, EnvAt.start fs r, hv ds QQ hl ht, ⟨fun ρ σ F' H' q _ E' => ?_, fun ρ σ F' H' q _ E' => q.elim, fun ρ σ F' H' q _ E' => q.elim, fun d v F' H' q _ s' r' => k d v F' H' q s' r'⟩⟩
  exact k .non .non F' H' q E'.st .non
theorem FnOk.impD {CX : CXT} {k n : Nat} {f : Addr} {fd : FuncData} {ps : List Str} {t t' : List D → (D → Prop) → Prop} (G : FnOk P w K mg base CX k f fd ps (spD K n t)) (h : ∀ ds Q, ds.length = n → t' ds Q → t ds Q) : FnOk P w K mg base CX k f fd ps (spD K n t') :=
  G.imp fun vs H Q E ⟨F0, ds, QQ, fs, r, hl, ht, k⟩ => ⟨F0, ds, QQ, fs, r, hl, h ds QQ hl ht, k⟩
end
end
end DL

namespace DL
open PySem L2
/-- a def of the top -/
def Df (K : PySem.W.Frag) (mg : Str → Option Value) (x : Str) (st : Stmt) (ps : List Str) : Prop := ∃ f fd, Fun K x x st f fd ∧ mg x = some (.ref f) ∧ Binds K fd ps []
/-- .. and what it promises -/
def Has (P : Program) (w : World) (K : PySem.W.Frag) (mg : Str → Option Value) (base : Heap) (k : Nat) (x : Str) (n : Nat) (t : List D → (D → Prop) → Prop) : Prop :=
  ∃ f fd ps, FnOk P w K mg base CX0 k f fd ps (spD K n t) ∧ mg x = some (.ref f) ∧ PySem.W.keepIn K (.ref f) = true ∧ Binds K fd ps []
theorem Df.has {P : Program} {w : World} {K : PySem.W.Frag} {mg : Str → Option Value} {base : Heap} {x : Str} {st : Stmt} {N ps : List Str} {k n : Nat} {t : List D → (D → Prop) → Prop} {T : DS} (F : Df K mg x st ps) (S : FnScope N ps (defScope st)) (hn : ps.length = n)
    (hb : ∀ (cdv : Value) (f : Addr) (A : Around) (outer : List Env) (s : Shared) (H : Hp) (E : XK) (F0 : Hp), Room k (A.deeper (PyProof.Rows.envOfC x (defScope st) s.heap.objs.size f cdv)) → PSsD (cxOf CX0 P w K mg base N x (defScope st) f cdv A outer s H E).nox F0 H (defBody st) T)
    (hv : ∀ ds Q, ds.length = n → t ds Q → T ⟨fun _ => Q .non, Q, fun _ => False, fun _ => False⟩ (startD N ds)) : Has P w K mg base (k + 1) x n t := by
  obtain ⟨f, fd, F, hm, hb'⟩ := F
  exact ⟨f, fd, ps, fnD F S hn (fun cdv A outer s H E F0 hr => hb cdv f A outer s H E F0 hr) hv, hm, F.kp, hb'⟩
theorem Has.imp {P : Program} {w : World} {K : PySem.W.Frag} {mg : Str → Option Value} {base : Heap} {x : Str} {k n : Nat} {t t' : List D → (D → Prop) → Prop} (h : Has P w K mg base k x n t) (i : ∀ ds Q, ds.length = n → t' ds Q → t ds Q) : Has P w K mg base k x n t' := by
  obtain ⟨f, fd, ps, G, a, b, c⟩ := h
  exact ⟨f, fd, ps, FnOk.impD G i, a, b, c⟩
theorem Has.mono {P : Program} {w : World} {K : PySem.W.Frag} {mg : Str → Option Value} {base : Heap} {x : Str} {j k n : Nat} {t : List D → (D → Prop) → Prop} (h : Has P w K mg base j x n t) (i : j ≤ k) : Has P w K mg base k x n t := by
  obtain ⟨f, fd, ps, G, a, b, c⟩ := h
  exact ⟨f, fd, ps, G.mono i, a, b, c⟩
section
variable {X : Cx} {F0 H0 : Hp} {a b c e : Expr} {pos : Pos}
/-- a call of a def of the top -/
theorem pd_fn {k n : Nat} {x : Str} {p : Pos} {es : List Expr} {t : List D → (D → Prop) → Prop} {ta : DA} (G : Has X.prog X.w X.K X.mg X.base k x n t) (hr : Room k X.A) (ha : PAD X F0 H0 (a :: es) ta) (hg : Gl X x := by rfl) (hn : (a :: es).length = n := by rfl) (hdb : (x == ("__debug__" : Str)) = false := by decide)
    (he : starEach (a :: es) X.env = (false, eval a X.env) :: starEach es X.env := by rfl) (hpl : (backTo pos (starEach es X.env)).any (·.1) = false := by rfl) (hx : Passes CX0 X E0 := by exact pass0) : PD X F0 H0 (.Call (.Name x p) (a :: es) [] pos) (dCall (fun ds Q => ds.length = n ∧ t ds Q) ta) := by
  obtain ⟨f, fd, ps, G, hm, hk, hb⟩ := G
  exact pd_call G hr hg hm hk hb hx ha hn hdb he hpl
end
end DL

namespace DL
open PySem L2
/-! ### the readings, opened -/
theorem atI_0 {α : Type} (x : α) (l : List α) : atI (x :: l) 0 = some x := atI_nat (xs := x :: l) (j := 0) rfl
theorem atI_1 {α : Type} (x y : α) (l : List α) : atI (x :: y :: l) 1 = some y := atI_nat (xs := x :: y :: l) (j := 1) rfl
theorem atI_2 {α : Type} (x y z : α) (l : List α) : atI (x :: y :: z :: l) 2 = some z := atI_nat (xs := x :: y :: z :: l) (j := 2) rfl
theorem szle {n : Nat} (h : n ≤ 1000) : n ≤ sizeLine := Nat.le_of_lt (small1000 h)
theorem ixV_tup {l : List D} {i : Int} {z : D} : ixV (.tup l) i z = (atI l i = some z) := rfl
theorem ixV_lst {l : List D} {i : Int} {z : D} : ixV (.lst l) i z = (atI l i = some z) := rfl
theorem ixV_str {s : Str} {i : Int} {z : D} : ixV (.str s) i z = (s.length ≤ sizeLine ∧ ∃ c, atI s.cps.toList i = some c ∧ z = .str ⟨#[c]⟩) := rfl
theorem ixV_scr {l : List Int} {i : Int} {z : D} : ixV (.scr l) i z = (∃ n, atI l i = some n ∧ z = .int n) := rfl
theorem lenV_tup {l : List D} {n : Nat} : lenV (.tup l) n = (n = l.length) := rfl
theorem lenV_lst {l : List D} {n : Nat} : lenV (.lst l) n = (n = l.length) := rfl
theorem lenV_str {s : Str} {n : Nat} : lenV (.str s) n = (s.length ≤ sizeLine ∧ n = s.length) := rfl
theorem lenV_scr {l : List Int} {n : Nat} : lenV (.scr l) n = (n = l.length) := rfl
theorem truV_non {k : Bool} : truV .non k = (k = false) := rfl
theorem truV_bl {b k : Bool} : truV (.bl b) k = (k = b) := rfl
theorem truV_int {i : Int} {k : Bool} : truV (.int i) k = (k = (i != 0)) := rfl
theorem truV_str {s : Str} {k : Bool} : truV (.str s) k = (s.length ≤ sizeLine ∧ k = ((s.length : Int) != 0)) := rfl
theorem truV_tup {l : List D} {k : Bool} : truV (.tup l) k = (k = !l.isEmpty) := rfl
theorem truV_lst {l : List D} {k : Bool} : truV (.lst l) k = (k = !l.isEmpty) := rfl
theorem tyD_int {i : Int} : tyD (.int i) = some "int" := rfl
theorem tyD_bl {i : Bool} : tyD (.bl i) = some "bool" := rfl
theorem tyD_str {i : Str} : tyD (.str i) = some "str" := rfl
theorem tyD_tup {i : List D} : tyD (.tup i) = some "tuple" := rfl
theorem tyD_lst {i : List D} : tyD (.lst i) = some "list" := rfl
theorem tyD_non : tyD .non = some "NoneType" := rfl
theorem sz0 : ((0 : Nat) ≤ sizeLine) = True := eq_true (by decide)
theorem sz1 : ((1 : Nat) ≤ sizeLine) = True := eq_true (by decide)
theorem sz2 : ((2 : Nat) ≤ sizeLine) = True := eq_true (by decide)
theorem sz3 : ((3 : Nat) ≤ sizeLine) = True := eq_true (by decide)
theorem sz4 : ((4 : Nat) ≤ sizeLine) = True := eq_true (by decide)
theorem sz5 : ((5 : Nat) ≤ sizeLine) = True := eq_true (by decide)
theorem sz6 : ((6 : Nat) ≤ sizeLine) = True := eq_true (by decide)
theorem sz7 : ((7 : Nat) ≤ sizeLine) = True := eq_true (by decide)
theorem sz8 : ((8 : Nat) ≤ sizeLine) = True := eq_true (by decide)
theorem sz9 : ((9 : Nat) ≤ sizeLine) = True := eq_true (by decide)
theorem sz10 : ((10 : Nat) ≤ sizeLine) = True := eq_true (by decide)
theorem sz11 : ((11 : Nat) ≤ sizeLine) = True := eq_true (by decide)
theorem sz12 : ((12 : Nat) ≤ sizeLine) = True := eq_true (by decide)
theorem sz13 : ((13 : Nat) ≤ sizeLine) = True := eq_true (by decide)
theorem sz14 : ((14 : Nat) ≤ sizeLine) = True := eq_true (by decide)
theorem sz15 : ((15 : Nat) ≤ sizeLine) = True := eq_true (by decide)
theorem sz16 : ((16 : Nat) ≤ sizeLine) = True := eq_true (by decide)
theorem sz17 : ((17 : Nat) ≤ sizeLine) = True := eq_true (by decide)
theorem sz18 : ((18 : Nat) ≤ sizeLine) = True := eq_true (by decide)
theorem sz19 : ((19 : Nat) ≤ sizeLine) = True := eq_true (by decide)
theorem sz20 : ((20 : Nat) ≤ sizeLine) = True := eq_true (by decide)
theorem sz24 : ((24 : Nat) ≤ sizeLine) = True := eq_true (by decide)
theorem sz30 : ((30 : Nat) ≤ sizeLine) = True := eq_true (by decide)
theorem sz32 : ((32 : Nat) ≤ sizeLine) = True := eq_true (by decide)
/-- one store at a time -/
theorem dSet_cut {i : Nat} {t : DE} {DD : DEnds} {ρ : Rho} (P : D → Prop) (h : ∀ Q : D → Prop, (∀ d, P d → Q d) → t ρ Q) (k : ∀ d, P d → DD.nx (ρ.set i (some (.d d)))) : dSet i t DD ρ := h _ k
theorem dSetO_cut {i : Nat} {t : DA} {DD : DEnds} {ρ : Rho} (P : List D → Prop) (h : ∀ Q : List D → Prop, (∀ d, P d → Q d) → t ρ Q) (k : ∀ d, P d → DD.nx (ρ.set i (some (.own d)))) : dSetO i t DD ρ := h _ k
theorem dPar_cut {i j : Nat} {t : DA} {DD : DEnds} {ρ : Rho} (P : D → D → Prop) (h : ∀ Q : List D → Prop, (∀ d e, P d e → Q [d, e]) → t ρ Q) (k : ∀ d e, P d e → DD.nx ((ρ.set i (some (.d d))).set j (some (.d e)))) : dPar i j t DD ρ :=
  h _ fun d e p => ⟨d, e, rfl, k d e p⟩
/-- a while, by a state -/
theorem dWhile_st {α : Type} {tc : DT} {tb : DS} {DD : DEnds} {ρ : Rho} (st : α → Rho) (I : α → Prop) (μ : α → Nat) (a0 : α) (h0 : ρ = st a0) (i0 : I a0)
    (step : ∀ a, I a → tc (st a) fun b => if b = true then tb ⟨fun ρ' => ∃ m', m' < μ a ∧ ∃ a', ρ' = st a' ∧ I a' ∧ m' = μ a', DD.rt, DD.nx, fun ρ' => ∃ m', m' < μ a ∧ ∃ a', ρ' = st a' ∧ I a' ∧ m' = μ a'⟩ (st a) else DD.nx (st a)) : dWhile tc tb DD ρ := by
  refine ⟨fun m ρ => ∃ a, ρ = st a ∧ I a ∧ m = μ a, ⟨_, a0, h0, i0, rfl⟩, ?_⟩
  rintro m ρ ⟨a, rfl, ia, rfl⟩
  exact step a ia
/-- a for, by a state -/
theorem dFor_st {α : Type} {ti : DA} {g : DG} {tb : DS} {DD : DEnds} {ρ : Rho} (st : Nat → α → Rho) (I : Nat → α → Prop) (items : List D) (hi : ∀ Q : List D → Prop, Q items → ti ρ Q) (a0 : α) (h0 : ρ = st 0 a0) (i0 : I 0 a0)
    (step : ∀ i x a, items[i]? = some x → I i a → g x (st i a) fun ρ1 => tb ⟨fun ρ' => ∃ a', ρ' = st (i + 1) a' ∧ I (i + 1) a', DD.rt, DD.nx, fun ρ' => ∃ a', ρ' = st (i + 1) a' ∧ I (i + 1) a'⟩ ρ1)
    (fin : ∀ a, I items.length a → DD.nx (st items.length a)) : dFor ti g tb DD ρ := by
  refine hi _ ⟨fun i ρ => ∃ a, ρ = st i a ∧ I i a, ⟨a0, h0, i0⟩, ?_, ?_⟩
  · rintro i x ρ hx ⟨a, rfl, ia⟩
    exact step i x a hx ia
  · rintro ρ ⟨a, rfl, ia⟩
    exact fin a ia
/-- a for, by an invariant of the slots -/
theorem dFor_i {ti : DA} {g : DG} {tb : DS} {DD : DEnds} {ρ : Rho} (items : List D) (hi : ∀ Q : List D → Prop, Q items → ti ρ Q) (I : Nat → Rho → Prop) (i0 : I 0 ρ)
    (step : ∀ i x ρ, items[i]? = some x → I i ρ → g x ρ fun ρ1 => tb ⟨I (i + 1), DD.rt, DD.nx, I (i + 1)⟩ ρ1)
    (fin : ∀ ρ, I items.length ρ → DD.nx ρ) : dFor ti g tb DD ρ := hi _ ⟨I, i0, step, fin⟩
theorem rng_get {lo hi : Int} {i : Nat} {x : D} (h : (rng lo hi)[i]? = some x) : x = .int (lo + i) ∧ lo + i < hi := by
  unfold rng at h
  rw [List.getElem?_map] at h
  by_cases hl : i < (hi - lo).toNat
  · rw [List.getElem?_range hl] at h
    cases h
    exact ⟨rfl, by omega⟩
  · rw [List.getElem?_eq_none (by simpa using hl)] at h
    cases h
theorem rng_len {lo hi : Int} : (rng lo hi).length = (hi - lo).toNat := by
  unfold rng; simp
/-- a comprehension that maps -/
theorem lcGo_map {vs : List Nat} {g : DG} {te : DE} {ρ : Rho} {f : D → D} {Q : List D → Prop} : ∀ (xs acc : List D), (∀ x ∈ xs, ∀ R : D → Prop, R (f x) → g x (wipeD ρ vs) fun ρ1 => te ρ1 R) → Q (acc ++ xs.map f) → lcGo vs g dYes te ρ xs acc Q
  | [], acc, _, q => by simpa [lcGo] using q
  | x :: xs, acc, h, q => by
    unfold lcGo
    refine h x List.mem_cons_self (fun y => lcGo vs g dYes te ρ xs (acc ++ [y]) Q) ?_
    refine lcGo_map xs (acc ++ [f x]) (fun z hz => h z (List.mem_cons_of_mem _ hz)) ?_
    rw [List.append_assoc]
    exact q
/-- a comprehension with a test -/
theorem lcGo_filter {vs : List Nat} {g : DG} {tt : DT} {te : DE} {ρ : Rho} {p : D → Bool} {f : D → D} {Q : List D → Prop} : ∀ (xs acc : List D), (∀ x ∈ xs, ∀ R : D → Prop, ∀ Z : Prop, (if p x = true then R (f x) else Z) → g x (wipeD ρ vs) fun ρ1 => tt ρ1 fun b => if b = true then te ρ1 R else Z) → Q (acc ++ (xs.filter p).map f) → lcGo vs g tt te ρ xs acc Q
  | [], acc, _, q => by simpa [lcGo] using q
  | x :: xs, acc, h, q => by
    unfold lcGo
    refine h x List.mem_cons_self (fun y => lcGo vs g tt te ρ xs (acc ++ [y]) Q) _ ?_
    by_cases hp : p x = true
    · rw [if_pos hp]
      refine lcGo_filter xs (acc ++ [f x]) (fun z hz => h z (List.mem_cons_of_mem _ hz)) ?_
      rw [List.append_assoc]
      rw [List.filter_cons_of_pos hp] at q
      exact q
    · rw [if_neg hp]
      refine lcGo_filter xs acc (fun z hz => h z (List.mem_cons_of_mem _ hz)) ?_
      rw [List.filter_cons_of_neg hp] at q
      exact q
end DL

namespace DL
open PySem PySem.Spec PyProof.Rows L2
section
variable {X : Cx} {F0 H0 : Hp} {a b c e tg iter : Expr} {pos : Pos} {st : Stmt} {sts : List Stmt}
/-! ### zip -/
def zipD (l m : List D) : List D := List.zipWith (fun x y => D.tup [x, y]) l m
theorem zipD_get {l m : List D} {i : Nat} {d : D} (h : (zipD l m)[i]? = some d) : ∃ x y, l[i]? = some x ∧ m[i]? = some y ∧ d = .tup [x, y] := by
  unfold zipD at h
  rw [List.getElem?_zipWith] at h
  cases h1 : l[i]? with
  | none => rw [h1] at h; cases h
  | some x =>
    cases h2 : m[i]? with
    | none => rw [h1, h2] at h; cases h
    | some y =>
      rw [h1, h2] at h
      cases h
      exact ⟨x, y, rfl, rfl, rfl⟩
theorem zipD_len {l m : List D} : (zipD l m).length = min l.length m.length := by
  unfold zipD
  rw [List.length_zipWith]
theorem pair_at {K : PySem.W.Frag} {F H : Hp} {T : Addr} {x y : V} {d e : D} (s : Same F H) (hT : H T = none) (rx : At K F x d) (ry : At K F y e) : ∃ F', Stp F H F' (upd H T (.tup [x, y])) ∧ At K F' (.ref T) (.tup [d, e]) := by
  have n := Stp.new s hT (.tup [x, y])
  exact ⟨_, n, .tup (SqT.of upd_same) (.cons (rx.mono n.ff) (.cons (ry.mono n.ff) .nil))⟩
theorem walk_zipT {K : PySem.W.Frag} {F1 : Hp} {p q : Addr} {xs ys : List V} {ds es : List D} (h : SqT K F1 p xs) (r : AtAll K F1 xs ds) (h' : SqT K F1 q ys) (r' : AtAll K F1 ys es) : Walk K (okS F1) (RZ.ItzT K p q) (zipD ds es) where
  go := fun i F H ⟨a, b⟩ hi => by
    rw [zipD_len] at hi
    have h1 : i < xs.length := by rw [r.length]; omega
    have h2 : i < ys.length := by rw [r'.length]; omega
    exact ⟨xs, ys, xs[i], ys[i], Same.sqT b (Same.sqT a h), Same.sqT b (Same.sqT a h'), List.getElem?_eq_getElem _, List.getElem?_eq_getElem _⟩
  stop := fun F H ⟨a, b⟩ => by
    refine ⟨xs, ys, Same.sqT b (Same.sqT a h), Same.sqT b (Same.sqT a h'), ?_⟩
    rw [zipD_len, r.length, r'.length]
    omega
  yld := fun i d F H x H' ⟨a, b⟩ hd ⟨T, x1, y1, e1, hT, e2, e3, e4⟩ => by
    subst e1 e2
    obtain ⟨u, v, h1, h2, rfl⟩ := zipD_get hd
    obtain ⟨v1, g1, g2⟩ := r.get h1
    obtain ⟨v2, g3, g4⟩ := r'.get h2
    have e3 := e3 xs (Same.sqT b (Same.sqT a h))
    have e4 := e4 ys (Same.sqT b (Same.sqT a h'))
    rw [g1] at e3
    rw [g3] at e4
    cases e3
    cases e4
    exact pair_at b hT (g2.mono a) (g4.mono a)
theorem walk_zipL {K : PySem.W.Frag} {F1 H1 : Hp} {p q : Addr} {xs ys : List V} {ds es : List D} (h : H1 p = some (.lst xs)) (r : AtAll K F1 xs ds) (h' : H1 q = some (.lst ys)) (r' : AtAll K F1 ys es) : Walk K (fun F H => Stp F1 H1 F H) (Itz K p q) (zipD ds es) where
  go := fun i F H a hi => by
    rw [zipD_len] at hi
    have h1 : i < xs.length := by rw [r.length]; omega
    have h2 : i < ys.length := by rw [r'.length]; omega
    exact ⟨xs, ys, xs[i], ys[i], SqL.of (a.hh _ _ h), SqL.of (a.hh _ _ h'), List.getElem?_eq_getElem _, List.getElem?_eq_getElem _⟩
  stop := fun F H a => by
    refine ⟨xs, ys, SqL.of (a.hh _ _ h), SqL.of (a.hh _ _ h'), ?_⟩
    rw [zipD_len, r.length, r'.length]
    omega
  yld := fun i d F H x H' a hd ⟨T, x1, y1, e1, hT, e2, e3, e4⟩ => by
    subst e1 e2
    obtain ⟨u, v, h1, h2, rfl⟩ := zipD_get hd
    obtain ⟨v1, g1, g2⟩ := r.get h1
    obtain ⟨v2, g3, g4⟩ := r'.get h2
    have e3 := e3 xs (SqL.of (a.hh _ _ h))
    have e4 := e4 ys (SqL.of (a.hh _ _ h'))
    rw [g1] at e3
    rw [g3] at e4
    cases e3
    cases e4
    exact pair_at a.fs hT (g2.mono a.ff) (g4.mono a.ff)
def dZipT (t u : DE) : DA := fun ρ Q => t ρ fun x => u ρ fun y => ∃ l m, x = .tup l ∧ y = .tup m ∧ Q (zipD l m)
def dZipL (t u : DA) : DA := fun ρ Q => t ρ fun l => u ρ fun m => Q (zipD l m)
theorem pid_zipT {t u : DE} {p tpos : Pos} {elts : List Expr} {kk : Nat} (hg : Gl X "zip") (hm : X.mg "zip" = none) (h : PD X F0 H0 a t) (h2 : PD X F0 H0 b u)
    (hs : starEach [a, b] X.env = (false, eval a X.env) :: starEach [b] X.env := by rfl) (hs2 : starEach [b] X.env = (false, eval b X.env) :: starEach [] X.env := by rfl) (hpl : (backTo pos (starEach [b] X.env)).any (·.1) = false := by rfl) :
    PID X F0 H0 true (.Tuple elts kk tpos) (.Call (.Name "zip" p) [a, b] [] pos) (dZipT t u) := by
  refine ⟨pi_imp (RZ.pi_zipA hg hm (pa_cons h.pe (pa_cons h2.pe pa_nil hs2) hs) hs hpl) ?_⟩
  rintro σ H R ⟨F, ρ, QQ, E, q, k⟩
  refine ⟨F, ρ, _, E, q, fun d v F1 H1 q1 s1 r1 => ?_⟩
  refine ⟨F1, ρ, _, E.step s1, q1, fun d2 v2 F2 H2 ⟨l, m, e1, e2, q2⟩ s2 r2 => ?_⟩
  subst e1 e2
  have r1 := r1.mono s2.ff
  cases r1 with
  | tup h1 h2 =>
    cases r2 with
    | tup h3 h4 => exact ⟨_, _, _, _, rfl, .inr ⟨Same.sqT s2.fs h1, Same.sqT s2.fs h3, k _ _ F2 H2 q2 (s1.trans s2) (walk_zipT h1 h2 h3 h4)⟩⟩
theorem pid_zipL {t u : DA} {p tpos : Pos} {elts : List Expr} {kk : Nat} (hg : Gl X "zip") (hm : X.mg "zip" = none) (h : PL X F0 H0 a t) (h2 : PL X F0 H0 b u)
    (hs : starEach [a, b] X.env = (false, eval a X.env) :: starEach [b] X.env := by rfl) (hs2 : starEach [b] X.env = (false, eval b X.env) :: starEach [] X.env := by rfl) (hpl : (backTo pos (starEach [b] X.env)).any (·.1) = false := by rfl) :
    PID X F0 H0 false (.Tuple elts kk tpos) (.Call (.Name "zip" p) [a, b] [] pos) (dZipL t u) := by
  refine ⟨pi_imp (RZ.pi_zipA hg hm (pa_cons h.pe (pa_cons h2.pe pa_nil hs2) hs) hs hpl) ?_⟩
  rintro σ H R ⟨F, ρ, QQ, E, q, k⟩
  refine ⟨F, ρ, _, E, q, fun d v F1 H1 q1 s1 ⟨p1, xs, e1, g1, g2⟩ => ?_⟩
  refine ⟨F1, ρ, _, E.step s1, q1, fun d2 v2 F2 H2 q2 s2 ⟨p2, ys, e2, g3, g4⟩ => ?_⟩
  subst e1 e2
  have g1 := s2.hh _ _ g1
  exact ⟨_, _, _, _, rfl, .inl ⟨SqL.of g1, SqL.of g3, k _ _ F2 H2 q2 (s1.trans s2) (walk_zipL g1 (g2.mono s2.ff) g3 g4)⟩⟩

/-! ### isinstance(x, (S, T)) -/
def dIsi2 (S T : String) (t : DE) : DE := fun ρ Q => t ρ fun d => ∃ U b c, tyD d = some U ∧ kitB U S = some b ∧ kitB U T = some c ∧ Q (.bl (b || c))
theorem pd_isi2 {S T : String} {t : DE} {x y : Str} {p p2 p3 pt : Pos} {kt} (hg : Gl X "isinstance") (hm : X.mg "isinstance" = none) (hg2 : Gl X x) (hm2 : X.mg x = none) (hv2 : bootBuiltins x = some (.type S)) (hg3 : Gl X y) (hm3 : X.mg y = none) (hv3 : bootBuiltins y = some (.type T)) (ha : PD X F0 H0 a t)
    (hn : x ≠ "__name__" := by decide) (hdb : (x == ("__debug__" : Str)) = false := by decide) (hn3 : y ≠ "__name__" := by decide) (hdb3 : (y == ("__debug__" : Str)) = false := by decide)
    (he : starEach [a, .Tuple [.Name x p2, .Name y p3] kt pt] X.env = (false, eval a X.env) :: starEach [.Tuple [.Name x p2, .Name y p3] kt pt] X.env := by rfl) (he2 : starEach [.Tuple [.Name x p2, .Name y p3] kt pt] X.env = (false, eval (.Tuple [.Name x p2, .Name y p3] kt pt) X.env) :: starEach [] X.env := by rfl)
    (he3 : starEach [.Name x p2, .Name y p3] X.env = (false, eval (.Name x p2) X.env) :: starEach [.Name y p3] X.env := by rfl) (he4 : starEach [.Name y p3] X.env = (false, eval (.Name y p3) X.env) :: starEach [] X.env := by rfl) :
    PD X F0 H0 (.Call (.Name "isinstance" p) [a, .Tuple [.Name x p2, .Name y p3] kt pt] [] pos) (dIsi2 S T t) := by
  refine ⟨pe_imp (pe_callB call_isiT hg hm (by decide +kernel) (pa_cons ha.pe (pa_cons (pe_tup (pa_cons (pe_bltn (v := .ty S) hg2 hm2 hv2 rfl hn hdb) (pa_cons (pe_bltn (v := .ty T) hg3 hm3 hv3 rfl hn3 hdb3) pa_nil he4) he3)) pa_nil he2) he) (by decide) (by decide) he (by rw [he2]; rfl)) ?_⟩
  rintro σ H Q ⟨F, ρ, QQ, E, q, k⟩
  refine ⟨F, ρ, _, E, q, fun d v F1 H1 ⟨U, b, c, e1, e2, e3, q1⟩ s1 r1 => ⟨by show 2 ≤ sizeLine; decide, fun p hp => ?_⟩⟩
  have n := Stp.own s1.fs hp (.tup [.ty S, .ty T])
  refine ⟨v, p, [.ty S, .ty T], .type U, [.type S, .type T], b || c, rfl, upd_same, .cons (.ty S) (.cons (.ty T) .nil), At.ty n.fs r1 e1, ?_, k _ _ F1 _ q1 (s1.trans n) (.bl _)⟩
  unfold PySem.W.kitAny
  rw [kit_ty e2]
  cases b with
  | true => rfl
  | false =>
    show PySem.W.kitAny X.K (.type U) [.type T] = some (false || c)
    unfold PySem.W.kitAny
    rw [kit_ty e3]
    cases c <;> rfl
/-- a contract that is never asked -/
theorem Df.never {P : Program} {w : World} {K : PySem.W.Frag} {mg : Str → Option Value} {base : Heap} {x : Str} {st : Stmt} {ps : List Str} {k n : Nat} (F : Df K mg x st ps) : Has P w K mg base k x n (fun _ _ => False) := by
  obtain ⟨f, fd, F, hm, hb'⟩ := F
  have no : ∀ vs H Q E, ¬ spD K n (fun _ _ => False) vs H Q E := fun vs H Q E ⟨_, _, _, _, _, _, z, _⟩ => z
  exact ⟨f, fd, ps, ⟨fun vs H Q E h => absurd h (no vs H Q E), fun A outer s H args us vs Q E _ _ _ _ h => absurd h (no vs H Q E)⟩, hm, F.kp, hb'⟩
end
end DL
namespace DL
open PySem L2
theorem eqD_int {i j : Int} : eqD (.int i) (.int j) = (i == j) := by simp [eqD, D.py, PyData.eqv]
theorem eqD_bl {i j : Bool} : eqD (.bl i) (.bl j) = (i == j) := by simp [eqD, D.py, PyData.eqv]
theorem eqD_str {i j : Str} : eqD (.str i) (.str j) = (i == j) := by simp [eqD, D.py, PyData.eqv]
theorem ok_int {i : Int} : (D.int i).ok = true := rfl
theorem ok_bl {i : Bool} : (D.bl i).ok = true := rfl
theorem ok_str {i : Str} : (D.str i).ok = true := rfl
end DL
namespace DL
open PySem L2
theorem kb_NoneType_int : kitB "NoneType" "int" = some false := by decide +kernel
theorem kb_NoneType_bool : kitB "NoneType" "bool" = some false := by decide +kernel
theorem kb_NoneType_str : kitB "NoneType" "str" = some false := by decide +kernel
theorem kb_NoneType_tuple : kitB "NoneType" "tuple" = some false := by decide +kernel
theorem kb_NoneType_list : kitB "NoneType" "list" = some false := by decide +kernel
theorem kb_bool_int : kitB "bool" "int" = some true := by decide +kernel
theorem kb_bool_bool : kitB "bool" "bool" = some true := by decide +kernel
theorem kb_bool_str : kitB "bool" "str" = some false := by decide +kernel
theorem kb_bool_tuple : kitB "bool" "tuple" = some false := by decide +kernel
theorem kb_bool_list : kitB "bool" "list" = some false := by decide +kernel
theorem kb_int_int : kitB "int" "int" = some true := by decide +kernel
theorem kb_int_bool : kitB "int" "bool" = some false := by decide +kernel
theorem kb_int_str : kitB "int" "str" = some false := by decide +kernel
theorem kb_int_tuple : kitB "int" "tuple" = some false := by decide +kernel
theorem kb_int_list : kitB "int" "list" = some false := by decide +kernel
theorem kb_str_int : kitB "str" "int" = some false := by decide +kernel
theorem kb_str_bool : kitB "str" "bool" = some false := by decide +kernel
theorem kb_str_str : kitB "str" "str" = some true := by decide +kernel
theorem kb_str_tuple : kitB "str" "tuple" = some false := by decide +kernel
theorem kb_str_list : kitB "str" "list" = some false := by decide +kernel
theorem kb_tuple_int : kitB "tuple" "int" = some false := by decide +kernel
theorem kb_tuple_bool : kitB "tuple" "bool" = some false := by decide +kernel
theorem kb_tuple_str : kitB "tuple" "str" = some false := by decide +kernel
theorem kb_tuple_tuple : kitB "tuple" "tuple" = some true := by decide +kernel
theorem kb_tuple_list : kitB "tuple" "list" = some false := by decide +kernel
theorem kb_list_int : kitB "list" "int" = some false := by decide +kernel
theorem kb_list_bool : kitB "list" "bool" = some false := by decide +kernel
theorem kb_list_str : kitB "list" "str" = some false := by decide +kernel
theorem kb_list_tuple : kitB "list" "tuple" = some false := by decide +kernel
theorem kb_list_list : kitB "list" "list" = some true := by decide +kernel
/-- data that is compared with itself by the laws' own same: how deep -/
def simD : Nat → D → Bool
  | _, .non => true
  | _, .bl _ => true
  | _, .int _ => true
  | _, .str _ => true
  | n + 1, .tup l => decide (l.length ≤ 100000) && l.all (simD n)
  | _, _ => false
end DL

namespace DL
open PySem L2
/-! ### the end -/
theorem Df_mk {K : PySem.W.Frag} {h : Heap} {mg : Str → Option Value} (X : K.In h) (G : h.Ns mainGlobals mg) {x : Str} {st : Stmt} {ps : List Str} {f : Addr} {oc : Value} {od an : Option Addr} {osl : Array (Option Value)} {kV doc pm cdv ct : Value}
    (a : PySem.W.nsIn K mainGlobals x = some (some (.ref f))) (l : K.lookup f = some ⟨oc, od, .func (PySem.W.fnOf x x (defArgs st) (defBody st) (defScope st) .none kV doc pm an cdv ct), osl⟩) (c : PySem.W.codeIn K cdv x = true) (k : PySem.W.keepIn K (.ref f) = true)
    (hb : ∀ (kV doc pm : Value) (an : Option Addr) (cdv ct : Value) (us : List Value), us.length = ps.length → bindArgs (PySem.W.fnOf x x (defArgs st) (defBody st) (defScope st) .none kV doc pm an cdv ct) ⟨us, []⟩ = pure (ps.zip us)) : Df K mg x st ps := by
  have F := fun_mk (st := st) l c k
  exact ⟨f, _, F, PySem.W.mg_of X G a, F.binds hb⟩
/-- what law(script) promises -/
def spLaw (K : PySem.W.Frag) : Sp := fun vs H Q _ => ∃ (a : Addr) (ns : List Int), vs = [.ref a] ∧ SqL K H a (ns.map V.int) ∧ ns.length ≤ 63 ∧ ∀ H', Q (.bl true) H'
theorem law_of {P : Program} {w : World} {K : PySem.W.Frag} {mg : Str → Option Value} {base : Heap} {k : Nat} {f : Addr} {fd : FuncData} {ps : List Str} (G : FnOk P w K mg base CX0 k f fd ps (spD K 1 fun ds Q => ∃ ns : List Int, ds = [.scr ns] ∧ ns.length ≤ 63 ∧ Q (.bl true))) : FnOk P w K mg base CX0 k f fd ps (spLaw K) := by
  refine G.imp fun vs H Q E h => ?_
  obtain ⟨a, ns, rfl, hS, h63, q⟩ := h
  refine ⟨H, [.scr ns], fun d => d = .bl true, Same.refl _, .cons (.scr hS) .nil, rfl, ⟨ns, rfl, h63, rfl⟩, fun d v F' H' e _ r => ?_⟩
  subst e
  cases r
  exact q H'
theorem walk_end {l : PySem.W.OpenLaw} {q : Program} {loose : List Str} {XP : (Str → Option Value) → Heap → Prop} {YP : World → Heap → Prop} {d : DefRec} {K : Params → PySem.W.Frag} {k : Nat} {st : Stmt} (hn : l.most = some 63) (hdf : d.params.defaults = [])
    (hY : ∀ (w : World) (h : Heap), YP w h → (K w.params).In h) (hr : Room k callerA)
    (hb : ∀ (kV doc pm : Value) (an : Option Addr) (cdv ct : Value) (s : Shared) (v : Value), BindsTo s (PySem.W.fnOf "law" "law" (defArgs st) (defBody st) (defScope st) .none kV doc pm an cdv ct) ⟨[v], []⟩ [("_law_script", v)])
    (hname : d.name = "law")
    (D : ∀ (w : World) (mg : Str → Option Value) (h : Heap), (K w.params).In h → h.Ns mainGlobals mg → Df (K w.params) mg "law" st ["_law_script"] ∧ ∀ (f : Addr) (fd : FuncData) (base : Heap), Fun (K w.params) "law" "law" st f fd → FnOk l.prog w (K w.params) mg base CX0 k f fd ["_law_script"] (spLaw (K w.params))) :
    PySem.W.WalkO q loose XP YP l.row.toRowW d [] (fun f vs => PySem.call f vs) := by
  refine L2.walk_of (n := 63) (k := k) (x := "_law_script") (CX := fun _ => CX0) (sp := fun w => spLaw (K w.params)) hn (by decide) hdf hr hY (fun w mg fa h KX G hmg => ?_) (fun _ _ a ns hl _ hS => ⟨a, ns, rfl, hS, hl, fun _ => rfl⟩) fun _ _ _ _ _ z => z
  obtain ⟨⟨f, fd, F, hm, _⟩, H⟩ := D w mg h KX G
  rw [hname] at hmg
  rw [hm] at hmg
  cases hmg
  have FF := F
  obtain ⟨oc, od, kV, doc, pm, an, cdv, ct, osl, rfl, lk, hcd⟩ := F.ex
  exact ⟨_, fun s v => hb kV doc pm an cdv ct s v, fun base _ _ => H _ _ base FF⟩
end DL
namespace DL
open PySem L2
/-! ### constants of the module that are tuples -/
def KD (K : PySem.W.Frag) (u : Value) (d : D) : Prop := ∃ v, RelV v u ∧ ∀ F, At K F v d
def KDs (K : PySem.W.Frag) (us : List Value) (ds : List D) : Prop := ∃ vs, Vals vs us ∧ ∀ F, AtAll K F vs ds
section
variable {K : PySem.W.Frag}
theorem KD.int {i : Int} {t : Tok} : KD K (.int i t) (.int i) := ⟨.int i, ⟨t, rfl⟩, fun _ => .int i⟩
theorem KD.str {x : Str} {t : Tok} : KD K (.str x t) (.str x) := ⟨.str x, ⟨t, rfl⟩, fun _ => .str x⟩
theorem KD.bl {b : Bool} : KD K (.bool b) (.bl b) := ⟨.bl b, rfl, fun _ => .bl b⟩
theorem KD.non : KD K .none .non := ⟨.non, rfl, fun _ => .non⟩
theorem KDs.nil : KDs K [] [] := ⟨[], .nil, fun _ => .nil⟩
theorem KDs.cons {u : Value} {us : List Value} {d : D} {ds : List D} (h : KD K u d) (k : KDs K us ds) : KDs K (u :: us) (d :: ds) := by
  obtain ⟨v, r, q⟩ := h
  obtain ⟨vs, rs, qs⟩ := k
  exact ⟨v :: vs, .cons r rs, fun F => .cons (q F) (qs F)⟩
theorem KD.tup {a : Addr} {od : Option Addr} {its : Array Value} {n : Nat} {osl : Array (Option Value)} {ds : List D} (l : K.lookup a = some ⟨.type "tuple", od, .seq its n, osl⟩) (hz : its.size ≤ 1000) (h : KDs K its.toList ds) : KD K (.ref a) (.tup ds) := by
  obtain ⟨vs, rs, qs⟩ := h
  exact ⟨.ref a, rfl, fun F => .tup (.inr ⟨_, its, n, l, rfl, rfl, szle hz, rs⟩) (qs F)⟩
theorem KD.at {a : Addr} {d : D} (h : KD K (.ref a) d) : ∀ F, At K F (.ref a) d := by
  obtain ⟨v, r, q⟩ := h
  have e := r.abs
  cases e
  exact q
theorem c_ref {mg : Str → Option Value} {x : Str} {a : Addr} {d : D} (m : mg x = some (.ref a)) (q : KD K (.ref a) d) : ∃ a, mg x = some (.ref a) ∧ ∀ F, At K F (.ref a) d := ⟨a, m, q.at⟩
theorem c_int {mg : Str → Option Value} {x : Str} {i : Int} {t : Tok} (m : mg x = some (.int i t)) : ∃ t, mg x = some (.int i t) := ⟨t, m⟩
theorem c_strg {mg : Str → Option Value} {x y : Str} {t : Tok} (m : mg x = some (.str y t)) : ∃ t, mg x = some (.str y t) := ⟨t, m⟩
end
end DL

namespace DL
open PySem L2
/-! ### fractions -/
def frD (q : Rat) : D := .tup [.int q.num, .int q.den]
theorem frD_inj {p q : Rat} : (frD p = frD q) ↔ p = q := by
  constructor
  · intro h
    unfold frD at h
    simp only [D.tup.injEq, List.cons.injEq, D.int.injEq, and_true] at h
    exact Rat.ext h.1 (by omega)
  · rintro rfl; rfl
def byOf (u l : Int) : Int := if l < 0 then 0 - (Int.gcd u l : Int) else (Int.gcd u l : Int)
theorem gcd_pos {u l : Int} (h : l ≠ 0) : 0 < Int.gcd u l := Int.gcd_pos_of_ne_zero_right u h
theorem byOf_ne {u l : Int} (h : l ≠ 0) : byOf u l ≠ 0 := by
  have := gcd_pos (u := u) h
  unfold byOf
  split <;> omega
theorem byOf_abs {u l : Int} : (byOf u l).natAbs = Int.gcd u l := by
  unfold byOf
  split <;> omega
theorem fr_num {u l : Int} (h : l ≠ 0) : u.fdiv (byOf u l) = (Rat.divInt u l).num := by
  have g0 := gcd_pos (u := u) h
  have d1 : ((Int.gcd u l : Int)) ∣ u := Int.gcd_dvd_left u l
  rw [Rat.num_divInt, Int.gcd_comm l u]
  unfold byOf
  by_cases hl : l < 0
  · rw [if_pos hl, Int.sign_eq_neg_one_of_neg hl, Int.zero_sub, Int.fdiv_eq_ediv_of_dvd (Int.neg_dvd.mpr d1), Int.ediv_neg, Int.neg_one_mul, Int.neg_ediv_of_dvd d1]
  · rw [if_neg hl, Int.sign_eq_one_of_pos (by omega), Int.one_mul, Int.fdiv_eq_ediv_of_dvd d1]
theorem fr_den {u l : Int} (h : l ≠ 0) : l.fdiv (byOf u l) = ((Rat.divInt u l).den : Int) := by
  have g0 := gcd_pos (u := u) h
  have d1 : ((Int.gcd u l : Int)) ∣ l := Int.gcd_dvd_right u l
  rw [Rat.den_divInt, if_neg h, Int.gcd_comm l u, Int.natCast_ediv]
  unfold byOf
  by_cases hl : l < 0
  · rw [if_pos hl, Int.zero_sub, Int.fdiv_eq_ediv_of_dvd (Int.neg_dvd.mpr d1), Int.ediv_neg, ← Int.neg_ediv_of_dvd d1, Int.ofNat_natAbs_of_nonpos (by omega)]
  · rw [if_neg hl, Int.fdiv_eq_ediv_of_dvd d1, Int.natAbs_of_nonneg (by omega)]
/-- at most so many bits in both parts -/
def Bd (q : Rat) (n : Nat) : Prop := q.num.natAbs < 2 ^ n ∧ q.den < 2 ^ n
theorem Bd.le {q : Rat} {m n : Nat} (h : Bd q m) (i : m ≤ n) : Bd q n :=
  ⟨Nat.lt_of_lt_of_le h.1 (Nat.pow_le_pow_right (by decide) i), Nat.lt_of_lt_of_le h.2 (Nat.pow_le_pow_right (by decide) i)⟩
theorem divInt_num_le {u l : Int} (h : l ≠ 0) : (Rat.divInt u l).num.natAbs ≤ u.natAbs := by
  rw [Rat.num_divInt]
  have g0 := gcd_pos (u := u) h
  have d1 : ((Int.gcd l u : Int)) ∣ l.sign * u := Int.dvd_mul_of_dvd_right (Int.gcd_dvd_right l u)
  have e : (l.sign * u).natAbs = u.natAbs := by
    rw [Int.natAbs_mul, Int.natAbs_sign_of_ne_zero h, Nat.one_mul]
  rw [Int.natAbs_ediv_of_dvd d1, e]
  exact Nat.div_le_self _ _
theorem divInt_den_le {u l : Int} (h : l ≠ 0) : (Rat.divInt u l).den ≤ l.natAbs := by
  rw [Rat.den_divInt, if_neg h]
  exact Nat.div_le_self _ _
theorem Bd.divInt {u l : Int} {n : Nat} (h : l ≠ 0) (hu : u.natAbs < 2 ^ n) (hl : l.natAbs < 2 ^ n) : Bd (Rat.divInt u l) n :=
  ⟨Nat.lt_of_le_of_lt (divInt_num_le h) hu, Nat.lt_of_le_of_lt (divInt_den_le h) hl⟩
theorem mul_lt_pow {a b : Int} {m n : Nat} (ha : a.natAbs < 2 ^ m) (hb : b.natAbs < 2 ^ n) : (a * b).natAbs < 2 ^ (m + n) := by
  rw [Int.natAbs_mul, Nat.pow_add]
  exact Nat.mul_lt_mul'' ha hb
theorem add_lt_pow {a b : Int} {n : Nat} (ha : a.natAbs < 2 ^ n) (hb : b.natAbs < 2 ^ n) : (a + b).natAbs < 2 ^ (n + 1) := by
  have := Int.natAbs_add_le a b
  rw [Nat.pow_succ]
  omega
theorem sub_lt_pow {a b : Int} {n : Nat} (ha : a.natAbs < 2 ^ n) (hb : b.natAbs < 2 ^ n) : (a - b).natAbs < 2 ^ (n + 1) := by
  have := Int.natAbs_sub_le a b
  rw [Nat.pow_succ]
  omega
theorem lt_pow_le {a : Nat} {m n : Nat} (h : a < 2 ^ m) (i : m ≤ n) : a < 2 ^ n := Nat.lt_of_lt_of_le h (Nat.pow_le_pow_right (by decide) i)
theorem Bd.den' {q : Rat} {n : Nat} (h : Bd q n) : (q.den : Int).natAbs < 2 ^ n := by
  rw [Int.natAbs_natCast]; exact h.2
theorem den_ne {q : Rat} : (q.den : Int) ≠ 0 := by
  have := q.den_nz
  omega
theorem mul_divInt (p q : Rat) : Rat.divInt (p.num * q.num) (p.den * q.den) = p * q := by
  rw [← Rat.divInt_mul_divInt, Rat.num_divInt_den, Rat.num_divInt_den]
theorem add_divInt (p q : Rat) : Rat.divInt (p.num * q.den + q.num * p.den) (p.den * q.den) = p + q := by
  rw [← Rat.divInt_add_divInt _ _ den_ne den_ne, Rat.num_divInt_den, Rat.num_divInt_den]
theorem den_mul_ne {p q : Rat} : (p.den : Int) * (q.den : Int) ≠ 0 := Int.mul_ne_zero den_ne den_ne
theorem Bd.mul {p q : Rat} {m n : Nat} (hp : Bd p m) (hq : Bd q n) : Bd (p * q) (m + n) := by
  rw [← mul_divInt]
  exact Bd.divInt den_mul_ne (mul_lt_pow hp.1 hq.1) (mul_lt_pow hp.den' hq.den')
theorem Bd.add {p q : Rat} {m n : Nat} (hp : Bd p m) (hq : Bd q n) : Bd (p + q) (m + n + 1) := by
  rw [← add_divInt]
  refine Bd.divInt den_mul_ne (add_lt_pow (mul_lt_pow hp.1 hq.den') ?_) (lt_pow_le (mul_lt_pow hp.den' hq.den') (by omega))
  have := mul_lt_pow hq.1 hp.den'
  rw [Nat.add_comm] at this
  exact this
theorem Bd.neg {p : Rat} {m : Nat} (hp : Bd p m) : Bd (-p) m := by
  refine ⟨?_, ?_⟩
  · rw [Rat.neg_num, Int.natAbs_neg]; exact hp.1
  · rw [Rat.neg_den]; exact hp.2
theorem Bd.int {z : Int} {m : Nat} (h : z.natAbs < 2 ^ m) (h0 : 0 < m) : Bd (z : Rat) m := by
  refine ⟨?_, ?_⟩
  · rw [Rat.num_intCast]; exact h
  · rw [Rat.den_intCast]; exact Nat.one_lt_two_pow (by omega)
theorem Bd.inv {p : Rat} {m : Nat} (hp : Bd p m) (h0 : p ≠ 0) : Bd p⁻¹ m := by
  have hn : p.num ≠ 0 := fun e => h0 (Rat.num_eq_zero.mp e)
  rw [Rat.inv_def]
  exact Bd.divInt hn hp.den' hp.1
theorem Bd.div {p q : Rat} {m n : Nat} (hp : Bd p m) (hq : Bd q n) (h0 : q ≠ 0) : Bd (p / q) (m + n) := by
  rw [Rat.div_def]
  exact hp.mul (hq.inv h0)
theorem div_divInt {p q : Rat} : Rat.divInt (p.num * q.den) (p.den * q.num) = p / q := by
  rw [Rat.div_def, Rat.inv_def, ← Rat.divInt_mul_divInt, Rat.num_divInt_den]
theorem times_divInt {z : Int} {q : Rat} : Rat.divInt (z * q.num) q.den = (z : Rat) * q := by
  have := mul_divInt (z : Rat) q
  rw [Rat.num_intCast, Rat.den_intCast] at this
  simpa using this
theorem fr_int (z : Int) : (D.tup [.int z, .int 1]) = frD (z : Rat) := by
  unfold frD
  rw [Rat.num_intCast, Rat.den_intCast]
  rfl
theorem fr_neg (q : Rat) : (D.tup [.int (0 - q.num), .int q.den]) = frD (-q) := by
  unfold frD
  rw [Rat.neg_num, Rat.neg_den, Int.zero_sub]
theorem ok_fr (q : Rat) : (frD q).ok = true := rfl
theorem eqD_fr (p q : Rat) : eqD (frD p) (frD q) = decide (p = q) := by
  have e : eqD (frD p) (frD q) = ((p.num == q.num) && ((p.den : Int) == (q.den : Int))) := by
    unfold eqD frD
    simp [D.py, D.pys, PyData.eqv, PyData.eqvAll]
  rw [e]
  by_cases h : p = q
  · subst h; simp
  · have : ¬ (p.num = q.num ∧ (p.den : Int) = (q.den : Int)) := fun ⟨a, b⟩ => h (Rat.ext a (by omega))
    simp only [h, decide_false]
    rw [Bool.and_eq_false_iff]
    by_cases e : p.num = q.num
    · exact .inr (by simpa using fun z => this ⟨e, by omega⟩)
    · exact .inl (by simpa using e)
theorem ixV_fr0 {q : Rat} {z : D} : ixV (frD q) 0 z ↔ z = .int q.num := by
  show atI [D.int q.num, D.int q.den] 0 = some z ↔ _
  rw [atI_0]
  constructor
  · intro h; cases h; rfl
  · rintro rfl; rfl
theorem ixV_fr1 {q : Rat} {z : D} : ixV (frD q) 1 z ↔ z = .int q.den := by
  show atI [D.int q.num, D.int q.den] 1 = some z ↔ _
  rw [atI_1]
  constructor
  · intro h; cases h; rfl
  · rintro rfl; rfl
end DL

namespace DL
open PySem L2
/-! ### points, curves; what the laws draw -/
def ptD (x y : Rat) : D := .tup [frD x, frD y]
def crD (a b c : Int) : D := .tup [.int a, .int b, .int c]
theorem ixV_pt0 {x y : Rat} {z : D} : ixV (ptD x y) 0 z ↔ z = frD x := by
  show atI [frD x, frD y] 0 = some z ↔ _
  rw [atI_0]
  constructor
  · intro h; cases h; rfl
  · rintro rfl; rfl
theorem ixV_pt1 {x y : Rat} {z : D} : ixV (ptD x y) 1 z ↔ z = frD y := by
  show atI [frD x, frD y] 1 = some z ↔ _
  rw [atI_1]
  constructor
  · intro h; cases h; rfl
  · rintro rfl; rfl
theorem ptD_inj {x y u v : Rat} : ptD x y = ptD u v ↔ x = u ∧ y = v := by
  unfold ptD
  simp only [D.tup.injEq, List.cons.injEq, frD_inj, and_true]
theorem crD_inj {a b c d e f : Int} : crD a b c = crD d e f ↔ a = d ∧ b = e ∧ c = f := by
  unfold crD
  simp only [D.tup.injEq, List.cons.injEq, D.int.injEq, and_true]
/-- the least common lower number -/
def low (x y : Rat) : Int := (x.den * y.den : Int) / (Int.gcd x.den y.den : Int)
theorem low_dvd_left (x y : Rat) : (x.den : Int) ∣ low x y := by
  unfold low
  rw [Int.mul_ediv_assoc _ (Int.gcd_dvd_right _ _)]
  exact Int.dvd_mul_right _ _
theorem low_dvd_right (x y : Rat) : (y.den : Int) ∣ low x y := by
  unfold low
  rw [Int.mul_comm, Int.mul_ediv_assoc _ (Int.gcd_dvd_left _ _)]
  exact Int.dvd_mul_right _ _
def forOne (x y : Rat) : D := .tup [.int (low x y), .int (x.num * (low x y / x.den)), .int (y.num * (low x y / y.den))]
def up (x y : Rat) : Int := x.num * (low x y / x.den)
def up2 (x y : Rat) : Int := y.num * (low x y / y.den)
def sizeQ (x y : Rat) : Int := max (max ((low x y).natAbs : Int) ((up x y).natAbs : Int)) ((up2 x y).natAbs : Int)
theorem den_pos {q : Rat} : (0 : Int) < q.den := by
  have := q.den_nz
  omega
theorem low_pos (x y : Rat) : 0 < low x y := by
  unfold low
  have h1 : (0 : Int) < x.den * y.den := Int.mul_pos den_pos den_pos
  have h2 : ((Int.gcd x.den y.den : Int)) ∣ (x.den * y.den : Int) := Int.dvd_trans (Int.gcd_dvd_left _ _) (Int.dvd_mul_right _ _)
  have h3 : 0 < (Int.gcd (x.den : Int) y.den : Int) := by
    have := gcd_pos (u := (x.den : Int)) (l := (y.den : Int)) den_ne
    omega
  obtain ⟨k, hk⟩ := h2
  rw [hk, Int.mul_ediv_cancel_left _ (by omega)]
  rw [hk] at h1
  exact Int.pos_of_mul_pos_right h1 (by omega)
theorem low_lt {x y : Rat} {m n : Nat} (hx : Bd x m) (hy : Bd y n) : (low x y).natAbs < 2 ^ (m + n) := by
  have h := mul_lt_pow hx.den' hy.den'
  unfold low
  have h2 : ((Int.gcd x.den y.den : Int)) ∣ (x.den * y.den : Int) := Int.dvd_trans (Int.gcd_dvd_left _ _) (Int.dvd_mul_right _ _)
  rw [Int.natAbs_ediv_of_dvd h2]
  exact Nat.lt_of_le_of_lt (Nat.div_le_self _ _) h
/-- the cells of the script, and what is mixed of them -/
def cellOf (ns : List Int) (k : Nat) : Int := ns.getD k 0
def mixOf (c p m : Int) : Int := (c * 48271 % p) * (c * 48271 % p + 7) % p % m
theorem mixOf_nonneg {c p m : Int} (h : 0 < m) : 0 ≤ mixOf c p m := Int.emod_nonneg _ (by omega)
theorem mixOf_lt {c p m : Int} (h : 0 < m) : mixOf c p m < m := Int.emod_lt_of_pos _ h
def numOf (c m : Int) : Int := if mixOf c 9949 (2 * m) - m < 0 then mixOf c 9949 (2 * m) - m else mixOf c 9949 (2 * m) - m + 1
theorem numOf_ne {c m : Int} (h : 0 < m) : numOf c m ≠ 0 := by
  unfold numOf
  split <;> omega
theorem numOf_abs {c m : Int} (h : 0 < m) : (numOf c m).natAbs ≤ m.natAbs := by
  have h1 := mixOf_nonneg (c := c) (p := 9949) (m := 2 * m) (by omega)
  have h2 := mixOf_lt (c := c) (p := 9949) (m := 2 * m) (by omega)
  unfold numOf
  split <;> omega
/-- the drawn curve -/
structure Crv where
  a : Int
  b : Int
  c : Int
def Crv.ok (r : Crv) : Prop := r.a ≠ 0 ∧ r.b ≠ 0 ∧ r.c ≠ 0 ∧ r.a.natAbs ≤ 30 ∧ r.b.natAbs ≤ 30 ∧ r.c.natAbs ≤ 30
def curveOf (t : Int) : Crv :=
  if 0 < mixOf t 9941 3 then
    let a := numOf t 5
    let b := numOf (t + 3) 5
    let x := mixOf t 9931 3
    let y := mixOf t 9929 3
    let c := a * x * x + b * y * y
    ⟨a, b, if c = 0 ∨ (30 : Int) < c.natAbs then a else c⟩
  else ⟨numOf t 30, numOf (t + 3) 30, numOf (t + 5) 30⟩
theorem curveOf_ok (t : Int) : (curveOf t).ok := by
  unfold curveOf Crv.ok
  have a1 := numOf_ne (c := t) (m := 5) (by decide)
  have a2 := numOf_abs (c := t) (m := 5) (by decide)
  have b1 := numOf_ne (c := t + 3) (m := 5) (by decide)
  have b2 := numOf_abs (c := t + 3) (m := 5) (by decide)
  have c1 := numOf_ne (c := t) (m := 30) (by decide)
  have c2 := numOf_abs (c := t) (m := 30) (by decide)
  have d1 := numOf_ne (c := t + 3) (m := 30) (by decide)
  have d2 := numOf_abs (c := t + 3) (m := 30) (by decide)
  have e1 := numOf_ne (c := t + 5) (m := 30) (by decide)
  have e2 := numOf_abs (c := t + 5) (m := 30) (by decide)
  split
  · dsimp only
    refine ⟨a1, b1, ?_, by omega, by omega, ?_⟩
    · split <;> omega
    · split <;> omega
  · dsimp only
    exact ⟨c1, d1, e1, by omega, by omega, by omega⟩
def Crv.d (r : Crv) : D := crD r.a r.b r.c
end DL

namespace DL
open PySem L2
theorem num_eq (x : Rat) : (x.num : Rat) = x * ((x.den : Int) : Rat) := by
  have h : ((x.den : Int) : Rat) ≠ 0 := by
    intro e
    have := Rat.intCast_inj.mp (e.trans Rat.intCast_zero.symm)
    exact den_ne this
  have e : x = (x.num : Rat) / ((x.den : Int) : Rat) := by
    rw [← Rat.divInt_eq_div, Rat.num_divInt_den]
  have e2 : (x.num : Rat) / ((x.den : Int) : Rat) * ((x.den : Int) : Rat) = x * ((x.den : Int) : Rat) := by rw [← e]
  rw [Rat.div_mul_cancel h] at e2
  exact e2
theorem den_ne_q (x : Rat) : ((x.den : Int) : Rat) ≠ 0 := by
  intro e
  have := Rat.intCast_inj.mp (e.trans Rat.intCast_zero.symm)
  exact den_ne this
theorem on_iff (a b c : Int) (x y : Rat) : (a * x.num * x.num * y.den * y.den + b * y.num * y.num * x.den * x.den = c * x.den * x.den * y.den * y.den) ↔ (a : Rat) * (x * x) + b * (y * y) = c := by
  have h1 := num_eq x
  have h2 := num_eq y
  have d1 := den_ne_q x
  have d2 := den_ne_q y
  rw [← Rat.intCast_inj]
  simp only [Rat.intCast_add, Rat.intCast_mul]
  rw [h1, h2]
  generalize ((x.den : Int) : Rat) = p at *
  generalize ((y.den : Int) : Rat) = q at *
  generalize (a : Rat) = a' at *
  generalize (b : Rat) = b' at *
  generalize (c : Rat) = c' at *
  constructor
  · intro h
    have : (p * p * q * q) * (a' * (x * x) + b' * (y * y) - c') = 0 := by grind
    rcases Rat.mul_eq_zero.mp this with h | h
    · grind
    · grind
  · intro h
    grind
end DL

namespace DL
open PySem L2
/-! ### rings -/
def togX (d : Int) (x y u v : Rat) : Rat := x * u + ((0 - d : Int) : Rat) * (y * v)
def togY (d : Int) (x y u v : Rat) : Rat := x * v + u * y
/-- a common lower number, and the size of all three -/
def Cd (x y : Rat) (n : Nat) : Prop := ∃ X Y W : Int, W ≠ 0 ∧ x = Rat.divInt X W ∧ y = Rat.divInt Y W ∧ X.natAbs < 2 ^ n ∧ Y.natAbs < 2 ^ n ∧ W.natAbs < 2 ^ n
theorem Cd.x {x y : Rat} {n : Nat} (h : Cd x y n) : Bd x n := by
  obtain ⟨X, Y, W, h0, rfl, rfl, h1, h2, h3⟩ := h
  exact Bd.divInt h0 h1 h3
theorem Cd.y {x y : Rat} {n : Nat} (h : Cd x y n) : Bd y n := by
  obtain ⟨X, Y, W, h0, rfl, rfl, h1, h2, h3⟩ := h
  exact Bd.divInt h0 h2 h3
theorem Cd.le {x y : Rat} {m n : Nat} (h : Cd x y m) (i : m ≤ n) : Cd x y n := by
  obtain ⟨X, Y, W, h0, e1, e2, h1, h2, h3⟩ := h
  exact ⟨X, Y, W, h0, e1, e2, lt_pow_le h1 i, lt_pow_le h2 i, lt_pow_le h3 i⟩
theorem Cd.one {n : Nat} (h : 0 < n) : Cd 1 0 n := by
  have z : 1 < 2 ^ n := Nat.one_lt_two_pow (by omega)
  refine ⟨1, 0, 1, by decide, by decide +kernel, by decide +kernel, z, by simp; omega, z⟩
theorem Cd.neg {x y : Rat} {n : Nat} (h : Cd x y n) : Cd x (-y) n := by
  obtain ⟨X, Y, W, h0, e1, e2, h1, h2, h3⟩ := h
  exact ⟨X, -Y, W, h0, e1, by rw [e2, Rat.neg_divInt], h1, by rw [Int.natAbs_neg]; exact h2, h3⟩
theorem wz {W V : Int} (hW : W ≠ 0) (hV : V ≠ 0) : W * V ≠ 0 := Int.mul_ne_zero hW hV
theorem Cd.tog {d : Int} {x y u v : Rat} {m n b : Nat} (h : Cd x y m) (k : Cd u v n) (hd : d.natAbs < 2 ^ b) : Cd (togX d x y u v) (togY d x y u v) (m + n + b + 1) := by
  obtain ⟨X, Y, W, hW, rfl, rfl, h1, h2, h3⟩ := h
  obtain ⟨U, V, Z, hZ, rfl, rfl, k1, k2, k3⟩ := k
  have e1 : Rat.divInt X W * Rat.divInt U Z = Rat.divInt (X * U) (W * Z) := Rat.divInt_mul_divInt _ _
  have e2 : Rat.divInt Y W * Rat.divInt V Z = Rat.divInt (Y * V) (W * Z) := Rat.divInt_mul_divInt _ _
  have e3 : Rat.divInt X W * Rat.divInt V Z = Rat.divInt (X * V) (W * Z) := Rat.divInt_mul_divInt _ _
  have e4 : Rat.divInt U Z * Rat.divInt Y W = Rat.divInt (U * Y) (W * Z) := by rw [Rat.divInt_mul_divInt, Int.mul_comm Z W]
  have e5 : ((0 - d : Int) : Rat) * Rat.divInt (Y * V) (W * Z) = Rat.divInt ((0 - d) * (Y * V)) (W * Z) := by
    have := Rat.divInt_mul_divInt (0 - d) (Y * V) (d₁ := 1) (d₂ := W * Z)
    rw [Int.one_mul] at this
    rw [← this, ← Rat.num_divInt_den (((0 - d : Int)) : Rat), Rat.num_intCast, Rat.den_intCast]
    rfl
  have add : ∀ A B : Int, Rat.divInt A (W * Z) + Rat.divInt B (W * Z) = Rat.divInt (A + B) (W * Z) := fun A B => by
    rw [Rat.divInt_add_divInt _ _ (wz hW hZ) (wz hW hZ), ← Int.add_mul, Rat.divInt_mul_right (wz hW hZ)]
  refine ⟨X * U + (0 - d) * (Y * V), X * V + U * Y, W * Z, wz hW hZ, ?_, ?_, ?_, ?_, ?_⟩
  · unfold togX; rw [e1, e2, e5, add]
  · unfold togY; rw [e3, e4, add]
  · refine add_lt_pow (lt_pow_le (mul_lt_pow h1 k1) (by omega)) ?_
    have q := mul_lt_pow (a := 0 - d) (b := Y * V) (m := b) (n := m + n) (by omega) (mul_lt_pow h2 k2)
    rw [Nat.add_comm] at q
    exact q
  · refine lt_pow_le (add_lt_pow (mul_lt_pow h1 k2) ?_) (by omega)
    have q := mul_lt_pow k1 h2
    rw [Nat.add_comm] at q
    exact q
  · exact lt_pow_le (mul_lt_pow h3 k3) (by omega)
/-- so often together -/
def oft (d : Int) (x y : Rat) : Nat → Rat × Rat
  | 0 => (1, 0)
  | n + 1 => (togX d (oft d x y n).1 (oft d x y n).2 x y, togY d (oft d x y n).1 (oft d x y n).2 x y)
theorem oft_cd {d : Int} {x y : Rat} {m b : Nat} (h : Cd x y m) (hm : 0 < m) (hd : d.natAbs < 2 ^ b) : ∀ n, Cd (oft d x y n).1 (oft d x y n).2 ((n + 1) * (m + b + 1))
  | 0 => Cd.one (by omega)
  | n + 1 => by
    refine ((oft_cd h hm hd n).tog h hd).le ?_
    rw [Nat.add_mul (n + 1) 1]
    omega
def oftI (d : Int) (x y : Rat) (k : Int) : Rat × Rat := if k < 0 then ((oft d x y k.natAbs).1, -(oft d x y k.natAbs).2) else oft d x y k.natAbs
def turnsD (d : Int) (x y : Rat) : Option Nat := (List.range 12).find? fun i => decide (oft d x y (i + 1) = (1, 0))
def optD : Option Nat → D
  | some i => .int (i + 1)
  | none => .non
def onR (d : Int) (x y : Rat) : Prop := x * x + (d : Rat) * (y * y) = 1
theorem onR.tog {d : Int} {x y u v : Rat} (h : onR d x y) (k : onR d u v) : onR d (togX d x y u v) (togY d x y u v) := by
  unfold onR togX togY at *
  rw [Rat.intCast_sub]
  generalize (d : Rat) = e at *
  have z : ((0 : Int) : Rat) = 0 := Rat.intCast_zero
  rw [z]
  grind
end DL
namespace DL
open PySem L2
theorem eqD_pt (x y u v : Rat) : eqD (ptD x y) (ptD u v) = (decide (x = u) && decide (y = v)) := by
  have h : eqD (ptD x y) (ptD u v) = (eqD (frD x) (frD u) && (eqD (frD y) (frD v) && true)) := by
    unfold eqD ptD
    simp [D.py, D.pys, PyData.eqv, PyData.eqvAll]
  rw [h, eqD_fr, eqD_fr, Bool.and_true]
theorem ok_pt (x y : Rat) : (ptD x y).ok = true := rfl
end DL
namespace DL
open PySem L2
theorem divInt_eq {A L : Int} {q : Rat} (hL : L ≠ 0) (h : (A : Rat) = q * (L : Rat)) : Rat.divInt A L = q := by
  have hL' : (L : Rat) ≠ 0 := fun e => hL (Rat.intCast_inj.mp (e.trans Rat.intCast_zero.symm))
  rw [Rat.divInt_eq_div, h, Rat.mul_div_cancel hL']
theorem togX_div (d : Int) (x y u v : Rat) : Rat.divInt (x.num * u.num * y.den * v.den - d * y.num * v.num * x.den * u.den) (x.den * u.den * y.den * v.den) = togX d x y u v := by
  refine divInt_eq (Int.mul_ne_zero (Int.mul_ne_zero (Int.mul_ne_zero den_ne den_ne) den_ne) den_ne) ?_
  unfold togX
  simp only [Rat.intCast_mul, Rat.intCast_sub]
  rw [num_eq x, num_eq y, num_eq u, num_eq v, Rat.intCast_zero]
  grind
theorem togY_div (d : Int) (x y u v : Rat) : Rat.divInt (x.num * v.num * y.den * u.den + u.num * y.num * x.den * v.den) (x.den * v.den * y.den * u.den) = togY d x y u v := by
  refine divInt_eq (Int.mul_ne_zero (Int.mul_ne_zero (Int.mul_ne_zero den_ne den_ne) den_ne) den_ne) ?_
  unfold togY
  simp only [Rat.intCast_mul, Rat.intCast_add]
  rw [num_eq x, num_eq y, num_eq u, num_eq v]
  grind
theorem ring_pt {d m n : Int} (h : n * n + d * m * m ≠ 0) : onR d (Rat.divInt (n * n - d * m * m) (n * n + d * m * m)) (Rat.divInt (2 * m * n) (n * n + d * m * m)) := by
  have hL' : ((n * n + d * m * m : Int) : Rat) ≠ 0 := fun e => h (Rat.intCast_inj.mp (e.trans Rat.intCast_zero.symm))
  unfold onR
  rw [Rat.divInt_eq_div, Rat.divInt_eq_div]
  simp only [Rat.intCast_mul, Rat.intCast_sub, Rat.intCast_add] at hL' ⊢
  have e2 : ((2 : Int) : Rat) = 2 := rfl
  rw [e2]
  generalize (d : Rat) = a at *
  generalize (m : Rat) = b at *
  generalize (n : Rat) = c at *
  grind
/-- a fraction written by a positive divisor -/
theorem fr_pos {u l : Int} (h : 0 < l) : (D.tup [.int (u / (Int.gcd u l : Int)), .int (l / (Int.gcd u l : Int))]) = frD (Rat.divInt u l) := by
  have e1 := fr_num (u := u) (l := l) (by omega)
  have e2 := fr_den (u := u) (l := l) (by omega)
  unfold byOf at e1 e2
  rw [if_neg (by omega), Int.fdiv_eq_ediv_of_nonneg _ (by omega)] at e1 e2
  rw [e1, e2]
  rfl
theorem fr_any {u l : Int} (h : l ≠ 0) : (D.tup [.int (u.fdiv (byOf u l)), .int (l.fdiv (byOf u l))]) = frD (Rat.divInt u l) := by
  rw [fr_num h, fr_den h]
  rfl
theorem gcd_lt {u l : Int} {n : Nat} (h : l ≠ 0) (hl : l.natAbs < 2 ^ n) : (Int.gcd u l : Int).natAbs < 2 ^ n := by
  rw [Int.natAbs_natCast]
  exact Nat.lt_of_le_of_lt (Nat.le_of_dvd (by omega) (Int.gcd_dvd_natAbs_right u l)) hl
theorem gcd_posI {u l : Int} (h : l ≠ 0) : (0 : Int) < (Int.gcd u l : Int) := by
  have := gcd_pos (u := u) h
  omega
end DL
namespace DL
open PySem L2
theorem two_get {α : Type} {a b x : α} {i : Nat} (h : [a, b][i]? = some x) : (i = 0 ∧ x = a) ∨ (i = 1 ∧ x = b) := by
  match i, h with
  | 0, h => cases h; exact .inl ⟨rfl, rfl⟩
  | 1, h => cases h; exact .inr ⟨rfl, rfl⟩
theorem take2_0 {α : Type} (a b : α) : [a, b].take 0 = [] := rfl
theorem take2_1 {α : Type} (a b : α) : [a, b].take 1 = [a] := rfl
theorem take2_2 {α : Type} (a b : α) : [a, b].take 2 = [a, b] := rfl
end DL
namespace DL
open PySem L2
def homeP (d : Int) (x y : Rat) : D → Bool
  | .int n => decide (oft d x y n.toNat = (1, 0))
  | _ => false
theorem home_first (d : Int) (x y : Rat) : ∃ t, ((rng 1 13).filter (homeP d x y)).map id ++ [D.non] = optD (turnsD d x y) :: t := by
  have h : ((rng 1 13).filter (homeP d x y)).map id = ((List.range 12).filter fun i => decide (oft d x y (i + 1) = (1, 0))).map fun (i : Nat) => D.int (i + 1) := by
    unfold rng
    rw [List.filter_map, List.map_id, show (13 - 1 : Int).toNat = 12 from rfl]
    have e1 : (fun (i : Nat) => D.int (1 + (i : Int))) = fun (i : Nat) => D.int (i + 1) := funext fun i => by rw [Int.add_comm]
    have e2 : (homeP d x y ∘ fun (i : Nat) => D.int ((i : Int) + 1)) = fun (i : Nat) => decide (oft d x y (i + 1) = (1, 0)) := funext fun i => by
      show decide (oft d x y ((i : Int) + 1).toNat = (1, 0)) = _
      rw [show ((i : Int) + 1).toNat = i + 1 by omega]
    rw [e1, e2]
  rw [h]
  have hf : turnsD d x y = ((List.range 12).filter fun i => decide (oft d x y (i + 1) = (1, 0))).head? := by
    rw [List.head?_filter]
    rfl
  rw [hf]
  generalize List.filter _ _ = l
  cases l with
  | nil => exact ⟨[], rfl⟩
  | cons a l => exact ⟨_, rfl⟩
end DL

namespace DL
open PySem L2
/-! ### the ring's group -/
abbrev P2 := Rat × Rat
def tog (d : Int) (p q : P2) : P2 := (togX d p.1 p.2 q.1 q.2, togY d p.1 p.2 q.1 q.2)
def bk (p : P2) : P2 := (p.1, -p.2)
def pD (p : P2) : D := ptD p.1 p.2
def onP (d : Int) (p : P2) : Prop := onR d p.1 p.2
def CdP (p : P2) (n : Nat) : Prop := Cd p.1 p.2 n
theorem tog_comm (d : Int) (p q : P2) : tog d p q = tog d q p := by
  unfold tog togX togY
  refine Prod.ext ?_ ?_ <;> grind
theorem tog_assoc (d : Int) (p q r : P2) : tog d (tog d p q) r = tog d p (tog d q r) := by
  unfold tog togX togY
  refine Prod.ext ?_ ?_ <;> grind
theorem tog_one (d : Int) (p : P2) : tog d (1, 0) p = p := by
  unfold tog togX togY
  refine Prod.ext ?_ ?_ <;> grind
theorem tog_one' (d : Int) (p : P2) : tog d p (1, 0) = p := by rw [tog_comm, tog_one]
theorem bk_tog (d : Int) (p q : P2) : bk (tog d p q) = tog d (bk p) (bk q) := by
  unfold tog togX togY bk
  refine Prod.ext ?_ ?_ <;> grind
theorem bk_bk (p : P2) : bk (bk p) = p := by
  unfold bk
  refine Prod.ext ?_ ?_ <;> grind
theorem bk_one : bk (1, 0) = (1, 0) := by decide +kernel
theorem onP.bk {d : Int} {p : P2} (h : onP d p) : tog d p (bk p) = (1, 0) := by
  unfold onP onR at h
  unfold tog togX togY DL.bk
  rw [Rat.intCast_sub]
  generalize (d : Rat) = e at *
  rw [Rat.intCast_zero]
  refine Prod.ext ?_ ?_ <;> grind
theorem onP.tog {d : Int} {p q : P2} (h : onP d p) (k : onP d q) : onP d (tog d p q) := onR.tog h k
theorem onP.one {d : Int} : onP d (1, 0) := by
  unfold onP onR
  grind
def pw (d : Int) (p : P2) (n : Nat) : P2 := oft d p.1 p.2 n
def pwI (d : Int) (p : P2) (k : Int) : P2 := oftI d p.1 p.2 k
theorem pw_zero (d : Int) (p : P2) : pw d p 0 = (1, 0) := rfl
theorem pw_succ (d : Int) (p : P2) (n : Nat) : pw d p (n + 1) = tog d (pw d p n) p := rfl
theorem pwI_eq (d : Int) (p : P2) (k : Int) : pwI d p k = if k < 0 then bk (pw d p k.natAbs) else pw d p k.natAbs := rfl
theorem pw_add (d : Int) (p : P2) (m : Nat) : ∀ n, pw d p (m + n) = tog d (pw d p m) (pw d p n)
  | 0 => by rw [pw_zero, tog_one']; rfl
  | n + 1 => by rw [← Nat.add_assoc, pw_succ, pw_add d p m n, pw_succ, tog_assoc]
theorem pw_tog (d : Int) (p q : P2) : ∀ n, pw d (tog d p q) n = tog d (pw d p n) (pw d q n)
  | 0 => by rw [pw_zero, pw_zero, pw_zero, tog_one]
  | n + 1 => by
    rw [pw_succ, pw_succ, pw_succ, pw_tog d p q n, tog_assoc, tog_assoc, ← tog_assoc d (pw d q n) p q, tog_comm d (pw d q n) p, tog_assoc d p]
theorem pw_on {d : Int} {p : P2} (h : onP d p) : ∀ n, onP d (pw d p n)
  | 0 => onP.one
  | n + 1 => (pw_on h n).tog h
theorem pw_mul {d : Int} {p : P2} {m : Nat} (h : pw d p m = (1, 0)) : ∀ k, pw d p (m * k) = (1, 0)
  | 0 => rfl
  | k + 1 => by rw [Nat.mul_succ, pw_add, pw_mul h k, h, tog_one]
theorem pw_sub {d : Int} {p : P2} (h : onP d p) (n k : Nat) : tog d (pw d p (n + k)) (bk (pw d p n)) = pw d p k := by
  rw [pw_add, tog_comm d (pw d p n), tog_assoc, (pw_on h n).bk, tog_one']
theorem pwI_add {d : Int} {p : P2} (h : onP d p) (m n : Int) : pwI d p (m + n) = tog d (pwI d p m) (pwI d p n) := by
  have key : ∀ a b : Nat, tog d (pw d p a) (bk (pw d p b)) = pwI d p ((a : Int) - b) := fun a b => by
    rw [pwI_eq]
    split
    · obtain ⟨k, rfl⟩ : ∃ k, b = a + k := ⟨b - a, by omega⟩
      rw [show ((a : Int) - ((a + k : Nat) : Int)).natAbs = k by omega, ← pw_sub h a k, bk_tog, bk_bk, tog_comm]
    · obtain ⟨k, rfl⟩ : ∃ k, a = b + k := ⟨a - b, by omega⟩
      rw [show (((b + k : Nat) : Int) - b).natAbs = k by omega, pw_sub h b k]
  rw [pwI_eq d p m, pwI_eq d p n]
  split <;> split
  · rw [pwI_eq, if_pos (by omega), ← bk_tog, ← pw_add, show (m + n).natAbs = m.natAbs + n.natAbs by omega]
  · rw [tog_comm, key, show ((n.natAbs : Int) - m.natAbs) = m + n by omega]
  · rw [key, show ((m.natAbs : Int) - n.natAbs) = m + n by omega]
  · rw [pwI_eq, if_neg (by omega), ← pw_add, show (m + n).natAbs = m.natAbs + n.natAbs by omega]
theorem pwI_nat (d : Int) (p : P2) (n : Nat) : pwI d p n = pw d p n := by
  rw [pwI_eq, if_neg (by omega), Int.natAbs_natCast]
theorem eqD_pD (p q : P2) : eqD (pD p) (pD q) = decide (p = q) := by
  unfold pD
  rw [eqD_pt, ← Bool.decide_and]
  exact decide_eq_decide.mpr Prod.ext_iff.symm
theorem CdP.tog {d : Int} {p q : P2} {m n b : Nat} (h : CdP p m) (k : CdP q n) (hd : d.natAbs < 2 ^ b) : CdP (tog d p q) (m + n + b + 1) := Cd.tog h k hd
theorem CdP.bk {p : P2} {n : Nat} (h : CdP p n) : CdP (bk p) n := Cd.neg h
theorem CdP.le {p : P2} {m n : Nat} (h : CdP p m) (i : m ≤ n) : CdP p n := Cd.le h i
theorem CdP.pw {d : Int} {p : P2} {m b : Nat} (h : CdP p m) (hm : 0 < m) (hd : d.natAbs < 2 ^ b) (n : Nat) : CdP (pw d p n) ((n + 1) * (m + b + 1)) := oft_cd h hm hd n
theorem CdP.pwI {d : Int} {p : P2} {m b : Nat} (h : CdP p m) (hm : 0 < m) (hd : d.natAbs < 2 ^ b) (k : Int) : CdP (pwI d p k) ((k.natAbs + 1) * (m + b + 1)) := by
  rw [pwI_eq]
  split
  · exact (h.pw hm hd _).bk
  · exact h.pw hm hd _
theorem CdP.one {n : Nat} (h : 0 < n) : CdP (1, 0) n := Cd.one h
theorem turnsD_some {d : Int} {p : P2} {i : Nat} (h : turnsD d p.1 p.2 = some i) : i < 12 ∧ pw d p (i + 1) = (1, 0) := by
  unfold turnsD at h
  rw [List.find?_range_eq_some] at h
  refine ⟨by simpa using h.2.1, ?_⟩
  have := h.1
  rw [decide_eq_true_eq] at this
  exact this
theorem turnsD_minus (d : Int) : turnsD d (-1) 0 = some 1 := by
  have h1 : oft d (-1) 0 1 = (-1, 0) := by
    show (togX d 1 0 (-1) 0, togY d 1 0 (-1) 0) = _
    unfold togX togY
    refine Prod.ext ?_ ?_ <;> grind
  unfold turnsD
  rw [List.find?_range_eq_some]
  refine ⟨?_, by decide, fun j hj => ?_⟩
  · have : oft d (-1) 0 (1 + 1) = (1, 0) := by
      show (togX d (oft d (-1) 0 1).1 (oft d (-1) 0 1).2 (-1) 0, togY d (oft d (-1) 0 1).1 (oft d (-1) 0 1).2 (-1) 0) = _
      rw [h1]
      unfold togX togY
      refine Prod.ext ?_ ?_ <;> grind
    simpa using this
  · obtain rfl : j = 0 := by omega
    rw [h1]
    decide +kernel
theorem turnsD_one (d : Int) : turnsD d 1 0 = some 0 := by
  have h1 : oft d 1 0 1 = (1, 0) := by
    show (togX d 1 0 1 0, togY d 1 0 1 0) = _
    unfold togX togY
    refine Prod.ext ?_ ?_ <;> grind
  unfold turnsD
  rw [List.find?_range_eq_some]
  exact ⟨by simpa using h1, by decide, fun j hj => absurd hj (Nat.not_lt_zero _)⟩
end DL

namespace DL
open PySem L2
local macro_rules | `(tactic| walk_at "dl") => `(tactic| simp only [dVar, dOwn, dC, dOp, dTst, dNeg, dTru, dTruL, dAnd, dOr, dNot, dIf, dAndV, dOrV, dNotV, dOrT, dChain, dNil, dCons, dTup, dLs, dCall, dC1, dIsi, dIsi2, dZipT, dZipL, dPart, dNoPart, dSl, dNext, dSeq, dBrk, dCnt, dRet, dDrop, dIfS, dSet, dSetO, dPar, dAsg, dApp, dExt, dPop, dFrz, dSetAt, dSeqL, dSeqT, dRng1, dRng2, gN, dGNil, dGCons, gTp, dFz, dLst, dYes,
  gI, gIC, gIB, gEq, gNe, gIsN, gNotN, gIsB, gNotB, gAbs, gLen, gLenL, gTupL, gAll, gAny, gMaxL, gMinL, gIx, gIxL, gSlT, gCatT, gCat, gRep, gAddS, gLstT, gIn, gInS, gEqL, gNeL,
  startD, wipeD, List.map_cons, List.map_nil, List.cons_append, List.nil_append, List.length_cons, List.length_nil, List.replicate_succ, List.replicate_zero, Nat.reduceAdd, Nat.reduceSub, Nat.zero_add, Nat.add_zero, Nat.sub_self, Nat.add_one_sub_one,
  List.getElem?_cons_zero, List.getElem?_cons_succ, List.set_cons_zero, List.set_cons_succ, Option.some.injEq, Sl.d.injEq, Sl.own.injEq, D.int.injEq, D.bl.injEq, D.str.injEq, D.tup.injEq, D.lst.injEq, List.cons.injEq, reduceCtorEq,
  and_assoc, exists_eq_left, exists_eq_left', exists_eq_right, exists_eq_right', exists_and_left, exists_and_right, and_true, true_and, false_and, and_false, exists_false, or_false, false_or, true_or, or_true, if_true, if_false, decide_eq_true_eq, Bool.not_eq_true', decide_eq_false_iff_not, Bool.false_eq_true, Bool.not_true, Bool.not_false, not_true_eq_false, not_false_eq_true, forall_const, ne_eq,
  ixV_tup, ixV_lst, ixV_scr, ixV_fr0, ixV_fr1, ixV_pt0, ixV_pt1, atI_0, atI_1, atI_2, lenV_tup, lenV_lst, lenV_scr, truV_non, truV_bl, truV_int, truV_tup, truV_lst, tyD_int, tyD_bl, tyD_str, tyD_tup, tyD_lst, tyD_non, kb_NoneType_int, kb_NoneType_bool, kb_NoneType_str, kb_NoneType_tuple, kb_NoneType_list, kb_bool_int, kb_bool_bool, kb_bool_str, kb_bool_tuple, kb_bool_list, kb_int_int, kb_int_bool, kb_int_str, kb_int_tuple, kb_int_list, kb_str_int, kb_str_bool, kb_str_str, kb_str_tuple, kb_str_list, kb_tuple_int, kb_tuple_bool, kb_tuple_str, kb_tuple_tuple, kb_tuple_list, kb_list_int, kb_list_bool, kb_list_str, kb_list_tuple, kb_list_list, eqD_int, eqD_bl, eqD_str, ok_int, ok_bl, ok_str, D.isNon, Bool.or_true, Bool.or_false, Bool.true_or, Bool.false_or, sz0, sz1, sz2, sz3, sz4, sz5, sz6, sz7, sz8, sz9, sz10, sz11, sz12, sz13, sz14, sz15, sz16, sz17, sz18, sz19, sz20, sz24, sz30, sz32])
local macro_rules | `(tactic| walk_at "st") => `(tactic| simp only [dSeq, List.set_cons_zero, List.set_cons_succ, startD, List.map_cons, List.map_nil, List.cons_append, List.nil_append, List.length_cons, List.length_nil, List.replicate_succ, List.replicate_zero, Nat.reduceAdd, Nat.reduceSub, Nat.zero_add, Nat.add_zero, Nat.sub_self, Nat.add_one_sub_one])

def topS (i : Nat) : Stmt := PySem.Challenge.pw_curvefracs_k13_whole_rings.main.body.getD i (.Pass ⟨0, 0, 0, 0⟩)
abbrev s_common : Stmt := topS 1
abbrev s_fraction : Stmt := topS 2
abbrev s_added : Stmt := topS 3
abbrev s_multiplied : Stmt := topS 4
abbrev s_turned : Stmt := topS 5
abbrev s_times : Stmt := topS 6
abbrev s_together : Stmt := topS 10
abbrev s_back : Stmt := topS 11
abbrev s_often : Stmt := topS 12
abbrev s_turns : Stmt := topS 13
abbrev s_is_on : Stmt := topS 15
abbrev s__law_cell : Stmt := topS 17
abbrev s__law_mix : Stmt := topS 18
abbrev s__law_common : Stmt := topS 19
abbrev s__law_number : Stmt := topS 20
abbrev s__law_ring_point : Stmt := topS 21
abbrev s_law : Stmt := topS 22
/-- what stands at the top -/
structure Top (K : PySem.W.Frag) (mg : Str → Option Value) : Prop where
  f_common : Df K mg "common" s_common ["one", "other"]
  f_fraction : Df K mg "fraction" s_fraction ["upper", "lower"]
  f_added : Df K mg "added" s_added ["one", "other"]
  f_multiplied : Df K mg "multiplied" s_multiplied ["one", "other"]
  f_turned : Df K mg "turned" s_turned ["one"]
  f_times : Df K mg "times" s_times ["number", "one"]
  f_together : Df K mg "together" s_together ["d", "one", "other"]
  f_back : Df K mg "back" s_back ["one"]
  f_often : Df K mg "often" s_often ["d", "point", "many"]
  f_turns : Df K mg "turns" s_turns ["d", "point"]
  f_is_on : Df K mg "is_on" s_is_on ["curve", "point"]
  f__law_cell : Df K mg "_law_cell" s__law_cell ["_law_script", "_law_k"]
  f__law_mix : Df K mg "_law_mix" s__law_mix ["_law_cell_here", "_law_prime", "_law_many"]
  f__law_common : Df K mg "_law_common" s__law_common ["_law_one", "_law_other"]
  f__law_number : Df K mg "_law_number" s__law_number ["_law_cell_here", "_law_most"]
  f__law_ring_point : Df K mg "_law_ring_point" s__law_ring_point ["_law_cell_here", "_law_d"]
  f_law : Df K mg "law" s_law ["_law_script"]
  z_abs : mg "abs" = none
  z_len : mg "len" = none
  z_range : mg "range" = none
  z_tuple : mg "tuple" = none
  c_FIRST : ∃ a, mg "FIRST" = some (.ref a) ∧ ∀ F, At K F (.ref a) (.tup [(.tup [(.int 1), (.int 1)]), (.tup [(.int 0), (.int 1)])])
  c_MOST_TURNS : ∃ t, mg "MOST_TURNS" = some (.int 12 t)

def FIRST_D : D := (.tup [(.tup [(.int 1), (.int 1)]), (.tup [(.int 0), (.int 1)])])
theorem Top.g_FIRST {X : Cx} {F0 H0 : Hp} {pos : Pos} (T : Top X.K X.mg) (hg : Gl X "FIRST") : PD X F0 H0 (.Name "FIRST" pos) (dC FIRST_D) := by
  obtain ⟨a, h, q⟩ := T.c_FIRST
  exact pd_glob (v := .ref a) hg h rfl q
theorem Top.g_MOST_TURNS {X : Cx} {F0 H0 : Hp} {pos : Pos} (T : Top X.K X.mg) (hg : Gl X "MOST_TURNS") : PD X F0 H0 (.Name "MOST_TURNS" pos) (dC (.int 12)) := by
  obtain ⟨t, h⟩ := T.c_MOST_TURNS
  exact pd_glob (v := .int 12) hg h ⟨t, rfl⟩ fun _ => .int _

section
variable {P : Program} {w : World} {K : PySem.W.Frag} {mg : Str → Option Value} {base : Heap}

abbrev N_common : List Str := ["one", "other"]
theorem sc_common : FnScope N_common ["one", "other"] (defScope s_common) := ⟨rfl, rfl, rfl, by decide +kernel, rfl, by decide +kernel, by decide +kernel⟩


def t_common : List D → (D → Prop) → Prop := fun ds Q => ∃ a b : Int, ds = [.int a, .int b] ∧ Q (.int (Int.gcd a b))
theorem C_common (T : Top K mg) : Has P w K mg base 1 "common" 2 t_common := by
  refine Df.has T.f_common sc_common rfl (fun cdv f A outer s H E F0 hr => (pssd_cons (psd_par (i := 0) (j := 1) rfl sc_common.nd rfl rfl (by decide) rfl rfl (pad_cons (pj_callB c_abs rfl T.z_abs (by decide +kernel) (dv 0)) (pad_cons (pj_callB c_abs rfl T.z_abs (by decide +kernel) (dv 1)) pad_nil)))
  ((pssd_cons (psd_while PassesOwn.never (ptd_tru (dv 1)) (pssd_one (psd_par (i := 0) (j := 1) rfl sc_common.nd rfl rfl (by decide) rfl rfl (pad_cons (dv 1) (pad_cons (pj_op o_mod (dv 0) (dv 1)) pad_nil)))))
  ((pssd_one (psd_ret (dv 0)))))))) ?_
  rintro ds Q hl ⟨a, b, rfl, q⟩
  walk_at "dl"
  refine dWhile_st (fun (p : Nat × Nat) => [some (.d (.int p.1)), some (.d (.int p.2))]) (fun p => Nat.gcd p.1 p.2 = Int.gcd a b) (fun p => p.2) (a.natAbs, b.natAbs) rfl rfl ?_
  rintro ⟨x, y⟩ hg
  walk_at "dl"
  dsimp only at hg
  by_cases h : y = 0
  · subst h
    rw [Nat.gcd_zero_right] at hg
    subst hg
    simpa using q
  · rw [if_pos (by first | omega | (simp; omega))]
    refine ⟨by omega, x % y, Nat.mod_lt _ (by omega), (y, x % y), rfl, Int.natCast_emod x y |>.symm, ?_, rfl⟩
    rw [← hg, Nat.gcd_comm x y, Nat.gcd_rec y x, Nat.gcd_comm]

abbrev N_fraction : List Str := ["upper", "lower", "by"]
theorem sc_fraction : FnScope N_fraction ["upper", "lower"] (defScope s_fraction) := ⟨rfl, rfl, rfl, by decide +kernel, rfl, by decide +kernel, by decide +kernel⟩


def t_fraction : List D → (D → Prop) → Prop := fun ds Q => ∃ u l : Int, ds = [.int u, .int l] ∧ l ≠ 0 ∧ l.natAbs < 2 ^ 9000 ∧ Q (frD (Rat.divInt u l))
theorem C_fraction (T : Top K mg) : Has P w K mg base 2 "fraction" 2 t_fraction := by
  refine Df.has T.f_fraction sc_fraction rfl (fun cdv f A outer s H E F0 hr => (pssd_cons (psd_set (i := 2) sc_fraction.nd rfl (by first | exact Or.inl rfl | exact Or.inr rfl) (pd_fn (C_common T) (hr.mono (by decide)) (pad_cons (dv 0) (pad_cons (dv 1) pad_nil))))
  ((pssd_cons (psd_if (ptd_cmp o_lt (dv 1) pd_int) (pssd_one (psd_set (i := 2) sc_fraction.nd rfl (by first | exact Or.inl rfl | exact Or.inr rfl) (pj_op o_sub pd_int (dv 2)))) pssd_nil)
  ((pssd_one (psd_ret (pd_tup (pad_cons (pj_op o_divN (dv 0) (dv 2)) (pad_cons (pj_op o_divN (dv 1) (dv 2)) pad_nil)))))))))) ?_
  rintro ds Q hl ⟨u, l, rfl, h0, hb, q⟩
  walk_at "dl"
  simp only [t_common]
  walk_at "dl"
  have hg : (byOf u l).natAbs < 2 ^ 9000 := by
    rw [byOf_abs]
    exact Nat.lt_of_le_of_lt (Nat.le_of_dvd (by omega) (Int.gcd_dvd_natAbs_right u l)) hb
  have d1 : ∀ i, DivOk i (byOf u l) := fun i => divok (byOf_ne h0) 9000 hg
  have q' : Q (.tup [.int (u.fdiv (byOf u l)), .int (l.fdiv (byOf u l))]) := by
    rw [fr_num h0, fr_den h0]
    exact q
  unfold byOf at d1 q'
  by_cases h : l < 0
  · simp only [if_pos h] at d1 q' ⊢
    exact ⟨d1 _, d1 _, q'⟩
  · simp only [if_neg h] at d1 q' ⊢
    exact ⟨d1 _, d1 _, q'⟩

abbrev N_added : List Str := ["one", "other"]
theorem sc_added : FnScope N_added ["one", "other"] (defScope s_added) := ⟨rfl, rfl, rfl, by decide +kernel, rfl, by decide +kernel, by decide +kernel⟩


def t_added : List D → (D → Prop) → Prop := fun ds Q => ∃ p q : Rat, ds = [frD p, frD q] ∧ Bd p 4000 ∧ Bd q 4000 ∧ Q (frD (p + q))
theorem C_added (T : Top K mg) : Has P w K mg base 3 "added" 2 t_added := by
  refine Df.has T.f_added sc_added rfl (fun cdv f A outer s H E F0 hr => (pssd_one (psd_ret (pd_fn (C_fraction T) (hr.mono (by decide)) (pad_cons (pj_op o_add (pj_op o_mul (pj_ix o_ix (dv 0) pd_int) (pj_ix o_ix (dv 1) pd_int)) (pj_op o_mul (pj_ix o_ix (dv 1) pd_int) (pj_ix o_ix (dv 0) pd_int))) (pad_cons (pj_op o_mul (pj_ix o_ix (dv 0) pd_int) (pj_ix o_ix (dv 1) pd_int)) pad_nil)))))) ?_
  rintro ds Q hl ⟨x, y, rfl, hx, hy, q⟩
  walk_at "dl"
  refine ⟨mulok 4000 4000 hx.1 hy.den', mulok 4000 4000 hy.1 hx.den', mulok 4000 4000 hx.den' hy.den', _, _, rfl, den_mul_ne, lt_pow_le (mul_lt_pow hx.den' hy.den') (by decide), ?_⟩
  rw [add_divInt]
  exact q

abbrev N_multiplied : List Str := ["one", "other"]
theorem sc_multiplied : FnScope N_multiplied ["one", "other"] (defScope s_multiplied) := ⟨rfl, rfl, rfl, by decide +kernel, rfl, by decide +kernel, by decide +kernel⟩


def t_multiplied : List D → (D → Prop) → Prop := fun ds Q => ∃ p q : Rat, ds = [frD p, frD q] ∧ Bd p 4000 ∧ Bd q 4000 ∧ Q (frD (p * q))
theorem C_multiplied (T : Top K mg) : Has P w K mg base 3 "multiplied" 2 t_multiplied := by
  refine Df.has T.f_multiplied sc_multiplied rfl (fun cdv f A outer s H E F0 hr => (pssd_one (psd_ret (pd_fn (C_fraction T) (hr.mono (by decide)) (pad_cons (pj_op o_mul (pj_ix o_ix (dv 0) pd_int) (pj_ix o_ix (dv 1) pd_int)) (pad_cons (pj_op o_mul (pj_ix o_ix (dv 0) pd_int) (pj_ix o_ix (dv 1) pd_int)) pad_nil)))))) ?_
  rintro ds Q hl ⟨x, y, rfl, hx, hy, q⟩
  walk_at "dl"
  refine ⟨mulok 4000 4000 hx.1 hy.1, mulok 4000 4000 hx.den' hy.den', _, _, rfl, den_mul_ne, lt_pow_le (mul_lt_pow hx.den' hy.den') (by decide), ?_⟩
  rw [mul_divInt]
  exact q

abbrev N_turned : List Str := ["one"]
theorem sc_turned : FnScope N_turned ["one"] (defScope s_turned) := ⟨rfl, rfl, rfl, by decide +kernel, rfl, by decide +kernel, by decide +kernel⟩


def t_turned : List D → (D → Prop) → Prop := fun ds Q => ∃ p : Rat, ds = [frD p] ∧ Q (frD (-p))
theorem C_turned (T : Top K mg) : Has P w K mg base 1 "turned" 1 t_turned := by
  refine Df.has T.f_turned sc_turned rfl (fun cdv f A outer s H E F0 hr => (pssd_one (psd_ret (pd_tup (pad_cons (pj_op o_sub pd_int (pj_ix o_ix (dv 0) pd_int)) (pad_cons (pj_ix o_ix (dv 0) pd_int) pad_nil)))))) ?_
  rintro ds Q hl ⟨x, rfl, q⟩
  walk_at "dl"
  rw [fr_neg]
  exact q

abbrev N_times : List Str := ["number", "one"]
theorem sc_times : FnScope N_times ["number", "one"] (defScope s_times) := ⟨rfl, rfl, rfl, by decide +kernel, rfl, by decide +kernel, by decide +kernel⟩


def t_times : List D → (D → Prop) → Prop := fun ds Q => ∃ (z : Int) (q : Rat), ds = [.int z, frD q] ∧ z.natAbs < 2 ^ 4000 ∧ Bd q 4000 ∧ Q (frD (z * q))
theorem C_times (T : Top K mg) : Has P w K mg base 3 "times" 2 t_times := by
  refine Df.has T.f_times sc_times rfl (fun cdv f A outer s H E F0 hr => (pssd_one (psd_ret (pd_fn (C_fraction T) (hr.mono (by decide)) (pad_cons (pj_op o_mul (dv 0) (pj_ix o_ix (dv 1) pd_int)) (pad_cons (pj_ix o_ix (dv 1) pd_int) pad_nil)))))) ?_
  rintro ds Q hl ⟨x, y, rfl, hx, hy, q⟩
  walk_at "dl"
  refine ⟨mulok 4000 4000 hx hy.1, _, _, rfl, den_ne, lt_pow_le hy.den' (by decide), ?_⟩
  rw [times_divInt]
  exact q

abbrev N_together : List Str := ["d", "one", "other", "x", "y"]
theorem sc_together : FnScope N_together ["d", "one", "other"] (defScope s_together) := ⟨rfl, rfl, rfl, by decide +kernel, rfl, by decide +kernel, by decide +kernel⟩


def t_together : List D → (D → Prop) → Prop := fun ds Q => ∃ (d : Int) (x y u v : Rat), ds = [.int d, ptD x y, ptD u v] ∧ d.natAbs < 2 ^ 64 ∧ Bd x 900 ∧ Bd y 900 ∧ Bd u 900 ∧ Bd v 900 ∧ Q (ptD (togX d x y u v) (togY d x y u v))
theorem C_together (T : Top K mg) : Has P w K mg base 4 "together" 3 t_together := by
  refine Df.has T.f_together sc_together rfl (fun cdv f A outer s H E F0 hr => (pssd_cons (psd_set (i := 3) sc_together.nd rfl (by first | exact Or.inl rfl | exact Or.inr rfl) (pd_fn (C_added T) (hr.mono (by decide)) (pad_cons (pd_fn (C_multiplied T) (hr.mono (by decide)) (pad_cons (pj_ix o_ix (dv 1) pd_int) (pad_cons (pj_ix o_ix (dv 2) pd_int) pad_nil))) (pad_cons (pd_fn (C_times T) (hr.mono (by decide)) (pad_cons (pj_op o_sub pd_int (dv 0)) (pad_cons (pd_fn (C_multiplied T) (hr.mono (by decide)) (pad_cons (pj_ix o_ix (dv 1) pd_int) (pad_cons (pj_ix o_ix (dv 2) pd_int) pad_nil))) pad_nil))) pad_nil))))
  ((pssd_cons (psd_set (i := 4) sc_together.nd rfl (by first | exact Or.inl rfl | exact Or.inr rfl) (pd_fn (C_added T) (hr.mono (by decide)) (pad_cons (pd_fn (C_multiplied T) (hr.mono (by decide)) (pad_cons (pj_ix o_ix (dv 1) pd_int) (pad_cons (pj_ix o_ix (dv 2) pd_int) pad_nil))) (pad_cons (pd_fn (C_multiplied T) (hr.mono (by decide)) (pad_cons (pj_ix o_ix (dv 2) pd_int) (pad_cons (pj_ix o_ix (dv 1) pd_int) pad_nil))) pad_nil))))
  ((pssd_one (psd_ret (pd_tup (pad_cons (dv 3) (pad_cons (dv 4) pad_nil)))))))))) ?_
  rintro ds Q hl ⟨d, x, y, u, v, rfl, hd, hx, hy, hu, hv, q⟩
  walk_at "dl"
  have hd' : (0 - d).natAbs < 2 ^ 64 := by omega
  refine ⟨_, _, rfl, hx.le (by decide), hu.le (by decide), ?_⟩
  refine ⟨_, _, rfl, hy.le (by decide), hv.le (by decide), ?_⟩
  refine ⟨_, _, rfl, lt_pow_le hd' (by decide), (hy.mul hv).le (by decide), ?_⟩
  refine ⟨_, _, rfl, (hx.mul hu).le (by decide), ((Bd.int hd' (by decide)).mul (hy.mul hv)).le (by decide), ?_⟩
  refine ⟨_, _, rfl, hx.le (by decide), hv.le (by decide), ?_⟩
  refine ⟨_, _, rfl, hu.le (by decide), hy.le (by decide), ?_⟩
  refine ⟨_, _, rfl, (hx.mul hv).le (by decide), (hu.mul hy).le (by decide), ?_⟩
  walk_at "dl"
  exact q

abbrev N_back : List Str := ["one"]
theorem sc_back : FnScope N_back ["one"] (defScope s_back) := ⟨rfl, rfl, rfl, by decide +kernel, rfl, by decide +kernel, by decide +kernel⟩


def t_back : List D → (D → Prop) → Prop := fun ds Q => ∃ x y : Rat, ds = [ptD x y] ∧ Q (ptD x (-y))
theorem C_back (T : Top K mg) : Has P w K mg base 2 "back" 1 t_back := by
  refine Df.has T.f_back sc_back rfl (fun cdv f A outer s H E F0 hr => (pssd_one (psd_ret (pd_tup (pad_cons (pj_ix o_ix (dv 0) pd_int) (pad_cons (pd_fn (C_turned T) (hr.mono (by decide)) (pad_cons (pj_ix o_ix (dv 0) pd_int) pad_nil)) pad_nil)))))) ?_
  rintro ds Q hl ⟨x, y, rfl, q⟩
  walk_at "dl"
  refine ⟨_, rfl, ?_⟩
  exact q

abbrev N_often : List Str := ["d", "point", "many", "found", "turn"]
theorem sc_often : FnScope N_often ["d", "point", "many"] (defScope s_often) := ⟨rfl, rfl, rfl, by decide +kernel, rfl, by decide +kernel, by decide +kernel⟩


def t_often : List D → (D → Prop) → Prop := fun ds Q => ∃ (d : Int) (x y : Rat) (k : Int), ds = [.int d, ptD x y, .int k] ∧ d.natAbs < 2 ^ 10 ∧ Cd x y 50 ∧ k.natAbs ≤ 12 ∧ Q (ptD (oftI d x y k).1 (oftI d x y k).2)
theorem C_often (T : Top K mg) : Has P w K mg base 5 "often" 3 t_often := by
  refine Df.has T.f_often sc_often rfl (fun cdv f A outer s H E F0 hr => (pssd_cons (psd_set (i := 3) sc_often.nd rfl (by first | exact Or.inl rfl | exact Or.inr rfl) (T.g_FIRST rfl))
  ((pssd_cons (psd_for PassesOwn.never rfl (pid_rng1 rfl T.z_range (pj_callB c_abs rfl T.z_abs (by decide +kernel) (dv 2))) (pgd_name (vs := allV) (i := 4) sc_often.nd rfl (by first | exact Or.inl rfl | exact Or.inr rfl)) (pssd_one (psd_set (i := 3) sc_often.nd rfl (by first | exact Or.inl rfl | exact Or.inr rfl) (pd_fn (C_together T) (hr.mono (by decide)) (pad_cons (dv 0) (pad_cons (dv 3) (pad_cons (dv 1) pad_nil)))))))
  ((pssd_cons (psd_if (ptd_cmp o_lt (dv 2) pd_int) (pssd_one (psd_ret (pd_fn (C_back T) (hr.mono (by decide)) (pad_cons (dv 3) pad_nil)))) pssd_nil)
  ((pssd_one (psd_ret (dv 3)))))))))) ?_
  rintro ds Q hl ⟨d, x, y, k, rfl, hd, hc, hk, q⟩
  walk_at "dl"
  refine dFor_i (rng 0 k.natAbs) (fun Q h => ?_) (fun i ρ => ∃ o4, ρ = [some (.d (.int d)), some (.d (ptD x y)), some (.d (.int k)), some (.d (ptD (oft d x y i).1 (oft d x y i).2)), o4]) ⟨_, rfl⟩ ?_ ?_
  · walk_at "dl"
    exact ⟨by omega, by omega, h⟩
  · rintro i z ρ hz ⟨o4, rfl⟩
    obtain ⟨rfl, hi⟩ := rng_get hz
    walk_at "dl"
    have b1 := (oft_cd hc (by decide) hd i).le (n := 900) (by
      have : i ≤ 11 := by omega
      have := Nat.mul_le_mul_right (50 + 10 + 1) (show i + 1 ≤ 12 by omega)
      omega)
    refine ⟨_, _, _, _, _, rfl, lt_pow_le hd (by decide), b1.x, b1.y, hc.x.le (by decide), hc.y.le (by decide), ?_⟩
    walk_at "dl"
    exact rfl
  · rintro ρ ⟨o4, rfl⟩
    rw [rng_len, show (((k.natAbs : Int)) - 0).toNat = k.natAbs by omega]
    walk_at "dl"
    unfold oftI at q
    split <;> rename_i h
    · rw [if_pos h] at q
      exact ⟨_, _, rfl, q⟩
    · rw [if_neg h] at q
      exact q

abbrev N_turns : List Str := ["d", "point", "found", "many"]
theorem sc_turns : FnScope N_turns ["d", "point"] (defScope s_turns) := ⟨rfl, rfl, rfl, by decide +kernel, rfl, by decide +kernel, by decide +kernel⟩


def t_turns : List D → (D → Prop) → Prop := fun ds Q => ∃ (d : Int) (x y : Rat), ds = [.int d, ptD x y] ∧ d.natAbs < 2 ^ 10 ∧ Cd x y 50 ∧ Q (optD (turnsD d x y))
theorem C_turns (T : Top K mg) : Has P w K mg base 5 "turns" 2 t_turns := by
  refine Df.has T.f_turns sc_turns rfl (fun cdv f A outer s H E F0 hr => (pssd_cons (psd_set (i := 2) sc_turns.nd rfl (by first | exact Or.inl rfl | exact Or.inr rfl) (T.g_FIRST rfl))
  ((pssd_cons (psd_for PassesOwn.never rfl (pid_rng2 rfl T.z_range pd_int (pj_op o_add (T.g_MOST_TURNS rfl) pd_int)) (pgd_name (vs := allV) (i := 3) sc_turns.nd rfl (by first | exact Or.inl rfl | exact Or.inr rfl)) (pssd_cons (psd_set (i := 2) sc_turns.nd rfl (by first | exact Or.inl rfl | exact Or.inr rfl) (pd_fn (C_together T) (hr.mono (by decide)) (pad_cons (dv 0) (pad_cons (dv 2) (pad_cons (dv 1) pad_nil)))))
  ((pssd_one (psd_if (ptd_cmp (o_eq hr.units) (dv 2) (T.g_FIRST rfl)) (pssd_one (psd_ret (dv 3))) pssd_nil)))))
  ((pssd_one (psd_ret pd_non))))))) ?_
  rintro ds Q hl ⟨d, x, y, rfl, hd, hc, q⟩
  walk_at "dl"
  have hF : FIRST_D = ptD 1 0 := rfl
  refine dFor_i (rng 1 13) (fun Q h => ?_) (fun i ρ => (∀ j, j < i → oft d x y (j + 1) ≠ (1, 0)) ∧ ∃ o3, ρ = [some (.d (.int d)), some (.d (ptD x y)), some (.d (ptD (oft d x y i).1 (oft d x y i).2)), o3]) ⟨fun j hj => absurd hj (Nat.not_lt_zero _), _, rfl⟩ ?_ ?_
  · walk_at "dl"
    exact ⟨by decide, by decide, by decide, by decide, h⟩
  · rintro i z ρ hz ⟨hno, o3, rfl⟩
    obtain ⟨rfl, hi⟩ := rng_get hz
    walk_at "dl"
    have b1 := (oft_cd hc (by decide) hd i).le (n := 900) (by
      have := Nat.mul_le_mul_right (50 + 10 + 1) (show i + 1 ≤ 12 by omega)
      omega)
    refine ⟨_, _, _, _, _, rfl, lt_pow_le hd (by decide), b1.x, b1.y, hc.x.le (by decide), hc.y.le (by decide), ?_⟩
    walk_at "dl"
    show (ptD (oft d x y (i + 1)).1 (oft d x y (i + 1)).2).ok = true ∧ FIRST_D.ok = true ∧ _
    refine ⟨rfl, rfl, ?_⟩
    show if eqD (ptD (oft d x y (i + 1)).1 (oft d x y (i + 1)).2) FIRST_D = true then _ else _
    rw [hF, eqD_pt]
    by_cases h : (oft d x y (i + 1)).1 = 1 ∧ (oft d x y (i + 1)).2 = 0
    · rw [if_pos (by simpa using h)]
      have e : turnsD d x y = some i := by
        unfold turnsD
        rw [List.find?_range_eq_some]
        refine ⟨by simp; exact Prod.ext h.1 h.2, List.mem_range.mpr (by omega), fun j hj => by simpa using hno j hj⟩
      rw [e] at q
      have e2 : (1 : Int) + i = i + 1 := by omega
      rw [e2]
      exact q
    · rw [if_neg (by simpa using h)]
      refine ⟨fun j hj => ?_, rfl⟩
      by_cases e : j = i
      · subst e
        intro z
        exact h ⟨congrArg Prod.fst z, congrArg Prod.snd z⟩
      · exact hno j (by omega)
  · rintro ρ ⟨hno, o3, rfl⟩
    rw [rng_len] at hno
    have e : turnsD d x y = none := by
      unfold turnsD
      rw [List.find?_range_eq_none]
      intro j hj
      simpa using hno j (by omega)
    rw [e] at q
    walk_at "dl"
    exact q

abbrev N_is_on : List Str := ["curve", "point", "a", "b", "c", "x", "y"]
theorem sc_is_on : FnScope N_is_on ["curve", "point"] (defScope s_is_on) := ⟨rfl, rfl, rfl, by decide +kernel, rfl, by decide +kernel, by decide +kernel⟩


def t_is_on : List D → (D → Prop) → Prop := fun ds Q => ∃ (a b c : Int) (x y : Rat), ds = [crD a b c, ptD x y] ∧ a.natAbs < 2 ^ 64 ∧ b.natAbs < 2 ^ 64 ∧ Bd x 900 ∧ Bd y 900 ∧ Q (.bl (decide ((a : Rat) * (x * x) + b * (y * y) = c)))
theorem C_is_on (T : Top K mg) : Has P w K mg base 4 "is_on" 2 t_is_on := by
  refine Df.has T.f_is_on sc_is_on rfl (fun cdv f A outer s H E F0 hr => (pssd_cons (psd_asg (dv 0) (pgd_tup (n := 3) rfl (pgsd_cons (pgd_name (vs := allV) (i := 2) sc_is_on.nd rfl (by first | exact Or.inl rfl | exact Or.inr rfl)) (pgsd_cons (pgd_name (vs := allV) (i := 3) sc_is_on.nd rfl (by first | exact Or.inl rfl | exact Or.inr rfl)) (pgsd_cons (pgd_name (vs := allV) (i := 4) sc_is_on.nd rfl (by first | exact Or.inl rfl | exact Or.inr rfl)) pgsd_nil)))))
  ((pssd_cons (psd_asg (dv 1) (pgd_tup (n := 2) rfl (pgsd_cons (pgd_name (vs := allV) (i := 5) sc_is_on.nd rfl (by first | exact Or.inl rfl | exact Or.inr rfl)) (pgsd_cons (pgd_name (vs := allV) (i := 6) sc_is_on.nd rfl (by first | exact Or.inl rfl | exact Or.inr rfl)) pgsd_nil))))
  ((pssd_one (psd_ret (pd_cmp (o_eq hr.units) (pd_fn (C_added T) (hr.mono (by decide)) (pad_cons (pd_fn (C_times T) (hr.mono (by decide)) (pad_cons (dv 2) (pad_cons (pd_fn (C_multiplied T) (hr.mono (by decide)) (pad_cons (dv 5) (pad_cons (dv 5) pad_nil))) pad_nil))) (pad_cons (pd_fn (C_times T) (hr.mono (by decide)) (pad_cons (dv 3) (pad_cons (pd_fn (C_multiplied T) (hr.mono (by decide)) (pad_cons (dv 6) (pad_cons (dv 6) pad_nil))) pad_nil))) pad_nil))) (pd_tup (pad_cons (dv 4) (pad_cons pd_int pad_nil))))))))))) ?_
  rintro ds Q hl ⟨a, b, c, x, y, rfl, ha, hb, hx, hy, q⟩
  unfold crD ptD
  walk_at "dl"
  refine ⟨_, _, rfl, hx.le (by decide), hx.le (by decide), ?_⟩
  refine ⟨_, _, rfl, lt_pow_le ha (by decide), (hx.mul hx).le (by decide), ?_⟩
  refine ⟨_, _, rfl, hy.le (by decide), hy.le (by decide), ?_⟩
  refine ⟨_, _, rfl, lt_pow_le hb (by decide), (hy.mul hy).le (by decide), ?_⟩
  refine ⟨_, _, rfl, ((Bd.int ha (by decide)).mul (hx.mul hx)).le (by decide), ((Bd.int hb (by decide)).mul (hy.mul hy)).le (by decide), ?_⟩
  dsimp only
  rw [fr_int, eqD_fr]
  exact ⟨ok_fr _, ok_fr _, q⟩

abbrev N__law_cell : List Str := ["_law_script", "_law_k"]
theorem sc__law_cell : FnScope N__law_cell ["_law_script", "_law_k"] (defScope s__law_cell) := ⟨rfl, rfl, rfl, by decide +kernel, rfl, by decide +kernel, by decide +kernel⟩


def t__law_cell : List D → (D → Prop) → Prop := fun ds Q => ∃ (ns : List Int) (k : Int), ds = [.scr ns, .int k] ∧ 0 ≤ k ∧ ns.length ≤ 63 ∧ Q (.int (cellOf ns k.toNat))
theorem C__law_cell (T : Top K mg) : Has P w K mg base 1 "_law_cell" 2 t__law_cell := by
  refine Df.has T.f__law_cell sc__law_cell rfl (fun cdv f A outer s H E F0 hr => (pssd_cons (psd_if (ptd_cmp o_lt (dv 1) (pj_callB c_len rfl T.z_len (by decide +kernel) (dv 0))) (pssd_one (psd_ret (pj_ix o_ix (dv 0) (dv 1)))) pssd_nil)
  ((pssd_one (psd_ret pd_int))))) ?_
  rintro ds Q hl ⟨ns, k, rfl, h0, hn, q⟩
  walk_at "dl"
  unfold cellOf at q
  by_cases h : k < ns.length
  · rw [if_pos h]
    have hk : k.toNat < ns.length := by omega
    have ek : k = ((k.toNat : Nat) : Int) := by omega
    refine ⟨_, ⟨_, by rw [ek]; exact atI_nat (List.getElem?_eq_getElem hk), rfl⟩, ?_⟩
    rw [List.getD_eq_getElem?_getD, List.getElem?_eq_getElem hk] at q
    exact q
  · rw [if_neg h]
    rw [List.getD_eq_getElem?_getD, List.getElem?_eq_none (by omega)] at q
    exact q

abbrev N__law_mix : List Str := ["_law_cell_here", "_law_prime", "_law_many", "_law_blend"]
theorem sc__law_mix : FnScope N__law_mix ["_law_cell_here", "_law_prime", "_law_many"] (defScope s__law_mix) := ⟨rfl, rfl, rfl, by decide +kernel, rfl, by decide +kernel, by decide +kernel⟩


def t__law_mix : List D → (D → Prop) → Prop := fun ds Q => ∃ c p m : Int, ds = [.int c, .int p, .int m] ∧ 0 < p ∧ p < 2 ^ 60 ∧ 0 < m ∧ Q (.int (mixOf c p m))
theorem C__law_mix (T : Top K mg) : Has P w K mg base 1 "_law_mix" 3 t__law_mix := by
  refine Df.has T.f__law_mix sc__law_mix rfl (fun cdv f A outer s H E F0 hr => (pssd_cons (psd_set (i := 3) sc__law_mix.nd rfl (by first | exact Or.inl rfl | exact Or.inr rfl) (pj_op o_mod (pj_op o_mul (dv 0) pd_int) (dv 1)))
  ((pssd_one (psd_ret (pj_op o_mod (pj_op o_mod (pj_op o_mul (dv 3) (pj_op o_add (dv 3) pd_int)) (dv 1)) (dv 2))))))) ?_
  rintro ds Q hl ⟨c, p, m, rfl, hp, hp2, hm, q⟩
  walk_at "dl"
  have h1 := Int.emod_nonneg (c * 48271) (show p ≠ 0 by omega)
  have h2 := Int.emod_lt_of_pos (c * 48271) hp
  exact ⟨.inr (.inl (by decide)), hp, .inl (by omega), hp, hm, q⟩

abbrev N__law_common : List Str := ["_law_one", "_law_other"]
theorem sc__law_common : FnScope N__law_common ["_law_one", "_law_other"] (defScope s__law_common) := ⟨rfl, rfl, rfl, by decide +kernel, rfl, by decide +kernel, by decide +kernel⟩


def t__law_common : List D → (D → Prop) → Prop := fun ds Q => ∃ a b : Int, ds = [.int a, .int b] ∧ Q (.int (Int.gcd a b))
theorem C__law_common (T : Top K mg) : Has P w K mg base 1 "_law_common" 2 t__law_common := by
  refine Df.has T.f__law_common sc__law_common rfl (fun cdv f A outer s H E F0 hr => (pssd_cons (psd_par (i := 0) (j := 1) rfl sc__law_common.nd rfl rfl (by decide) rfl rfl (pad_cons (pj_callB c_abs rfl T.z_abs (by decide +kernel) (dv 0)) (pad_cons (pj_callB c_abs rfl T.z_abs (by decide +kernel) (dv 1)) pad_nil)))
  ((pssd_cons (psd_while PassesOwn.never (ptd_cmp o_gt (dv 1) pd_int) (pssd_one (psd_par (i := 0) (j := 1) rfl sc__law_common.nd rfl rfl (by decide) rfl rfl (pad_cons (dv 1) (pad_cons (pj_op o_mod (dv 0) (dv 1)) pad_nil)))))
  ((pssd_one (psd_ret (dv 0)))))))) ?_
  rintro ds Q hl ⟨a, b, rfl, q⟩
  walk_at "dl"
  refine dWhile_st (fun (p : Nat × Nat) => [some (.d (.int p.1)), some (.d (.int p.2))]) (fun p => Nat.gcd p.1 p.2 = Int.gcd a b) (fun p => p.2) (a.natAbs, b.natAbs) rfl rfl ?_
  rintro ⟨x, y⟩ hg
  walk_at "dl"
  dsimp only at hg
  by_cases h : y = 0
  · subst h
    rw [Nat.gcd_zero_right] at hg
    subst hg
    simpa using q
  · rw [if_pos (by first | omega | (simp; omega))]
    refine ⟨by omega, x % y, Nat.mod_lt _ (by omega), (y, x % y), rfl, Int.natCast_emod x y |>.symm, ?_, rfl⟩
    rw [← hg, Nat.gcd_comm x y, Nat.gcd_rec y x, Nat.gcd_comm]

abbrev N__law_number : List Str := ["_law_cell_here", "_law_most", "_law_found"]
theorem sc__law_number : FnScope N__law_number ["_law_cell_here", "_law_most"] (defScope s__law_number) := ⟨rfl, rfl, rfl, by decide +kernel, rfl, by decide +kernel, by decide +kernel⟩


def t__law_number : List D → (D → Prop) → Prop := fun ds Q => ∃ c m : Int, ds = [.int c, .int m] ∧ 0 < m ∧ m < 2 ^ 50 ∧ Q (.int (numOf c m))
theorem C__law_number (T : Top K mg) : Has P w K mg base 2 "_law_number" 2 t__law_number := by
  refine Df.has T.f__law_number sc__law_number rfl (fun cdv f A outer s H E F0 hr => (pssd_cons (psd_set (i := 2) sc__law_number.nd rfl (by first | exact Or.inl rfl | exact Or.inr rfl) (pj_op o_sub (pd_fn (C__law_mix T) (hr.mono (by decide)) (pad_cons (dv 0) (pad_cons pd_int (pad_cons (pj_op o_mul pd_int (dv 1)) pad_nil)))) (dv 1)))
  ((pssd_one (psd_ret (pd_if (ptd_cmp o_lt (dv 2) pd_int) (dv 2) (pj_op o_add (dv 2) pd_int))))))) ?_
  rintro ds Q hl ⟨c, m, rfl, hm, hm2, q⟩
  walk_at "dl"
  refine ⟨.inl (by decide), _, _, _, rfl, by decide, by decide, by omega, ?_⟩
  walk_at "dl"
  unfold numOf at q
  split <;> rename_i h
  · rw [if_pos h] at q; exact q
  · rw [if_neg h] at q; exact q

abbrev N__law_ring_point : List Str := ["_law_cell_here", "_law_d", "_law_m", "_law_n", "_law_lower", "_law_some", "_law_sign", "_law_found", "_law_upper", "_law_by"]
theorem sc__law_ring_point : FnScope N__law_ring_point ["_law_cell_here", "_law_d"] (defScope s__law_ring_point) := ⟨rfl, rfl, rfl, by decide +kernel, rfl, by decide +kernel, by decide +kernel⟩


def t__law_ring_point : List D → (D → Prop) → Prop := fun ds Q => ∃ c d : Int, ds = [.int c, .int d] ∧ d.natAbs ≤ 30 ∧ ∀ x y, onR d x y → Cd x y 20 → Q (ptD x y)
theorem C__law_ring_point (T : Top K mg) : Has P w K mg base 2 "_law_ring_point" 2 t__law_ring_point := by
  refine Df.has T.f__law_ring_point sc__law_ring_point rfl (fun cdv f A outer s H E F0 hr => (pssd_cons (psd_par (i := 2) (j := 3) rfl sc__law_ring_point.nd rfl rfl (by decide) rfl rfl (pad_cons (pj_op o_sub (pd_fn (C__law_mix T) (hr.mono (by decide)) (pad_cons (dv 0) (pad_cons pd_int (pad_cons pd_int pad_nil)))) pd_int) (pad_cons (pj_op o_add pd_int (pd_fn (C__law_mix T) (hr.mono (by decide)) (pad_cons (dv 0) (pad_cons pd_int (pad_cons pd_int pad_nil))))) pad_nil)))
  ((pssd_cons (psd_set (i := 4) sc__law_ring_point.nd rfl (by first | exact Or.inl rfl | exact Or.inr rfl) (pj_op o_add (pj_op o_mul (dv 3) (dv 3)) (pj_op o_mul (pj_op o_mul (dv 1) (dv 2)) (dv 2))))
  ((pssd_cons (psd_if (ptd_cmp (o_eq hr.units) (dv 4) pd_int) (pssd_one (psd_ret (pd_tup (pad_cons (pd_tup (pad_cons pd_int (pad_cons pd_int pad_nil))) (pad_cons (pd_tup (pad_cons pd_int (pad_cons pd_int pad_nil))) pad_nil))))) pssd_nil)
  ((pssd_cons (psd_set (i := 5) sc__law_ring_point.nd rfl (by first | exact Or.inl rfl | exact Or.inr rfl) (pd_tup (pad_cons (pj_op o_sub (pj_op o_mul (dv 3) (dv 3)) (pj_op o_mul (pj_op o_mul (dv 1) (dv 2)) (dv 2))) (pad_cons (pj_op o_mul (pj_op o_mul pd_int (dv 2)) (dv 3)) pad_nil))))
  ((pssd_cons (psd_set (i := 6) sc__law_ring_point.nd rfl (by first | exact Or.inl rfl | exact Or.inr rfl) (pd_if (ptd_cmp o_lt (dv 4) pd_int) (pd_neg pd_int) pd_int))
  ((pssd_cons (psd_setN (i := 7) sc__law_ring_point.nd rfl (by first | exact Or.inl rfl | exact Or.inr rfl) (pn_lst pad_nil))
  ((pssd_cons (psd_for PassesOwn.never rfl (pid_tup (dv 5)) (pgd_name (vs := allV) (i := 8) sc__law_ring_point.nd rfl (by first | exact Or.inl rfl | exact Or.inr rfl)) (pssd_cons (psd_set (i := 9) sc__law_ring_point.nd rfl (by first | exact Or.inl rfl | exact Or.inr rfl) (pj_op o_mul (dv 6) (pd_fn (C__law_common T) (hr.mono (by decide)) (pad_cons (dv 8) (pad_cons (dv 4) pad_nil)))))
  ((pssd_one (psd_app (i := 7) (pv 7) (pd_tup (pad_cons (pj_op o_divN (dv 8) (dv 9)) (pad_cons (pj_op o_divN (dv 4) (dv 9)) pad_nil))))))))
  ((pssd_one (psd_ret (pj_callTy c_tupL rfl T.z_tuple (by decide +kernel) (ov 7))))))))))))))))))) ?_
  rintro ds Q hl ⟨c, d, rfl, hd, q⟩
  walk_at "dl"
  refine ⟨_, _, _, rfl, by decide, by decide, by decide, ?_⟩
  walk_at "dl"
  refine ⟨_, _, _, rfl, by decide, by decide, by decide, ?_⟩
  walk_at "dl"
  have a1 := mixOf_nonneg (c := c) (p := 9829) (m := 13) (by decide)
  have a2 := mixOf_lt (c := c) (p := 9829) (m := 13) (by decide)
  have b1 := mixOf_nonneg (c := c) (p := 9817) (m := 6) (by decide)
  have b2 := mixOf_lt (c := c) (p := 9817) (m := 6) (by decide)
  obtain ⟨m, hm⟩ : ∃ m, m = mixOf c 9829 13 - 6 := ⟨_, rfl⟩
  obtain ⟨n, hn⟩ : ∃ n, n = 1 + mixOf c 9817 6 := ⟨_, rfl⟩
  rw [← hm, ← hn]
  have m1 : m.natAbs ≤ 6 := by omega
  have n1 : n.natAbs ≤ 6 := by omega
  clear hm hn a1 a2 b1 b2
  have dm : (d * m).natAbs ≤ 180 := by rw [Int.natAbs_mul]; exact Nat.mul_le_mul hd m1
  have dmm : (d * m * m).natAbs ≤ 1080 := by rw [Int.natAbs_mul]; exact Nat.mul_le_mul dm m1
  have nn : (n * n).natAbs ≤ 36 := by rw [Int.natAbs_mul]; exact Nat.mul_le_mul n1 n1
  have mn : (2 * m * n).natAbs ≤ 72 := by
    rw [Int.natAbs_mul]
    exact Nat.mul_le_mul (show (2 * m).natAbs ≤ 12 by omega) n1
  refine ⟨.inl (by omega), .inl (by omega), .inl (by omega), ?_⟩
  by_cases hz : n * n + d * m * m = 0
  · rw [hz, if_pos (by decide)]
    have e := q 1 0 (by unfold onR; grind) (Cd.one (by decide))
    exact e
  · rw [if_neg (by simpa using hz)]
    refine ⟨.inl (by omega), .inl (by omega), .inl (by omega), .inl (by omega), .inl (by omega), ?_⟩
    have hLb : (n * n + d * m * m).natAbs < 2 ^ 64 := by omega
    have ep := q _ _ (ring_pt hz) ⟨_, _, _, hz, rfl, rfl, by omega, by omega, by omega⟩
    generalize n * n + d * m * m = L at *
    generalize n * n - d * m * m = A at *
    generalize 2 * m * n = B at *
    split <;> rename_i hs
    all_goals (
      refine dFor_i [.int A, .int B] (fun Q h => ?_) (fun i ρ => ∃ o8 o9, ρ = [some (.d (.int c)), some (.d (.int d)), some (.d (.int m)), some (.d (.int n)), some (.d (.int L)), some (.d (.tup [.int A, .int B])), some (.d (.int (if L < 0 then -1 else 1))), some (.own ([frD (Rat.divInt A L), frD (Rat.divInt B L)].take i)), o8, o9]) ⟨none, none, by first | rw [if_pos hs]; rfl | rw [if_neg hs]; rfl⟩ ?_ ?_
      · walk_at "dl"
        exact h
      · have by_eq : ∀ U : Int, (if L < 0 then -1 else 1) * (Int.gcd U L : Int) = byOf U L := fun U => by
          unfold byOf
          split <;> omega
        have dk : ∀ U i : Int, DivOk i (byOf U L) := fun U i => divok (byOf_ne hz) 64 (by rw [byOf_abs]; have := gcd_lt (u := U) (n := 64) hz hLb; rwa [Int.natAbs_natCast] at this)
        rintro i x ρ hx ⟨o8, o9, rfl⟩
        rcases two_get hx with ⟨rfl, rfl⟩ | ⟨rfl, rfl⟩
        all_goals (
          walk_at "dl"
          refine ⟨_, _, rfl, ?_⟩
          walk_at "dl"
          simp only [by_eq]
          refine ⟨.inl (by split <;> decide), by first | (show (0 : Nat) < sizeLine; decide) | (show (1 : Nat) < sizeLine; decide), dk _ _, dk _ _, ?_⟩
          rw [fr_any hz]
          rfl)
      · rintro ρ ⟨o8, o9, rfl⟩
        walk_at "dl"
        exact ep)

abbrev N_law : List Str := ["_law_script", "_law_home", "_law_k", "_law_cell_here", "_law_d", "_law_one", "_law_other", "_law_third", "_law_both", "_law_many", "_law_much", "_law_by"]
theorem sc_law : FnScope N_law ["_law_script"] (defScope s_law) := ⟨rfl, rfl, rfl, by decide +kernel, rfl, by decide +kernel, by decide +kernel⟩


def t_law : List D → (D → Prop) → Prop := fun ds Q => ∃ ns : List Int, ds = [.scr ns] ∧ ns.length ≤ 63 ∧ Q (.bl true)
theorem u_tog {d : Int} {p q : P2} {m n : Nat} {Q : D → Prop} (hd : d.natAbs ≤ 30) (bp : CdP p m) (bq : CdP q n) (h : Q (pD (tog d p q))) (hm : m ≤ 900 := by omega) (hn : n ≤ 900 := by omega) : t_together [.int d, pD p, pD q] Q :=
  ⟨d, p.1, p.2, q.1, q.2, rfl, by omega, bp.x.le hm, bp.y.le hm, bq.x.le hn, bq.y.le hn, h⟩
theorem u_often {d : Int} {p : P2} {k : Int} {m : Nat} {Q : D → Prop} (hd : d.natAbs ≤ 30) (bp : CdP p m) (hk : k.natAbs ≤ 12) (h : Q (pD (pwI d p k))) (hm : m ≤ 50 := by omega) : t_often [.int d, pD p, .int k] Q :=
  ⟨d, p.1, p.2, k, rfl, by omega, bp.le hm, hk, h⟩
theorem u_back {p : P2} {Q : D → Prop} (h : Q (pD (bk p))) : t_back [pD p] Q := ⟨p.1, p.2, rfl, h⟩
theorem u_turns {d : Int} {p : P2} {m : Nat} {Q : D → Prop} (hd : d.natAbs ≤ 30) (bp : CdP p m) (h : Q (optD (turnsD d p.1 p.2))) (hm : m ≤ 50 := by omega) : t_turns [.int d, pD p] Q :=
  ⟨d, p.1, p.2, rfl, by omega, bp.le hm, h⟩
theorem u_ring {c d : Int} {Q : D → Prop} (hd : d.natAbs ≤ 30) (h : ∀ p : P2, onP d p → CdP p 20 → Q (pD p)) : t__law_ring_point [.int c, .int d] Q :=
  ⟨c, d, rfl, hd, fun x y r k => h (x, y) r k⟩
theorem u_on {d : Int} {p : P2} {m : Nat} {R : Prop} {A : Prop} (hd : d.natAbs ≤ 30) (r : onP d p) (bp : CdP p m) (h : R) (hm : m ≤ 900 := by omega) : t_is_on [.tup [.int 1, .int d, .int 1], pD p] fun e => ∃ k, e = .bl k ∧ if k = false then A else R := by
  refine ⟨1, d, 1, p.1, p.2, rfl, by decide, by omega, bp.x.le hm, bp.y.le hm, true, congrArg D.bl (decide_eq_true ?_), ?_⟩
  · have := r
    unfold onP onR at this
    rw [show ((1 : Int) : Rat) = 1 from rfl, Rat.one_mul]
    exact this
  · rw [if_neg (by decide)]
    exact h
theorem u_ne {p q : P2} {A R : Prop} (e : p = q) (h : R) : (pD p).ok = true ∧ (pD q).ok = true ∧ if eqD (pD p) (pD q) = false then A else R := by
  refine ⟨rfl, rfl, ?_⟩
  rw [eqD_pD, if_neg (by simpa using e)]
  exact h

theorem ok_law (T : Top K mg) {f : Addr} {fd : FuncData} (F : Fun K "law" "law" s_law f fd) : FnOk P w K mg base CX0 6 f fd ["_law_script"] (spD K 1 t_law) := by
  refine fnD F sc_law rfl (fun cdv A outer s H E F0 hr => (pssd_cons (psd_set (i := 1) sc_law.nd rfl (by first | exact Or.inl rfl | exact Or.inr rfl) (pd_tup (pad_cons (pd_tup (pad_cons pd_int (pad_cons pd_int pad_nil))) (pad_cons (pd_tup (pad_cons pd_int (pad_cons pd_int pad_nil))) pad_nil))))
  ((pssd_cons (psd_for PassesOwn.never rfl (pid_rng1 rfl T.z_range pd_int) (pgd_name (vs := allV) (i := 2) sc_law.nd rfl (by first | exact Or.inl rfl | exact Or.inr rfl)) (pssd_cons (psd_set (i := 3) sc_law.nd rfl (by first | exact Or.inl rfl | exact Or.inr rfl) (pj_op o_add (pd_fn (C__law_cell T) (hr.mono (by decide)) (pad_cons (dv 0) (pad_cons (dv 2) pad_nil))) (pj_op o_mul pd_int (dv 2))))
  ((pssd_cons (psd_set (i := 4) sc_law.nd rfl (by first | exact Or.inl rfl | exact Or.inr rfl) (pd_fn (C__law_number T) (hr.mono (by decide)) (pad_cons (dv 3) (pad_cons pd_int pad_nil))))
  ((pssd_cons (psd_par (i := 5) (j := 6) rfl sc_law.nd rfl rfl (by decide) rfl rfl (pad_cons (pd_fn (C__law_ring_point T) (hr.mono (by decide)) (pad_cons (pj_op o_add (dv 3) pd_int) (pad_cons (dv 4) pad_nil))) (pad_cons (pd_fn (C__law_ring_point T) (hr.mono (by decide)) (pad_cons (pj_op o_add (pd_fn (C__law_cell T) (hr.mono (by decide)) (pad_cons (dv 0) (pad_cons pd_int pad_nil))) (pj_op o_mul pd_int (dv 2))) (pad_cons (dv 4) pad_nil))) pad_nil)))
  ((pssd_cons (psd_set (i := 7) sc_law.nd rfl (by first | exact Or.inl rfl | exact Or.inr rfl) (pd_fn (C__law_ring_point T) (hr.mono (by decide)) (pad_cons (pj_op o_add (pd_fn (C__law_cell T) (hr.mono (by decide)) (pad_cons (dv 0) (pad_cons pd_int pad_nil))) (pj_op o_mul pd_int (dv 2))) (pad_cons (dv 4) pad_nil))))
  ((pssd_cons (psd_set (i := 8) sc_law.nd rfl (by first | exact Or.inl rfl | exact Or.inr rfl) (pd_fn (C_together T) (hr.mono (by decide)) (pad_cons (dv 4) (pad_cons (dv 5) (pad_cons (dv 6) pad_nil)))))
  ((pssd_cons (psd_if (PWD.pt (pwd_or (ptd_not (ptd_val (pd_fn (C_is_on T) (hr.mono (by decide)) (pad_cons (pd_tup (pad_cons pd_int (pad_cons (dv 4) (pad_cons pd_int pad_nil)))) (pad_cons (dv 5) pad_nil))))) (pwd_or (ptd_not (ptd_val (pd_fn (C_is_on T) (hr.mono (by decide)) (pad_cons (pd_tup (pad_cons pd_int (pad_cons (dv 4) (pad_cons pd_int pad_nil)))) (pad_cons (dv 8) pad_nil))))) (pwd_or1 (ptd_cmp (o_ne hr.units) (dv 8) (pd_fn (C_together T) (hr.mono (by decide)) (pad_cons (dv 4) (pad_cons (dv 6) (pad_cons (dv 5) pad_nil))))))))) (pssd_one (psd_ret pd_bl)) pssd_nil)
  ((pssd_cons (psd_if (ptd_cmp (o_ne hr.units) (pd_fn (C_together T) (hr.mono (by decide)) (pad_cons (dv 4) (pad_cons (dv 8) (pad_cons (dv 7) pad_nil)))) (pd_fn (C_together T) (hr.mono (by decide)) (pad_cons (dv 4) (pad_cons (dv 5) (pad_cons (pd_fn (C_together T) (hr.mono (by decide)) (pad_cons (dv 4) (pad_cons (dv 6) (pad_cons (dv 7) pad_nil)))) pad_nil))))) (pssd_one (psd_ret pd_bl)) pssd_nil)
  ((pssd_cons (psd_if (PWD.pt (pwd_or (ptd_cmp (o_ne hr.units) (pd_fn (C_together T) (hr.mono (by decide)) (pad_cons (dv 4) (pad_cons (dv 5) (pad_cons (pd_fn (C_back T) (hr.mono (by decide)) (pad_cons (dv 5) pad_nil)) pad_nil)))) (dv 1)) (pwd_or (ptd_cmp (o_ne hr.units) (pd_fn (C_together T) (hr.mono (by decide)) (pad_cons (dv 4) (pad_cons (dv 5) (pad_cons (dv 1) pad_nil)))) (dv 5)) (pwd_or1 (ptd_cmp (o_ne hr.units) (pd_fn (C_back T) (hr.mono (by decide)) (pad_cons (pd_fn (C_back T) (hr.mono (by decide)) (pad_cons (dv 5) pad_nil)) pad_nil)) (dv 5)))))) (pssd_one (psd_ret pd_bl)) pssd_nil)
  ((pssd_cons (psd_par (i := 9) (j := 10) rfl sc_law.nd rfl rfl (by decide) rfl rfl (pad_cons (pj_op o_sub (pd_fn (C__law_mix T) (hr.mono (by decide)) (pad_cons (dv 3) (pad_cons pd_int (pad_cons pd_int pad_nil)))) pd_int) (pad_cons (pj_op o_sub (pd_fn (C__law_mix T) (hr.mono (by decide)) (pad_cons (dv 3) (pad_cons pd_int (pad_cons pd_int pad_nil)))) pd_int) pad_nil)))
  ((pssd_cons (psd_if (ptd_cmp (o_ne hr.units) (pd_fn (C_together T) (hr.mono (by decide)) (pad_cons (dv 4) (pad_cons (pd_fn (C_often T) (hr.mono (by decide)) (pad_cons (dv 4) (pad_cons (dv 5) (pad_cons (dv 9) pad_nil)))) (pad_cons (pd_fn (C_often T) (hr.mono (by decide)) (pad_cons (dv 4) (pad_cons (dv 5) (pad_cons (dv 10) pad_nil)))) pad_nil)))) (pd_fn (C_often T) (hr.mono (by decide)) (pad_cons (dv 4) (pad_cons (dv 5) (pad_cons (pj_op o_add (dv 9) (dv 10)) pad_nil))))) (pssd_one (psd_ret pd_bl)) pssd_nil)
  ((pssd_cons (psd_if (PWD.pt (pwd_or (ptd_cmp (o_ne hr.units) (pd_fn (C_often T) (hr.mono (by decide)) (pad_cons (dv 4) (pad_cons (dv 8) (pad_cons pd_int pad_nil)))) (pd_fn (C_together T) (hr.mono (by decide)) (pad_cons (dv 4) (pad_cons (pd_fn (C_often T) (hr.mono (by decide)) (pad_cons (dv 4) (pad_cons (dv 5) (pad_cons pd_int pad_nil)))) (pad_cons (pd_fn (C_often T) (hr.mono (by decide)) (pad_cons (dv 4) (pad_cons (dv 6) (pad_cons pd_int pad_nil)))) pad_nil))))) (pwd_or1 (ptd_cmp (o_ne hr.units) (pd_fn (C_often T) (hr.mono (by decide)) (pad_cons (dv 4) (pad_cons (dv 5) (pad_cons pd_int pad_nil)))) (dv 5))))) (pssd_one (psd_ret pd_bl)) pssd_nil)
  ((pssd_cons (psd_if (PWD.pt (pwd_or (ptd_cmp (o_ne hr.units) (pd_fn (C_back T) (hr.mono (by decide)) (pad_cons (dv 8) pad_nil)) (pd_fn (C_together T) (hr.mono (by decide)) (pad_cons (dv 4) (pad_cons (pd_fn (C_back T) (hr.mono (by decide)) (pad_cons (dv 5) pad_nil)) (pad_cons (pd_fn (C_back T) (hr.mono (by decide)) (pad_cons (dv 6) pad_nil)) pad_nil))))) (pwd_or1 (ptd_cmp (o_ne hr.units) (pd_fn (C_often T) (hr.mono (by decide)) (pad_cons (dv 4) (pad_cons (dv 5) (pad_cons pd_int pad_nil)))) (dv 1))))) (pssd_one (psd_ret pd_bl)) pssd_nil)
  ((pssd_cons (psd_set (i := 11) sc_law.nd rfl (by first | exact Or.inl rfl | exact Or.inr rfl) (pd_fn (C_turns T) (hr.mono (by decide)) (pad_cons (dv 4) (pad_cons (dv 5) pad_nil))))
  ((pssd_cons (psd_if (PWD.pt (pwd_and (ptd_cmp o_notN (dv 11) pd_non) (pwd_and1 (ptd_cmp (o_ne hr.units) (pd_fn (C_often T) (hr.mono (by decide)) (pad_cons (dv 4) (pad_cons (dv 5) (pad_cons (dv 11) pad_nil)))) (dv 1))))) (pssd_one (psd_ret pd_bl)) pssd_nil)
  ((pssd_cons (psd_if (PWD.pt (pwd_and (ptd_cmp o_notN (dv 11) pd_non) (pwd_and1 (ptd_cmp (o_ne hr.units) (pd_fn (C_often T) (hr.mono (by decide)) (pad_cons (dv 4) (pad_cons (dv 5) (pad_cons (pj_op o_mul (pj_op o_div pd_int (dv 11)) (dv 11)) pad_nil)))) (dv 1))))) (pssd_one (psd_ret pd_bl)) pssd_nil)
  ((pssd_one (psd_if (PWD.pt (pwd_or (ptd_cmp (o_ne hr.units) (pd_fn (C_turns T) (hr.mono (by decide)) (pad_cons (dv 4) (pad_cons (pd_tup (pad_cons (pd_tup (pad_cons (pd_neg pd_int) (pad_cons pd_int pad_nil))) (pad_cons (pd_tup (pad_cons pd_int (pad_cons pd_int pad_nil))) pad_nil))) pad_nil))) pd_int) (pwd_or1 (ptd_cmp (o_ne hr.units) (pd_fn (C_turns T) (hr.mono (by decide)) (pad_cons (dv 4) (pad_cons (dv 1) pad_nil))) pd_int)))) (pssd_one (psd_ret pd_bl)) pssd_nil)))))))))))))))))))))))))))))))))
  ((pssd_one (psd_ret pd_bl))))))) ?_
  rintro ds Q hl ⟨ns, rfl, hn, q⟩
  walk_at "dl"
  refine dFor_i (rng 0 8) (fun Q h => ?_) (fun _ ρ => ∃ o2 o3 o4 o5 o6 o7 o8 o9 o10 o11, ρ = [some (.d (.scr ns)), some (.d (ptD 1 0)), o2, o3, o4, o5, o6, o7, o8, o9, o10, o11]) ⟨_, _, _, _, _, _, _, _, _, _, rfl⟩ ?_ ?_
  · walk_at "dl"
    exact ⟨by decide, by decide, h⟩
  · rintro i x ρ hx ⟨o2, o3, o4, o5, o6, o7, o8, o9, o10, o11, rfl⟩
    obtain ⟨rfl, hi⟩ := rng_get hx
    walk_at "dl"
    refine ⟨_, _, rfl, by omega, hn, .inl (by decide), _, rfl, ?_⟩
    generalize cellOf ns _ + _ = c
    refine ⟨_, _, rfl, by decide, by decide, ?_⟩
    have hd : (numOf c 30).natAbs ≤ 30 := numOf_abs (by decide)
    generalize numOf c 30 = d at *
    refine u_ring hd fun p hp cp => ?_
    refine ⟨_, _, rfl, by decide, hn, .inl (by decide), _, rfl, ?_⟩
    refine u_ring hd fun r hr' cr => ?_
    refine ⟨_, _, rfl, by decide, hn, .inl (by decide), _, rfl, ?_⟩
    refine u_ring hd fun t ht ct => ?_
    have d5 : d.natAbs < 2 ^ 5 := by omega
    refine u_tog hd cp cr ?_
    have hpr := hp.tog hr'
    have cpr := cp.tog cr d5
    refine u_on hd hp cp ?_
    refine u_on hd hpr cpr ?_
    refine u_tog hd cr cp ?_
    refine u_ne (tog_comm _ _ _) ?_
    refine u_tog hd cpr ct ?_
    refine u_tog hd cr ct ?_
    refine u_tog hd cp (cr.tog ct d5) ?_
    refine u_ne (tog_assoc _ _ _ _) ?_
    refine u_back ?_
    refine u_tog hd cp cp.bk ?_
    refine u_ne (q := (1, 0)) hp.bk ?_
    refine u_tog (q := (1, 0)) hd cp (CdP.one (n := 1) (by decide)) ?_
    refine u_ne (tog_one' _ _) ?_
    refine u_back (u_back ?_)
    refine u_ne (bk_bk _) ?_
    have m1 := mixOf_nonneg (c := c) (p := 9791) (m := 13) (by decide)
    have m2 := mixOf_lt (c := c) (p := 9791) (m := 13) (by decide)
    have m3 := mixOf_nonneg (c := c) (p := 9787) (m := 13) (by decide)
    have m4 := mixOf_lt (c := c) (p := 9787) (m := 13) (by decide)
    refine ⟨_, _, _, rfl, by decide, by decide, by decide, _, rfl, ?_⟩
    refine ⟨_, _, _, rfl, by decide, by decide, by decide, _, rfl, ?_⟩
    generalize mixOf c 9791 13 = a at *
    generalize mixOf c 9787 13 = b at *
    have bb : ∀ (z : P2) (k : Int) (n : Nat), CdP z n → 0 < n → n ≤ 50 → k.natAbs ≤ 12 → CdP (pwI d z k) 900 := fun z k n h h0 h1 h2 => by
      refine (h.pwI h0 d5 k).le ?_
      have e1 := Nat.mul_le_mul (show k.natAbs + 1 ≤ 13 by omega) (show n + 5 + 1 ≤ 56 by omega)
      omega
    refine u_often hd cp (by omega) ?_
    refine u_often hd cp (by omega) ?_
    refine u_tog hd (bb _ _ _ cp (by decide) (by decide) (by omega)) (bb _ _ _ cp (by decide) (by decide) (by omega)) ?_
    refine u_often hd cp (by omega) ?_
    refine u_ne (pwI_add hp _ _).symm ?_
    refine u_often hd cpr (by decide) ?_
    refine u_often hd cp (by decide) ?_
    refine u_often hd cr (by decide) ?_
    refine u_tog hd (bb _ _ _ cp (by decide) (by decide) (by decide)) (bb _ _ _ cr (by decide) (by decide) (by decide)) ?_
    refine u_ne (pw_tog d p r 3) ?_
    refine u_often hd cp (by decide) ?_
    refine u_ne (by
      show pw d p 1 = p
      rw [pw_succ, pw_zero, tog_one]) ?_
    refine u_back (u_back (u_back ?_))
    refine u_tog hd cp.bk cr.bk ?_
    refine u_ne (bk_tog _ _ _) ?_
    refine u_often hd cp (by decide) ?_
    refine u_ne (q := (1, 0)) rfl ?_
    refine u_turns hd cp ?_
    have fin : t_turns [D.int d, D.tup [D.tup [D.int (-1), D.int 1], D.tup [D.int 0, D.int 1]]] fun x => x.ok = true ∧ if eqD x (D.int 2) = false then Q (D.bl false) else t_turns [D.int d, ptD 1 0] fun x => x.ok = true ∧ if eqD x (D.int 1) = false then Q (D.bl false) else ∃ o2, some (Sl.d (D.int (0 + ↑i))) = o2 := by
      refine u_turns (p := (-1, 0)) hd (CdP.le (m := 1) ⟨-1, 0, 1, by decide, by decide +kernel, by decide +kernel, by decide, by decide, by decide⟩ (Nat.le_refl _)) ?_
      rw [turnsD_minus]
      refine ⟨rfl, ?_⟩
      rw [if_neg (by decide +kernel)]
      refine u_turns (p := (1, 0)) hd (CdP.one (n := 1) (by decide)) ?_
      rw [turnsD_one]
      refine ⟨rfl, ?_⟩
      rw [if_neg (by decide +kernel)]
      exact ⟨_, rfl⟩
    cases et : turnsD d p.1 p.2 with
    | none => exact fin
    | some k =>
      obtain ⟨hk, ek⟩ := turnsD_some et
      rw [show optD (some k) = D.int (k + 1) from rfl, if_pos rfl, if_pos rfl]
      refine u_often hd cp (by omega) ?_
      refine u_ne (q := (1, 0)) ?_ ?_
      · have := pwI_nat d p (k + 1)
        rw [ek] at this
        exact this
      refine ⟨_, rfl, by omega, divok (by omega) 64 (by omega), _, rfl, ?_⟩
      have h12 : (12 / ((k : Int) + 1)).natAbs ≤ 12 := by
        rw [Int.natAbs_ediv_of_nonneg (by decide)]
        exact Nat.div_le_self _ _
      have h0 : 0 ≤ 12 / ((k : Int) + 1) := Int.ediv_nonneg (by decide) (by omega)
      have hmul : 12 / ((k : Int) + 1) * (k + 1) ≤ 12 := Int.ediv_mul_le _ (by omega)
      have hz : 0 ≤ 12 / ((k : Int) + 1) * (k + 1) := Int.mul_nonneg h0 (by omega)
      refine ⟨.inl (by omega), ?_⟩
      refine u_often hd cp (by omega) ?_
      refine u_ne (q := (1, 0)) ?_ fin
      obtain ⟨m, hm⟩ := Int.eq_ofNat_of_zero_le h0
      rw [hm]
      have e2 : ((m : Int) * ((k : Int) + 1)) = (((k + 1) * m : Nat) : Int) := by
        rw [Int.natCast_mul, Int.natCast_add, Int.mul_comm]
        rfl
      rw [e2, pwI_nat]
      exact pw_mul ek m
  · rintro ρ ⟨o2, o3, o4, o5, o6, o7, o8, o9, o10, o11, rfl⟩
    walk_at "dl"
    exact q

end
end DL
open PySem PySem.W PyProof.Rows
set_option maxHeartbeats 0 in
theorem PySem.Challenge.cw_curvefracs_k13_whole_rings_holds : PySem.Challenge.rw_curvefracs_k13_whole_rings.Holds := by
  w_on; o_law; k_head; (case hw => w_witness2)
  k_fill
  refine DL.walk_end (l := PySem.Challenge.rw_curvefracs_k13_whole_rings) (st := DL.s_law) (k := 6) rfl rfl (fun w h Y => PySem.W.kIn_of Y) ⟨rfl, by decide, by decide⟩ (fun _ _ _ _ _ _ s v => .of_eq rfl) rfl ?F
  case F =>
    intro w mg h KX G
    refine (fun (T : DL.Top _ mg) => ⟨T.f_law, fun f fd base F => DL.law_of (DL.ok_law T F)⟩) ?_
    refine' ⟨?x0, ?x1, ?x2, ?x3, ?x4, ?x5, ?x6, ?x7, ?x8, ?x9, ?x10, ?x11, ?x12, ?x13, ?x14, ?x15, ?x16, ?x17, ?x18, ?x19, ?x20, ?x21, ?x22⟩
    case x0 => (refine' DL.Df_mk (st := DL.s_common) KX G ?a ?l ?c ?k (fun _ _ _ _ _ _ us hl => match us, hl with | [_, _], _ => rfl); (case a => k_is); (case l => k_is); (case c => k_is); (case k => k_is))
    case x1 => (refine' DL.Df_mk (st := DL.s_fraction) KX G ?a ?l ?c ?k (fun _ _ _ _ _ _ us hl => match us, hl with | [_, _], _ => rfl); (case a => k_is); (case l => k_is); (case c => k_is); (case k => k_is))
    case x2 => (refine' DL.Df_mk (st := DL.s_added) KX G ?a ?l ?c ?k (fun _ _ _ _ _ _ us hl => match us, hl with | [_, _], _ => rfl); (case a => k_is); (case l => k_is); (case c => k_is); (case k => k_is))
    case x3 => (refine' DL.Df_mk (st := DL.s_multiplied) KX G ?a ?l ?c ?k (fun _ _ _ _ _ _ us hl => match us, hl with | [_, _], _ => rfl); (case a => k_is); (case l => k_is); (case c => k_is); (case k => k_is))
    case x4 => (refine' DL.Df_mk (st := DL.s_turned) KX G ?a ?l ?c ?k (fun _ _ _ _ _ _ us hl => match us, hl with | [_], _ => rfl); (case a => k_is); (case l => k_is); (case c => k_is); (case k => k_is))
    case x5 => (refine' DL.Df_mk (st := DL.s_times) KX G ?a ?l ?c ?k (fun _ _ _ _ _ _ us hl => match us, hl with | [_, _], _ => rfl); (case a => k_is); (case l => k_is); (case c => k_is); (case k => k_is))
    case x6 => (refine' DL.Df_mk (st := DL.s_together) KX G ?a ?l ?c ?k (fun _ _ _ _ _ _ us hl => match us, hl with | [_, _, _], _ => rfl); (case a => k_is); (case l => k_is); (case c => k_is); (case k => k_is))
    case x7 => (refine' DL.Df_mk (st := DL.s_back) KX G ?a ?l ?c ?k (fun _ _ _ _ _ _ us hl => match us, hl with | [_], _ => rfl); (case a => k_is); (case l => k_is); (case c => k_is); (case k => k_is))
    case x8 => (refine' DL.Df_mk (st := DL.s_often) KX G ?a ?l ?c ?k (fun _ _ _ _ _ _ us hl => match us, hl with | [_, _, _], _ => rfl); (case a => k_is); (case l => k_is); (case c => k_is); (case k => k_is))
    case x9 => (refine' DL.Df_mk (st := DL.s_turns) KX G ?a ?l ?c ?k (fun _ _ _ _ _ _ us hl => match us, hl with | [_, _], _ => rfl); (case a => k_is); (case l => k_is); (case c => k_is); (case k => k_is))
    case x10 => (refine' DL.Df_mk (st := DL.s_is_on) KX G ?a ?l ?c ?k (fun _ _ _ _ _ _ us hl => match us, hl with | [_, _], _ => rfl); (case a => k_is); (case l => k_is); (case c => k_is); (case k => k_is))
    case x11 => (refine' DL.Df_mk (st := DL.s__law_cell) KX G ?a ?l ?c ?k (fun _ _ _ _ _ _ us hl => match us, hl with | [_, _], _ => rfl); (case a => k_is); (case l => k_is); (case c => k_is); (case k => k_is))
    case x12 => (refine' DL.Df_mk (st := DL.s__law_mix) KX G ?a ?l ?c ?k (fun _ _ _ _ _ _ us hl => match us, hl with | [_, _, _], _ => rfl); (case a => k_is); (case l => k_is); (case c => k_is); (case k => k_is))
    case x13 => (refine' DL.Df_mk (st := DL.s__law_common) KX G ?a ?l ?c ?k (fun _ _ _ _ _ _ us hl => match us, hl with | [_, _], _ => rfl); (case a => k_is); (case l => k_is); (case c => k_is); (case k => k_is))
    case x14 => (refine' DL.Df_mk (st := DL.s__law_number) KX G ?a ?l ?c ?k (fun _ _ _ _ _ _ us hl => match us, hl with | [_, _], _ => rfl); (case a => k_is); (case l => k_is); (case c => k_is); (case k => k_is))
    case x15 => (refine' DL.Df_mk (st := DL.s__law_ring_point) KX G ?a ?l ?c ?k (fun _ _ _ _ _ _ us hl => match us, hl with | [_, _], _ => rfl); (case a => k_is); (case l => k_is); (case c => k_is); (case k => k_is))
    case x16 => (refine' DL.Df_mk (st := DL.s_law) KX G ?a ?l ?c ?k (fun _ _ _ _ _ _ us hl => match us, hl with | [_], _ => rfl); (case a => k_is); (case l => k_is); (case c => k_is); (case k => k_is))
    case x17 => (refine' PySem.W.mg_none_of KX G ?z; (case z => k_is))
    case x18 => (refine' PySem.W.mg_none_of KX G ?z; (case z => k_is))
    case x19 => (refine' PySem.W.mg_none_of KX G ?z; (case z => k_is))
    case x20 => (refine' PySem.W.mg_none_of KX G ?z; (case z => k_is))
    case x21 => (refine' DL.c_ref (PySem.W.mg_of KX G ?cz21) ?cq21; (case cz21 => k_is); (case cq21 => (refine' DL.KD.tup ?kl1 ?kz1 ?kh1; (case kl1 => k_is); (case kz1 => decide); (case kh1 => (refine' DL.KDs.cons ?ka2 ?kb2; (case ka2 => ((refine' DL.KD.tup ?kl3 ?kz3 ?kh3; (case kl3 => k_is); (case kz3 => decide); (case kh3 => (refine' DL.KDs.cons ?ka4 ?kb4; (case ka4 => (first | exact DL.KD.int | exact DL.KD.str | exact DL.KD.bl | exact DL.KD.non)); (case kb4 => ((refine' DL.KDs.cons ?ka5 ?kb5; (case ka5 => (first | exact DL.KD.int | exact DL.KD.str | exact DL.KD.bl | exact DL.KD.non)); (case kb5 => (exact DL.KDs.nil)))))))))); (case kb2 => ((refine' DL.KDs.cons ?ka6 ?kb6; (case ka6 => ((refine' DL.KD.tup ?kl7 ?kz7 ?kh7; (case kl7 => k_is); (case kz7 => decide); (case kh7 => (refine' DL.KDs.cons ?ka8 ?kb8; (case ka8 => (first | exact DL.KD.int | exact DL.KD.str | exact DL.KD.bl | exact DL.KD.non)); (case kb8 => ((refine' DL.KDs.cons ?ka9 ?kb9; (case ka9 => (first | exact DL.KD.int | exact DL.KD.str | exact DL.KD.bl | exact DL.KD.non)); (case kb9 => (exact DL.KDs.nil)))))))))); (case kb6 => (exact DL.KDs.nil))))))))))
    case x22 => (refine' DL.c_int (PySem.W.mg_of KX G ?cz22); (case cz22 => k_is))
#print axioms PySem.Challenge.cw_curvefracs_k13_whole_rings_holds
