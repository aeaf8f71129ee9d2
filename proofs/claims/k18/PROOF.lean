import PyProof.Rows.All
import Wide.All
import OpenK.AllK
import Wide.FinOn
import HandS.ForMost
import HandS.Lambda
import HandS.HeadHook4
import HandS.ForExc
import HandS.TupAny
import HandS.TupLe
import HandS.Deep
import HandS.WordsDict
import HandS.TupLen
import HandS.Conv
import HandS.Flow
import HandS.IterVal
import HandS.Zip
import KE.GoesEnum
import KE.GoesMore
import HandS.Words
import HandS.Defaults
import KE.SortData
import KE.KDictSum
import HandS.DictComp
import KE.KDictCopyH
import KE.KDictDisplayH
import HandS.TupSets
import HandS.SetFor
import HandS.Strs
import HandS.TryOnly
import HandS.ExcOwn
import PyProof.ExcBaseAll.ValueError
import HandS.HeadWalk
import KE.LtData
import KE.KMinKey
import HandS.SortKw
import KE.DataFind
import KE.SortKeyHeap
import KE.DataMinMax
import HandS.Base
import HandS.Call
import HandS.Ends
import HandS.More
import HandS.WordsExc
import HandS.Head0
import HandS.Head1
import HandS.Head2
import HandS.HeadEnd
import HandS.HeadHook1
import HandS.HeadHook2
import HandS.HeadHook3
import PySem.Challenge.RW_noshorterplan_k18_whole_why_and_what_is
set_option Elab.async false
set_option linter.all false
set_option maxRecDepth 100000
set_option maxHeartbeats 0
/-! Lay0: the defs that hold lambdas; their tables of code objects. -/
namespace Z
open PySem L2
def tf : List He.Defn := [("cheapest", none), ("law", none), ("missing_facts", none), ("too_much", none)]
def TB (K : PySem.W.Frag) : List (Addr × Str) := tf.map fun p => ((He.cT K p).2, p.1 ++ ".<locals>.<lambda>")
end Z

/-! Lay1: trees, worlds, denotations of expressions and statements, and when they tell the truth of the text. -/
namespace Z
open PySem L2

/-- a value as a tree; ref n: the n-th object that is owned -/
inductive T where
  | non | bl (b : Bool) | int (i : Int) | str (s : Str) | tup (xs : List T) | lst (xs : List T) | arg (xs : List T) | dk (ks : List Key) (vs : List T) | dt (ks : List (List Key)) (vs : List T) | ref (n : Nat)
deriving Inhabited

inductive O where
  | lst (xs : List T) | dk (lk : Bool) (ks : List Key) (vs : List T) | dt (lk : Bool) (ks : List (List Key)) (vs : List T)
deriving Inhabited

abbrev Hv := List O
abbrev Sl := List (Option T)
inductive R (α : Type) where
  | ok (a : α) | exc (c : Str)
inductive Fl where
  | nx | bk | ct | rt (t : T) | exc (c : Str)
abbrev M (α : Type) := Hv → Option (R α × Hv)
abbrev D := Sl → M T
abbrev DA := Sl → M (List T)
abbrev DB := Sl → M Bool
abbrev DS := Sl → Hv → Option (Fl × Sl × Hv)

def bnd {α β : Type} (m : M α) (k : α → M β) : M β := fun h => match m h with
  | some (.ok a, h') => k a h'
  | some (.exc c, h') => some (.exc c, h')
  | none => none
def ret {α : Type} (a : α) : M α := fun h => some (.ok a, h)
def bot {α : Type} : M α := fun _ => none

/-- the owned addresses, in their order, and those that are hidden -/
structure Ow where
  own : List Addr
  hid : List Addr
def Ow.has (φ : Ow) (a : Addr) : Prop := a ∈ φ.own ∨ a ∈ φ.hid
instance (φ : Ow) (a : Addr) : Decidable (φ.has a) := inferInstanceAs (Decidable (_ ∨ _))
def Ow.add (φ : Ow) (p : Addr) : Ow := ⟨φ.own ++ [p], φ.hid⟩
def Ow.hide (φ : Ow) (p : Addr) : Ow := ⟨φ.own, p :: φ.hid⟩

/-! ### what a tree is of -/
def keyT : Key → T
  | .inl i => .int i
  | .inr s => .str s
mutual
def Rp (K : PySem.W.Frag) (φ : Ow) (F : Hp) : T → V → Prop
  | .non, v => v = .non
  | .bl b, v => v = .bl b
  | .int i, v => v = .int i
  | .str s, v => v = .str s
  | .tup xs, v => ∃ a vs, v = .ref a ∧ F a = some (.tup vs) ∧ RpL K φ F xs vs
  | .lst xs, v => ∃ a vs, v = .ref a ∧ F a = some (.lst vs) ∧ RpL K φ F xs vs
  | .arg xs, v => ∃ a vs, v = .ref a ∧ SqL K F a vs ∧ RpL K φ F xs vs
  | .dk ks vs, v => ∃ a kvs, v = .ref a ∧ F a = some (.dK kvs) ∧ kvs.map (·.1) = ks ∧ RpL K φ F vs (kvs.map (·.2))
  | .dt ks vs, v => ∃ a kvs, v = .ref a ∧ F a = some (.dT kvs) ∧ kvs.map (·.1) = ks ∧ RpL K φ F vs (kvs.map (·.2))
  | .ref n, v => ∃ a, φ.own[n]? = some a ∧ v = .ref a
def RpL (K : PySem.W.Frag) (φ : Ow) (F : Hp) : List T → List V → Prop
  | [], vs => vs = []
  | x :: xs, vs => ∃ v r, vs = v :: r ∧ Rp K φ F x v ∧ RpL K φ F xs r
end
/-- a thing, locked or not -/
def Lkd (lk : Bool) (ho u : HO) : Prop := if lk then ∃ od, ho = .frz od u else ho = u
def RpO (K : PySem.W.Frag) (φ : Ow) (F : Hp) : O → HO → Prop
  | .lst xs, ho => ∃ vs, ho = .lst vs ∧ RpL K φ F xs vs
  | .dk lk ks vs, ho => ∃ kvs, Lkd lk ho (.dK kvs) ∧ kvs.map (·.1) = ks ∧ RpL K φ F vs (kvs.map (·.2))
  | .dt lk ks vs, ho => ∃ kvs, Lkd lk ho (.dT kvs) ∧ kvs.map (·.1) = ks ∧ RpL K φ F vs (kvs.map (·.2))

def Ex (H H' : Hp) : Prop := ∀ a o, H a = some o → H' a = some o
theorem Ex.refl (H : Hp) : Ex H H := fun _ _ h => h
theorem Ex.trans {H H1 H2 : Hp} (a : Ex H H1) (b : Ex H1 H2) : Ex H H2 := fun x o h => b x o (a x o h)
theorem Ex.rd {H H' : Hp} {a : Addr} {u : HO} (e : Ex H H') (h : Rd H a u) : Rd H' a u := by
  rcases h with h | ⟨o, h⟩
  · exact Or.inl (e a _ h)
  · exact Or.inr ⟨o, e a _ h⟩
theorem Ex.l {K : PySem.W.Frag} {H H' : Hp} {a : Addr} {xs : List V} (e : Ex H H') (h : SqL K H a xs) : SqL K H' a xs := by
  rcases h with h | h
  · exact Or.inl (e.rd h)
  · exact Or.inr h
theorem Ex.t {K : PySem.W.Frag} {H H' : Hp} {a : Addr} {xs : List V} (e : Ex H H') (h : SqT K H a xs) : SqT K H' a xs := by
  rcases h with h | h
  · exact Or.inl (e.rd h)
  · exact Or.inr h

/-- what is not owned -/
def noTbl : Option HO → Option HO
  | some (.tbl _) => none
  | o => o
theorem noTbl_of {x : Option HO} {o : HO} (h : noTbl x = some o) : x = some o ∧ ∀ ps, o ≠ .tbl ps := by
  cases x with
  | none => cases h
  | some u => cases u with
    | tbl ps => cases h
    | _ => cases h; exact ⟨rfl, fun ps z => nomatch z⟩
theorem noTbl_mk {x : Option HO} {o : HO} (h : x = some o) (n : ∀ ps, o ≠ .tbl ps) : noTbl x = some o := by
  subst h
  cases o with
  | tbl ps => exact (n ps rfl).elim
  | _ => rfl
def Fz (φ : Ow) (H : Hp) : Hp := fun a => if φ.has a then none else noTbl (H a)
theorem Fz.of' {φ : Ow} {H : Hp} {a : Addr} {o : HO} (h : Fz φ H a = some o) : ¬ φ.has a ∧ H a = some o ∧ ∀ ps, o ≠ .tbl ps := by
  unfold Fz at h
  split at h
  · cases h
  · exact ⟨by assumption, noTbl_of h⟩
theorem Fz.of {φ : Ow} {H : Hp} {a : Addr} {o : HO} (h : Fz φ H a = some o) : ¬ φ.has a ∧ H a = some o := ⟨(Fz.of' h).1, (Fz.of' h).2.1⟩
theorem Fz.nt {φ : Ow} {H : Hp} {a : Addr} {o : HO} (h : Fz φ H a = some o) : ∀ ps, o ≠ .tbl ps := (Fz.of' h).2.2
theorem Fz.mk {φ : Ow} {H : Hp} {a : Addr} {o : HO} (n : ¬ φ.has a) (h : H a = some o) (nt : ∀ ps, o ≠ .tbl ps := by intro _ z; cases z) : Fz φ H a = some o := by
  unfold Fz
  rw [if_neg n]
  exact noTbl_mk h nt
theorem Fz.ex {φ : Ow} {H : Hp} : Ex (Fz φ H) H := fun _ _ h => (Fz.of h).2

/-- one world goes on to another: the owned ones go on being owned, all else that is tracked stays -/
structure Le (φ : Ow) (H : Hp) (φ' : Ow) (H' : Hp) : Prop where
  pre : ∃ ψ, φ'.own = φ.own ++ ψ
  hid : φ'.hid = φ.hid
  ex : Ex (Fz φ H) (Fz φ' H')
  fz : ∀ a od u, H a = some (.frz od u) → H' a = some (.frz od u)
  hk : ∀ a, a ∈ φ.hid → H' a = H a
theorem Le.refl (φ : Ow) (H : Hp) : Le φ H φ H := ⟨⟨[], by simp⟩, rfl, Ex.refl _, fun _ _ _ h => h, fun _ _ => rfl⟩
theorem Le.trans {φ φ1 φ2 : Ow} {H H1 H2 : Hp} (a : Le φ H φ1 H1) (b : Le φ1 H1 φ2 H2) : Le φ H φ2 H2 := by
  obtain ⟨⟨ψ, p⟩, h, e, f, k⟩ := a
  obtain ⟨⟨χ, p'⟩, h', e', f', k'⟩ := b
  exact ⟨⟨ψ ++ χ, by rw [p', p, List.append_assoc]⟩, h'.trans h, e.trans e', fun x o u h => f' x o u (f x o u h), fun a m => (k' a (by rw [h]; exact m)).trans (k a m)⟩
theorem Le.at {φ φ' : Ow} {H H' : Hp} (l : Le φ H φ' H') {n : Nat} {a : Addr} (h : φ.own[n]? = some a) : φ'.own[n]? = some a := by
  obtain ⟨ψ, p⟩ := l.pre
  rw [p, List.getElem?_append_left (List.getElem?_eq_some_iff.mp h).1]
  exact h

mutual
theorem Rp.mono {K : PySem.W.Frag} {φ φ' : Ow} {F F' : Hp} (hφ : ∀ (n : Nat) a, φ.own[n]? = some a → φ'.own[n]? = some a) (e : Ex F F') : ∀ (t : T) (v : V), Rp K φ F t v → Rp K φ' F' t v
  | .non, v, h => h
  | .bl _, v, h => h
  | .int _, v, h => h
  | .str _, v, h => h
  | .tup xs, v, h => by
    obtain ⟨a, vs, e1, s, r⟩ := h
    exact ⟨a, vs, e1, e _ _ s, RpL.mono hφ e xs vs r⟩
  | .lst xs, v, h => by
    obtain ⟨a, vs, e1, s, r⟩ := h
    exact ⟨a, vs, e1, e _ _ s, RpL.mono hφ e xs vs r⟩
  | .arg xs, v, h => by
    obtain ⟨a, vs, e1, s, r⟩ := h
    exact ⟨a, vs, e1, e.l s, RpL.mono hφ e xs vs r⟩
  | .dk ks xs, v, h => by
    obtain ⟨a, kvs, e1, s, k, r⟩ := h
    exact ⟨a, kvs, e1, e _ _ s, k, RpL.mono hφ e xs _ r⟩
  | .dt ks xs, v, h => by
    obtain ⟨a, kvs, e1, s, k, r⟩ := h
    exact ⟨a, kvs, e1, e _ _ s, k, RpL.mono hφ e xs _ r⟩
  | .ref n, v, h => by
    obtain ⟨a, e1, h⟩ := h
    exact ⟨a, hφ _ _ e1, h⟩
theorem RpL.mono {K : PySem.W.Frag} {φ φ' : Ow} {F F' : Hp} (hφ : ∀ (n : Nat) a, φ.own[n]? = some a → φ'.own[n]? = some a) (e : Ex F F') : ∀ (t : List T) (v : List V), RpL K φ F t v → RpL K φ' F' t v
  | [], v, h => h
  | x :: xs, v, h => by
    obtain ⟨w, r, e1, h1, h2⟩ := h
    exact ⟨w, r, e1, Rp.mono hφ e x w h1, RpL.mono hφ e xs r h2⟩
end
theorem Rp.le {K : PySem.W.Frag} {φ φ' : Ow} {H H' : Hp} {t : T} {v : V} (h : Rp K φ (Fz φ H) t v) (l : Le φ H φ' H') : Rp K φ' (Fz φ' H') t v := Rp.mono (fun _ _ q => l.at q) l.ex t v h
theorem RpL.le {K : PySem.W.Frag} {φ φ' : Ow} {H H' : Hp} {t : List T} {v : List V} (h : RpL K φ (Fz φ H) t v) (l : Le φ H φ' H') : RpL K φ' (Fz φ' H') t v := RpL.mono (fun _ _ q => l.at q) l.ex t v h
theorem RpO.mono {K : PySem.W.Frag} {φ φ' : Ow} {F F' : Hp} (hφ : ∀ (n : Nat) a, φ.own[n]? = some a → φ'.own[n]? = some a) (e : Ex F F') {o : O} {ho : HO} (h : RpO K φ F o ho) : RpO K φ' F' o ho := by
  cases o with
  | lst xs =>
    obtain ⟨vs, rfl, r⟩ := h
    exact ⟨vs, rfl, RpL.mono hφ e _ _ r⟩
  | dk lk ks vs =>
    obtain ⟨kvs, l, k, r⟩ := h
    exact ⟨kvs, l, k, RpL.mono hφ e _ _ r⟩
  | dt lk ks vs =>
    obtain ⟨kvs, l, k, r⟩ := h
    exact ⟨kvs, l, k, RpL.mono hφ e _ _ r⟩
theorem RpL.length {K : PySem.W.Frag} {φ : Ow} {F : Hp} : ∀ {ts : List T} {vs : List V}, RpL K φ F ts vs → ts.length = vs.length
  | [], vs, h => by rw [show vs = [] from h]; rfl
  | x :: xs, vs, h => by
    obtain ⟨v, r, rfl, _, h⟩ := h
    simp [RpL.length h]
theorem RpL.get {K : PySem.W.Frag} {φ : Ow} {F : Hp} : ∀ {ts : List T} {vs : List V} {i : Nat} {v : V}, RpL K φ F ts vs → vs[i]? = some v → ∃ t, ts[i]? = some t ∧ Rp K φ F t v
  | [], vs, i, v, h, q => by rw [show vs = [] from h] at q; simp at q
  | x :: xs, vs, i, v, h, q => by
    obtain ⟨w, r, rfl, h1, h2⟩ := h
    cases i with
    | zero => simp at q; subst q; exact ⟨x, rfl, h1⟩
    | succ i =>
      obtain ⟨t, e, h3⟩ := RpL.get (i := i) h2 (by simpa using q)
      exact ⟨t, by simpa using e, h3⟩
theorem RpL.get' {K : PySem.W.Frag} {φ : Ow} {F : Hp} : ∀ {ts : List T} {vs : List V} {i : Nat} {t : T}, RpL K φ F ts vs → ts[i]? = some t → ∃ v, vs[i]? = some v ∧ Rp K φ F t v
  | [], vs, i, v, h, q => by simp at q
  | x :: xs, vs, i, v, h, q => by
    obtain ⟨w, r, rfl, h1, h2⟩ := h
    cases i with
    | zero => simp at q; subst q; exact ⟨w, rfl, h1⟩
    | succ i =>
      obtain ⟨t, e, h3⟩ := RpL.get' (i := i) h2 (by simpa using q)
      exact ⟨t, by simpa using e, h3⟩
theorem RpL.append {K : PySem.W.Frag} {φ : Ow} {F : Hp} : ∀ {ts us : List T} {vs ws : List V}, RpL K φ F ts vs → RpL K φ F us ws → RpL K φ F (ts ++ us) (vs ++ ws)
  | [], us, vs, ws, h, g => by rw [show vs = [] from h]; exact g
  | x :: xs, us, vs, ws, h, g => by
    obtain ⟨w, r, rfl, h1, h2⟩ := h
    exact ⟨w, r ++ ws, rfl, h1, RpL.append h2 g⟩
theorem RpL.take {K : PySem.W.Frag} {φ : Ow} {F : Hp} : ∀ {ts : List T} {vs : List V} (n : Nat), RpL K φ F ts vs → RpL K φ F (ts.take n) (vs.take n)
  | ts, vs, 0, h => by simp; rfl
  | [], vs, n + 1, h => by rw [show vs = [] from h]; simp; rfl
  | x :: xs, vs, n + 1, h => by
    obtain ⟨w, r, rfl, h1, h2⟩ := h
    exact ⟨w, r.take n, rfl, h1, RpL.take n h2⟩
theorem RpL.drop {K : PySem.W.Frag} {φ : Ow} {F : Hp} : ∀ {ts : List T} {vs : List V} (n : Nat), RpL K φ F ts vs → RpL K φ F (ts.drop n) (vs.drop n)
  | ts, vs, 0, h => by simpa using h
  | [], vs, n + 1, h => by rw [show vs = [] from h]; simp; rfl
  | x :: xs, vs, n + 1, h => by
    obtain ⟨w, r, rfl, h1, h2⟩ := h
    exact RpL.drop n h2
theorem RpL.set {K : PySem.W.Frag} {φ : Ow} {F : Hp} {t : T} {v : V} (q : Rp K φ F t v) : ∀ {ts : List T} {vs : List V} (n : Nat), RpL K φ F ts vs → RpL K φ F (ts.set n t) (vs.set n v)
  | [], vs, n, h => by rw [show vs = [] from h]; rfl
  | x :: xs, vs, 0, h => by
    obtain ⟨w, r, rfl, h1, h2⟩ := h
    exact ⟨v, r, rfl, q, h2⟩
  | x :: xs, vs, n + 1, h => by
    obtain ⟨w, r, rfl, h1, h2⟩ := h
    exact ⟨w, r.set n v, rfl, h1, RpL.set q n h2⟩

/-- the slots -/
def RelS (K : PySem.W.Frag) (φ : Ow) (H : Hp) (sl : Sl) (σ : L2.St) : Prop := sl.length = σ.length ∧ ∀ (i : Nat) t, sl[i]? = some (some t) → ∃ v, σ[i]? = some (some v) ∧ Rp K φ (Fz φ H) t v
theorem RelS.le {K : PySem.W.Frag} {φ φ' : Ow} {H H' : Hp} {sl : Sl} {σ : L2.St} (h : RelS K φ H sl σ) (l : Le φ H φ' H') : RelS K φ' H' sl σ :=
  ⟨h.1, fun i t e => let ⟨v, q, r⟩ := h.2 i t e; ⟨v, q, r.le l⟩⟩
theorem RelS.set {K : PySem.W.Frag} {φ : Ow} {H : Hp} {sl : Sl} {σ : L2.St} (h : RelS K φ H sl σ) {t : T} {v : V} (r : Rp K φ (Fz φ H) t v) (i : Nat) : RelS K φ H (sl.set i (some t)) (σ.set i (some v)) := by
  refine ⟨by simp [h.1], fun j u e => ?_⟩
  by_cases hj : i = j
  · subst hj
    by_cases hl : i < sl.length
    · rw [List.getElem?_set_self hl] at e
      cases e
      exact ⟨v, List.getElem?_set_self (by rw [← h.1]; exact hl), r⟩
    · rw [List.getElem?_eq_none (by simpa using hl)] at e; cases e
  · rw [List.getElem?_set_ne hj] at e ⊢
    exact h.2 j u e
theorem RelS.unset {K : PySem.W.Frag} {φ : Ow} {H : Hp} {sl : Sl} {σ : L2.St} (h : RelS K φ H sl σ) (i : Nat) : RelS K φ H (sl.set i none) (σ.set i none) := by
  refine ⟨by simp [h.1], fun j u e => ?_⟩
  by_cases hj : i = j
  · subst hj
    by_cases hl : i < sl.length
    · rw [List.getElem?_set_self hl] at e; cases e
    · rw [List.getElem?_eq_none (by simpa using hl)] at e; cases e
  · rw [List.getElem?_set_ne hj] at e ⊢
    exact h.2 j u e
/-- no table, and no thing told by what is true of it -/
def Plain : HO → Prop
  | .tbl _ => False
  | .ext _ => False
  | _ => True
theorem Plain.nt {o : HO} (p : Plain o) : ∀ ps, o ≠ .tbl ps := fun ps z => by subst z; exact p
theorem RpO.plain {K : PySem.W.Frag} {φ : Ow} {F : Hp} {o : O} {ho : HO} (h : RpO K φ F o ho) : Plain ho := by
  cases o with
  | lst xs =>
    obtain ⟨vs, rfl, r⟩ := h
    exact True.intro
  | dk lk ks vs =>
    obtain ⟨kvs, l, k, r⟩ := h
    cases lk with
    | true => obtain ⟨od, rfl⟩ := l; exact True.intro
    | false => rw [show ho = .dK kvs from l]; exact True.intro
  | dt lk ks vs =>
    obtain ⟨kvs, l, k, r⟩ := h
    cases lk with
    | true => obtain ⟨od, rfl⟩ := l; exact True.intro
    | false => rw [show ho = .dT kvs from l]; exact True.intro
/-- a plain thing is stored: the tables stay -/
theorem tabs_upd {T : List (Addr × Str)} {H : Hp} {a : Addr} {o : HO} (t : LamX.Tabs T H) (h : H a = none ∨ ∃ u, H a = some u ∧ Plain u) : LamX.Tabs T (upd H a o) := fun p hp => by
  obtain ⟨ps, h1, h2, h3⟩ := t p hp
  have ne : ∀ b q, H b = some q → (∀ u, q = u → Plain u → False) → b ≠ a := fun b q e n z => by
    subst z
    rcases h with h | ⟨u, h, pl⟩
    · rw [e] at h; cases h
    · rw [e] at h; cases h
      exact n q rfl pl
  refine ⟨ps, by rw [upd_ne (ne _ _ h1 (fun u z pl => by subst z; exact pl))]; exact h1, h2, fun pos cv hc => ?_⟩
  obtain ⟨c, e1, e2⟩ := h3 pos cv hc
  exact ⟨c, e1, by rw [upd_ne (ne _ _ e2 (fun u z pl => by subst z; exact pl))]; exact e2⟩
/-- the owned objects -/
structure RelH (K : PySem.W.Frag) (φ : Ow) (H : Hp) (h : Hv) : Prop where
  nd : φ.own.Nodup
  dis : ∀ a, a ∈ φ.own → a ∉ φ.hid
  hd : ∀ a, a ∈ φ.hid → ∃ o, H a = some o ∧ (∀ vs, o ≠ .tup vs) ∧ Plain o
  len : φ.own.length = h.length
  ob : ∀ (n : Nat) a o, φ.own[n]? = some a → h[n]? = some o → ∃ ho, H a = some ho ∧ RpO K φ (Fz φ H) o ho
  tab : LamX.Tabs (TB K) H

/-- what is wanted of an expression's end -/
def Fin (K : PySem.W.Frag) (mg : Str → Option Value) {α : Type} (ok : Ow → Hp → α → Prop) (E : XK) (φ : Ow) (H : Hp) : Option (R α × Hv) → Prop
  | none => False
  | some (.ok t, h') => ∀ φ' H', Le φ H φ' H' → RelH K φ' H' h' → ok φ' H' t
  | some (.exc c, h') => ∀ φ' H' C, Le φ H φ' H' → RelH K φ' H' h' → mg c = some (.ref C) → E (.ref C) none H'
theorem Fin.le {K : PySem.W.Frag} {mg : Str → Option Value} {α : Type} {ok : Ow → Hp → α → Prop} {E : XK} {φ φ' : Ow} {H H' : Hp} {r : Option (R α × Hv)} (f : Fin K mg ok E φ H r) (l : Le φ H φ' H') : Fin K mg ok E φ' H' r := by
  match r, f with
  | some (.ok t, h'), f => exact fun φ2 H2 l2 q => f φ2 H2 (l.trans l2) q
  | some (.exc c, h'), f => exact fun φ2 H2 C l2 q => f φ2 H2 C (l.trans l2) q
/-- a value's wish -/
def wV (K : PySem.W.Frag) (Q : VK) : Ow → Hp → T → Prop := fun φ H t => ∀ v, Rp K φ (Fz φ H) t v → Q v H
def wL (K : PySem.W.Frag) (Q : List V → Hp → Prop) : Ow → Hp → List T → Prop := fun φ H t => ∀ v, RpL K φ (Fz φ H) t v → Q v H
def wB (Q : Bool → Hp → Prop) : Ow → Hp → Bool → Prop := fun _ H b => Q b H
/-- the world in which a reading stands -/
structure At (K : PySem.W.Frag) (φ : Ow) (H : Hp) (sl : Sl) (σ : L2.St) (h : Hv) : Prop where
  s : RelS K φ H sl σ
  h : RelH K φ H h
def tD (K : PySem.W.Frag) (mg : Str → Option Value) (E : XK) (d : D) : TE := fun σ H Q => ∃ φ sl h, At K φ H sl σ h ∧ Fin K mg (wV K Q) E φ H (d sl h)
def tA (K : PySem.W.Frag) (mg : Str → Option Value) (E : XK) (d : DA) : TA := fun σ H Q => ∃ φ sl h, At K φ H sl σ h ∧ Fin K mg (wL K Q) E φ H (d sl h)
def tT (K : PySem.W.Frag) (mg : Str → Option Value) (E : XK) (d : DB) : TT := fun σ H Q => ∃ φ sl h, At K φ H sl σ h ∧ Fin K mg (wB Q) E φ H (d sl h)
/-- .. of a statement's end -/
def FinS (K : PySem.W.Frag) (mg : Str → Option Value) (E : XK) (De : Ends) (φ : Ow) (H : Hp) : Option (Fl × Sl × Hv) → Prop
  | none => False
  | some (.nx, sl, h') => ∀ φ' H' σ', Le φ H φ' H' → At K φ' H' sl σ' h' → De.nx σ' H'
  | some (.bk, sl, h') => ∀ φ' H' σ', Le φ H φ' H' → At K φ' H' sl σ' h' → De.bk σ' H'
  | some (.ct, sl, h') => ∀ φ' H' σ', Le φ H φ' H' → At K φ' H' sl σ' h' → De.ct σ' H'
  | some (.rt t, _, h') => ∀ φ' H' v, Le φ H φ' H' → RelH K φ' H' h' → Rp K φ' (Fz φ' H') t v → De.rt v H'
  | some (.exc c, _, h') => ∀ φ' H' C, Le φ H φ' H' → RelH K φ' H' h' → mg c = some (.ref C) → E (.ref C) none H'
theorem FinS.le {K : PySem.W.Frag} {mg : Str → Option Value} {E : XK} {De : Ends} {φ φ' : Ow} {H H' : Hp} {r : Option (Fl × Sl × Hv)} (f : FinS K mg E De φ H r) (l : Le φ H φ' H') : FinS K mg E De φ' H' r := by
  match r, f with
  | some (.nx, _, _), f => exact fun φ2 H2 σ l2 q => f φ2 H2 σ (l.trans l2) q
  | some (.bk, _, _), f => exact fun φ2 H2 σ l2 q => f φ2 H2 σ (l.trans l2) q
  | some (.ct, _, _), f => exact fun φ2 H2 σ l2 q => f φ2 H2 σ (l.trans l2) q
  | some (.rt _, _, _), f => exact fun φ2 H2 v l2 q => f φ2 H2 v (l.trans l2) q
  | some (.exc _, _, _), f => exact fun φ2 H2 C l2 q => f φ2 H2 C (l.trans l2) q
def tS (K : PySem.W.Frag) (mg : Str → Option Value) (E : XK) (d : DS) : TS := fun De σ H => ∃ φ sl h, At K φ H sl σ h ∧ FinS K mg E De φ H (d sl h)

/-! ### when a denotation is true of a piece of the text -/
abbrev PD (X : Cx) (E : XK) (e : Expr) (d : D) : Prop := PE X e (tD X.K X.mg E d)
abbrev PDA (X : Cx) (E : XK) (es : List Expr) (d : DA) : Prop := PA X es (tA X.K X.mg E d)
abbrev PDB (X : Cx) (E : XK) (e : Expr) (d : DB) : Prop := PT X e (tT X.K X.mg E d)
abbrev PDS (X : Cx) (E : XK) (st : Stmt) (d : DS) : Prop := PS X st (tS X.K X.mg E d)
abbrev PDSs (X : Cx) (E : XK) (st : List Stmt) (d : DS) : Prop := PSs X st (tS X.K X.mg E d)

theorem PE.imp {X : Cx} {e : Expr} {t t' : TE} (h : PE X e t) (i : ∀ σ H Q, t' σ H Q → t σ H Q) : PE X e t' := ⟨fun pins s σ H Q I w => h.run pins s σ H Q I (i σ H Q w)⟩
theorem PA.imp {X : Cx} {e : List Expr} {t t' : TA} (h : PA X e t) (i : ∀ σ H Q, t' σ H Q → t σ H Q) : PA X e t' := ⟨fun pos pins s σ H Q I w => h.run pos pins s σ H Q I (i σ H Q w)⟩
theorem PT.imp {X : Cx} {e : Expr} {t t' : TT} (h : PT X e t) (i : ∀ σ H Q, t' σ H Q → t σ H Q) : PT X e t' := ⟨fun pins s σ H Q I w => h.run pins s σ H Q I (i σ H Q w)⟩
theorem PS.imp {X : Cx} {e : Stmt} {t t' : TS} (h : PS X e t) (i : ∀ De σ H, t' De σ H → t De σ H) : PS X e t' := ⟨fun pins s σ H Q I w => h.run pins s σ H Q I (i Q σ H w)⟩
theorem PSs.imp {X : Cx} {e : List Stmt} {t t' : TS} (h : PSs X e t) (i : ∀ De σ H, t' De σ H → t De σ H) : PSs X e t' := ⟨fun pins s σ H Q I w => h.run pins s σ H Q I (i Q σ H w)⟩

section
variable {K : PySem.W.Frag} {mg : Str → Option Value} {E : XK} {φ : Ow} {H : Hp} {sl : Sl} {σ : L2.St} {h : Hv}
theorem At.le {φ' : Ow} {H' : Hp} {h' : Hv} (a : At K φ H sl σ h) (l : Le φ H φ' H') (r : RelH K φ' H' h') : At K φ' H' sl σ h' := ⟨a.s.le l, r⟩
/-- one thing, then another -/
theorem Fin.bnd {α β : Type} {m : M α} {k : α → M β} {ok : Ow → Hp → β → Prop} (f : Fin K mg ok E φ H (Z.bnd m k h)) : Fin K mg (fun φ' H' a => ∃ h', RelH K φ' H' h' ∧ Le φ H φ' H' ∧ Fin K mg ok E φ' H' (k a h')) E φ H (m h) := by
  unfold Z.bnd at f
  cases hm : m h with
  | none => rw [hm] at f; exact f
  | some p =>
    obtain ⟨r, h'⟩ := p
    rw [hm] at f
    cases r with
    | ok a => exact fun φ' H' l r => ⟨h', r, l, f.le l⟩
    | exc c => exact f
theorem Fin.imp {α : Type} {r : Option (R α × Hv)} {ok ok' : Ow → Hp → α → Prop} (f : Fin K mg ok E φ H r) (i : ∀ φ' H' a, ok φ' H' a → ok' φ' H' a) : Fin K mg ok' E φ H r := by
  match r, f with
  | some (.ok t, h'), f => exact fun φ2 H2 l2 q => i _ _ _ (f φ2 H2 l2 q)
  | some (.exc c, h'), f => exact f
theorem Fin.now {α : Type} {a : α} {ok : Ow → Hp → α → Prop} (f : Fin K mg ok E φ H (Z.ret a h)) (r : RelH K φ H h) : ok φ H a := f φ H (Le.refl _ _) r
/-- the reading of a part, then what follows it -/
theorem seqD {β : Type} {d : D} {k : T → M β} {ok : Ow → Hp → β → Prop} {Q : VK} (a : At K φ H sl σ h) (f : Fin K mg ok E φ H (bnd (d sl) k h))
    (c : ∀ φ' H' t v h', Le φ H φ' H' → At K φ' H' sl σ h' → Rp K φ' (Fz φ' H') t v → Fin K mg ok E φ' H' (k t h') → Q v H') : tD K mg E d σ H Q :=
  ⟨φ, sl, h, a, f.bnd.imp fun φ' H' t ⟨h', r, l, q⟩ v hv => c φ' H' t v h' l (a.le l r) hv q⟩
theorem seqA {β : Type} {d : DA} {k : List T → M β} {ok : Ow → Hp → β → Prop} {Q : List V → Hp → Prop} (a : At K φ H sl σ h) (f : Fin K mg ok E φ H (bnd (d sl) k h))
    (c : ∀ φ' H' t v h', Le φ H φ' H' → At K φ' H' sl σ h' → RpL K φ' (Fz φ' H') t v → Fin K mg ok E φ' H' (k t h') → Q v H') : tA K mg E d σ H Q :=
  ⟨φ, sl, h, a, f.bnd.imp fun φ' H' t ⟨h', r, l, q⟩ v hv => c φ' H' t v h' l (a.le l r) hv q⟩
theorem seqB {β : Type} {d : DB} {k : Bool → M β} {ok : Ow → Hp → β → Prop} {Q : Bool → Hp → Prop} (a : At K φ H sl σ h) (f : Fin K mg ok E φ H (bnd (d sl) k h))
    (c : ∀ φ' H' t h', Le φ H φ' H' → At K φ' H' sl σ h' → Fin K mg ok E φ' H' (k t h') → Q t H') : tT K mg E d σ H Q :=
  ⟨φ, sl, h, a, f.bnd.imp fun φ' H' t ⟨h', r, l, q⟩ => c φ' H' t h' l (a.le l r) q⟩
/-- a new object that is not owned -/
theorem RelH.free (r : RelH K φ H h) {p : Addr} (hp : H p = none) : ¬ φ.has p := fun m => by
  rcases m with m | m
  · obtain ⟨n, e⟩ := List.getElem?_of_mem m
    have hn : n < h.length := by rw [← r.len]; exact (List.getElem?_eq_some_iff.mp e).1
    obtain ⟨ho, q, _⟩ := r.ob n p h[n] e (by simp [hn])
    rw [hp] at q; cases q
  · obtain ⟨o, q, _⟩ := r.hd p m
    rw [hp] at q; cases q
theorem RelH.pl (r : RelH K φ H h) {n : Nat} {a : Addr} (e : φ.own[n]? = some a) : ∃ u, H a = some u ∧ Plain u := by
  have hn : n < h.length := by rw [← r.len]; exact (List.getElem?_eq_some_iff.mp e).1
  obtain ⟨ho, q, z⟩ := r.ob n a h[n] e (by simp [hn])
  exact ⟨ho, q, z.plain⟩
theorem Le.new {p : Addr} {o : HO} (hp : H p = none) (nd : ¬ φ.has p) : Le φ H φ (upd H p o) := ⟨⟨[], by simp⟩, rfl, fun a u e => by
  obtain ⟨h1, h2⟩ := Fz.of e
  exact Fz.mk h1 (by rw [upd_ne (ne_of_none h2 hp)]; exact h2) (Fz.nt e), fun a od u e => by rw [upd_ne (ne_of_none e hp)]; exact e,
  fun a m => upd_ne (fun z => nd (.inr (by rw [← z]; exact m)))⟩
theorem RelH.new (r : RelH K φ H h) {p : Addr} {o : HO} (hp : H p = none) : RelH K φ (upd H p o) h := by
  have l := Le.new (o := o) hp (r.free hp)
  refine ⟨r.nd, r.dis, fun a m => ?_, r.len, fun n a ob e1 e2 => ?_, tabs_upd r.tab (.inl hp)⟩
  · obtain ⟨o', q, z⟩ := r.hd a m
    exact ⟨o', by rw [upd_ne (ne_of_none q hp)]; exact q, z⟩
  · obtain ⟨ho, q, s⟩ := r.ob n a ob e1 e2
    exact ⟨ho, by rw [upd_ne (ne_of_none q hp)]; exact q, s.mono (fun _ _ z => z) l.ex⟩
end
end Z

/-! Lay2: expressions. -/
namespace Z
open PySem L2

/-! ### data -/
mutual
def T.py : T → PyData
  | .non => .none
  | .bl b => .bool b
  | .int i => .int i
  | .str s => .str s
  | .tup xs => .tuple (T.pys xs)
  | .lst xs => .list (T.pys xs)
  | .arg xs => .list (T.pys xs)
  | .dk _ _ => .dict []
  | .dt _ _ => .dict []
  | .ref _ => .dict []
def T.pys : List T → List PyData
  | [] => []
  | x :: xs => x.py :: T.pys xs
end
mutual
theorem Rp.dp {K : PySem.W.Frag} {φ : Ow} {F H : Hp} (e : Ex F H) : ∀ (t : T) (v : V), t.py.canLay0 = true → Rp K φ F t v → Dp K H v t.py
  | .non, v, _, h => by rw [show v = _ from h]; exact .non
  | .bl b, v, _, h => by rw [show v = _ from h]; exact .bl b
  | .int b, v, _, h => by rw [show v = _ from h]; exact .int b
  | .str b, v, _, h => by rw [show v = _ from h]; exact .str b
  | .tup xs, v, c, h => by
    obtain ⟨a, vs, rfl, s, r⟩ := h
    exact .tup (SqT.of (e _ _ s)) (RpL.dp e xs vs (by simpa [T.py, PyData.canLay0] using c) r)
  | .lst xs, v, c, h => by
    obtain ⟨a, vs, rfl, s, r⟩ := h
    exact .lst (SqL.of (e _ _ s)) (RpL.dp e xs vs (by simpa [T.py, PyData.canLay0] using c) r)
  | .arg xs, v, c, h => by
    obtain ⟨a, vs, rfl, s, r⟩ := h
    exact .lst (e.l s) (RpL.dp e xs vs (by simpa [T.py, PyData.canLay0] using c) r)
  | .dk _ _, v, c, h => by simp [T.py, PyData.canLay0] at c
  | .dt _ _, v, c, h => by simp [T.py, PyData.canLay0] at c
  | .ref _, v, c, h => by simp [T.py, PyData.canLay0] at c
theorem RpL.dp {K : PySem.W.Frag} {φ : Ow} {F H : Hp} (e : Ex F H) : ∀ (t : List T) (v : List V), PyData.canLayAll0 (T.pys t) = true → RpL K φ F t v → DpAll K H v (T.pys t)
  | [], v, _, h => by rw [show v = _ from h]; exact .nil
  | x :: xs, v, c, h => by
    obtain ⟨w, r, rfl, h1, h2⟩ := h
    have c' : x.py.canLay0 = true ∧ PyData.canLayAll0 (T.pys xs) = true := by simpa [T.pys, PyData.canLayAll0] using c
    exact .cons (Rp.dp e x w c'.1 h1) (RpL.dp e xs r c'.2 h2)
end

/-- an owned list as what it is now -/
def dr (h : Hv) : T → T
  | .ref n => match h[n]? with
    | some (.lst xs) => .lst xs
    | _ => .ref n
  | t => t
def lsO (h : Hv) : T → Option (List T)
  | .lst xs => some xs
  | .ref n => match h[n]? with
    | some (.lst xs) => some xs
    | _ => none
  | _ => none
section
variable {K : PySem.W.Frag} {mg : Str → Option Value} {E : XK} {φ : Ow} {H : Hp} {sl : Sl} {σ : L2.St} {h : Hv} {t : T} {v : V} {xs : List T}
theorem RelH.at (r : RelH K φ H h) {n : Nat} {o : O} (e : h[n]? = some o) : ∃ a ho, φ.own[n]? = some a ∧ H a = some ho ∧ RpO K φ (Fz φ H) o ho := by
  have hn : n < φ.own.length := by rw [r.len]; exact (List.getElem?_eq_some_iff.mp e).1
  obtain ⟨ho, h1, h2⟩ := r.ob n φ.own[n] o (by simp [hn]) e
  exact ⟨φ.own[n], ho, by simp [hn], h1, h2⟩
theorem RelH.lst (r : RelH K φ H h) (q : Rp K φ (Fz φ H) t v) (e : lsO h t = some xs) : ∃ a vs, v = .ref a ∧ H a = some (.lst vs) ∧ RpL K φ (Fz φ H) xs vs := by
  cases t with
  | lst ys =>
    cases e
    obtain ⟨a, vs, h1, h2, h3⟩ := q
    exact ⟨a, vs, h1, (Fz.of h2).2, h3⟩
  | ref n =>
    simp only [lsO] at e
    split at e
    · cases e
      rename_i hn
      obtain ⟨a, ho, h1, h2, vs, rfl, h3⟩ := r.at hn
      obtain ⟨b, q1, q2⟩ := q
      rw [h1] at q1; cases q1
      exact ⟨a, vs, q2, h2, h3⟩
    · cases e
  | _ => cases e
theorem RelH.dp (r : RelH K φ H h) (q : Rp K φ (Fz φ H) t v) (c : (dr h t).py.canLay0 = true) : Dp K H v (dr h t).py := by
  cases t with
  | ref n =>
    revert c
    simp only [dr]
    split
    · intro c
      rename_i xs hn
      obtain ⟨a, ho, h1, h2, vs, rfl, h3⟩ := r.at hn
      obtain ⟨b, q1, q2⟩ := q
      rw [h1] at q1; cases q1
      subst q2
      exact .lst (SqL.of h2) (RpL.dp Fz.ex _ _ (by simpa [T.py, PyData.canLay0] using c) h3)
    · intro c; simp [T.py, PyData.canLay0] at c
  | _ => exact Rp.dp Fz.ex _ _ c q
theorem Fin.newTup {Q : VK} {vs : List V} {p : Addr} (f : Fin K mg (wV K Q) E φ H (some (.ok (.tup xs), h))) (r : RelH K φ H h) (q : RpL K φ (Fz φ H) xs vs) (hp : H p = none) : Q (.ref p) (upd H p (.tup vs)) :=
  f φ _ (Le.new hp (r.free hp)) (r.new hp) _ ⟨p, vs, rfl, Fz.mk (r.free hp) upd_same, q.le (Le.new hp (r.free hp))⟩
theorem Fin.newLst {Q : VK} {vs : List V} {p : Addr} (f : Fin K mg (wV K Q) E φ H (some (.ok (.lst xs), h))) (r : RelH K φ H h) (q : RpL K φ (Fz φ H) xs vs) (hp : H p = none) : Q (.ref p) (upd H p (.lst vs)) :=
  f φ _ (Le.new hp (r.free hp)) (r.new hp) _ ⟨p, vs, rfl, Fz.mk (r.free hp) upd_same, q.le (Le.new hp (r.free hp))⟩
theorem Fin.val {Q : VK} (f : Fin K mg (wV K Q) E φ H (some (.ok t, h))) (r : RelH K φ H h) (q : Rp K φ (Fz φ H) t v) : Q v H := f φ H (Le.refl _ _) r v q
end

/-! ### names, constants -/
def dVar (i : Nat) : D := fun sl => match sl[i]? with
  | some (some t) => ret t
  | _ => bot
def dC (t : T) : D := fun _ => ret t
section
variable {X : Cx} {E : XK} {a b c : Expr} {da db dc : D} {pos : Pos}
theorem pd_name {i : Nat} {e : Expr} (p : PE X e (tVar i)) : PD X E e (dVar i) := by
  refine PE.imp p fun σ H Q ⟨φ, sl, h, a, f⟩ => ?_
  unfold dVar at f
  cases e : sl[i]? with
  | none => rw [e] at f; exact f.elim
  | some o =>
    cases o with
    | none => rw [e] at f; exact f.elim
    | some t =>
      rw [e] at f
      obtain ⟨v, h1, h2⟩ := a.s.2 i t e
      exact ⟨v, h1, f.val a.h h2⟩
theorem pv' (i : Nat) {x : Str} {pos : Pos} (hN : X.N[i]? = some x := by rfl) (hv : Vis X.env.scope x := by first | exact Or.inl rfl | exact Or.inr (Or.inl rfl) | exact Or.inr (Or.inr rfl)) (hd : (x == ("__debug__" : Str)) = false := by decide)
    (hcd : (x == ("__classdict__" : Str)) = false := by decide) : PD X E (.Name x pos) (dVar i) := pd_name (pe_var hN hv hd hcd)
theorem pd_int {i : Int} {j : Nat} : PD X E (.Constant (.int i) j pos) (dC (.int i)) := PE.imp pe_int fun σ H Q ⟨φ, sl, h, a, f⟩ => f.val a.h rfl
theorem pd_bl {i : Bool} {j : Nat} : PD X E (.Constant (.bool i) j pos) (dC (.bl i)) := PE.imp pe_bl fun σ H Q ⟨φ, sl, h, a, f⟩ => f.val a.h rfl
theorem pd_non {j : Nat} : PD X E (.Constant .none j pos) (dC .non) := PE.imp pe_non fun σ H Q ⟨φ, sl, h, a, f⟩ => f.val a.h rfl
theorem pd_str {i : Str} {j : Nat} : PD X E (.Constant (.str i) j pos) (dC (.str i)) := PE.imp pe_str fun σ H Q ⟨φ, sl, h, a, f⟩ => f.val a.h rfl
/-- a module's int -/
theorem pd_glob {x : Str} {i : Int} {t : Tok} (hg : Gl X x) (hm : X.mg x = some (.int i t)) (hd : (x == ("__debug__" : Str)) = false := by decide) : PD X E (.Name x pos) (dC (.int i)) :=
  PE.imp (pe_glob (v := .int i) hg hm ⟨t, rfl⟩ hd) fun σ H Q ⟨φ, sl, h, a, f⟩ => f.val a.h rfl
end

/-! ### two operands -/
def Op2 (X : Cx) (E : XK) (f : T → T → M T) (r : R2) : Prop := ∀ (φ : Ow) (H : Hp) (h : Hv) (tx ty : T) (x y : V) (Q : VK), RelH X.K φ H h → Rp X.K φ (Fz φ H) tx x → Rp X.K φ (Fz φ H) ty y →
  Fin X.K X.mg (wV X.K Q) E φ H (f tx ty h) → r x y H Q
def dBin (f : T → T → M T) (da db : D) : D := fun sl => bnd (da sl) fun x => bnd (db sl) fun y => f x y
section
variable {X : Cx} {E : XK} {a b c : Expr} {da db dc : D} {pos : Pos} {f g : T → T → M T} {r r' : R2}
theorem bin_imp (hf : Op2 X E f r) (σ : L2.St) (H : Hp) (Q : VK) (w : tD X.K X.mg E (dBin f da db) σ H Q) : tOp r (tD X.K X.mg E da) (tD X.K X.mg E db) σ H Q := by
  obtain ⟨φ, sl, h, at_, fin⟩ := w
  exact seqD at_ fin fun φ1 H1 x vx h1 l1 a1 r1 f1 => seqD a1 f1 fun φ2 H2 y vy h2 l2 a2 r2 f2 => hf φ2 H2 h2 x y vx vy Q a2.h (r1.le l2) r2 f2
theorem pd_bin {op : Operator} (ho : OpR X (binaryOp op) r) (hf : Op2 X E f r) (ha : PD X E a da) (hb : PD X E b db) : PD X E (.BinOp a op b pos) (dBin f da db) := PE.imp (pe_op ho ha hb) (bin_imp hf)
theorem pd_cmp {op : CmpOp} (ho : OpR X (compareOp op) r) (hf : Op2 X E f r) (ha : PD X E a da) (hb : PD X E b db) (hm : behindInMarks op b = false := by first | exact nomark _ | (with_unfolding_all rfl)) : PD X E (.Compare a [op] [b] pos) (dBin f da db) :=
  PE.imp (pe_cmpR ho ha hb hm) (bin_imp hf)
/-- a bool as a test -/
def asB : T → M Bool
  | .bl b => ret b
  | _ => bot
def dB (d : D) : DB := fun sl => bnd (d sl) asB
theorem test_imp {t : TE} {d : D} (i : ∀ σ H Q, tD X.K X.mg E d σ H Q → t σ H Q) (σ : L2.St) (H : Hp) (Q : Bool → Hp → Prop) (w : tT X.K X.mg E (dB d) σ H Q) : tTest t σ H Q := by
  obtain ⟨φ, sl, h, at_, fin⟩ := w
  refine i σ H _ (seqD at_ fin fun φ1 H1 x vx h1 l1 a1 r1 f1 => ?_)
  cases x with
  | bl b => exact ⟨b, r1, f1.now a1.h⟩
  | _ => exact f1.elim
theorem pt_cmp' {op : CmpOp} (ho : OpR X (compareOp op) r) (hf : Op2 X E f r) (ha : PD X E a da) (hb : PD X E b db) (hm : behindInMarks op b = false := by first | exact nomark _ | (with_unfolding_all rfl)) : PDB X E (.Compare a [op] [b] pos) (dB (dBin f da db)) :=
  PT.imp (pt_cmpR ho ha hb hm) (test_imp (bin_imp hf))
/-- a op1 b op2 c -/
def dChn (f g : T → T → M T) (da db dc : D) : D := fun sl => bnd (da sl) fun x => bnd (db sl) fun y => bnd (f x y) fun z => bnd (asB z) fun k => if k then bnd (dc sl) fun w => g y w else ret (.bl false)
theorem chn_imp (hf : Op2 X E f r) (hg : Op2 X E g r') (σ : L2.St) (H : Hp) (Q : VK) (w : tD X.K X.mg E (dChn f g da db dc) σ H Q) : tChain r r' (tD X.K X.mg E da) (tD X.K X.mg E db) (tD X.K X.mg E dc) σ H Q := by
  obtain ⟨φ, sl, h, at_, fin⟩ := w
  refine seqD at_ fin fun φ1 H1 x vx h1 l1 a1 r1 f1 => seqD a1 f1 fun φ2 H2 y vy h2 l2 a2 r2 f2 => ?_
  refine hf φ2 H2 h2 x y vx vy _ a2.h (r1.le l2) r2 (f2.bnd.imp fun φ3 H3 z ⟨h3, rh, l3, f3⟩ v hv => ?_)
  cases z with
  | bl k =>
    refine ⟨k, hv, ?_⟩
    cases k with
    | true => exact seqD (a2.le l3 rh) f3 fun φ4 H4 w vw h4 l4 a4 r4 f4 => hg φ4 H4 h4 y w vy vw Q a4.h ((r2.le l3).le l4) r4 f4
    | false => exact f3.val rh rfl
  | _ => exact f3.elim
theorem pd_chn {op op' : CmpOp} (ho : OpR X (compareOp op) r) (ho' : OpR X (compareOp op') r') (hf : Op2 X E f r) (hg : Op2 X E g r') (ha : PD X E a da) (hb : PD X E b db) (hc : PD X E c dc)
    (hm : lastMarks [op, op'] [b, c] = false := by with_unfolding_all rfl) : PD X E (.Compare a [op, op'] [b, c] pos) (dChn f g da db dc) := PE.imp (pe_chain ho ho' ha hb hc hm) (chn_imp hf hg)
theorem pt_chn {op op' : CmpOp} (ho : OpR X (compareOp op) r) (ho' : OpR X (compareOp op') r') (hf : Op2 X E f r) (hg : Op2 X E g r') (ha : PD X E a da) (hb : PD X E b db) (hc : PD X E c dc)
    (hm : lastMarks [op, op'] [b, c] = false := by with_unfolding_all rfl) : PDB X E (.Compare a [op, op'] [b, c] pos) (dB (dChn f g da db dc)) := PT.imp (pt_chain ho ho' ha hb hc hm) (test_imp (chn_imp hf hg))
end

/-! ### and, or, not, if -/
def dAndV (da db : D) : D := fun sl => bnd (da sl) fun x => bnd (asB x) fun k => if k then db sl else ret (.bl false)
def dOrV (da db : D) : D := fun sl => bnd (da sl) fun x => bnd (asB x) fun k => if k then ret (.bl true) else db sl
def dNotV (da : D) : D := fun sl => bnd (da sl) fun x => bnd (asB x) fun k => ret (.bl (!k))
def dAnd (da db : DB) : DB := fun sl => bnd (da sl) fun k => if k then db sl else ret false
def dOr (da db : DB) : DB := fun sl => bnd (da sl) fun k => if k then ret true else db sl
def dNot (da : DB) : DB := fun sl => bnd (da sl) fun k => ret (!k)
def dIf (dt : DB) (da db : D) : D := fun sl => bnd (dt sl) fun k => if k then da sl else db sl
abbrev PWB (X : Cx) (E : XK) (e : Expr) (d : DB) : Prop := PW X e (tT X.K X.mg E d)
theorem PW.imp {X : Cx} {e : Expr} {t t' : TT} (h : PW X e t) (i : ∀ σ H Q, t' σ H Q → t σ H Q) : PW X e t' := ⟨fun wh pins s σ H Q I w => h.run wh pins s σ H Q I (i σ H Q w)⟩
section
variable {X : Cx} {E : XK} {a b c : Expr} {da db dc : D} {ta tb : DB} {pos : Pos} {rest : List Expr}
theorem pd_one {op : BoolOp} (h : PD X E a da) : PD X E (.BoolOp op [a] pos) da := pe_one h
theorem pd_and (ha : PD X E a da) (hb : PD X E (.BoolOp .And (b :: rest) pos) db) : PD X E (.BoolOp .And (a :: b :: rest) pos) (dAndV da db) := PE.imp (pe_and ha hb) fun σ H Q ⟨φ, sl, h, at_, fin⟩ =>
  seqD at_ fin fun φ1 H1 x vx h1 l1 a1 r1 f1 => by
    cases x with
    | bl k =>
      refine ⟨k, r1, ?_⟩
      cases k with
      | true => exact ⟨φ1, sl, h1, a1, f1⟩
      | false => exact f1.val a1.h rfl
    | _ => exact f1.elim
theorem pd_or (ha : PD X E a da) (hb : PD X E (.BoolOp .Or (b :: rest) pos) db) : PD X E (.BoolOp .Or (a :: b :: rest) pos) (dOrV da db) := PE.imp (pe_or ha hb) fun σ H Q ⟨φ, sl, h, at_, fin⟩ =>
  seqD at_ fin fun φ1 H1 x vx h1 l1 a1 r1 f1 => by
    cases x with
    | bl k =>
      refine ⟨k, r1, ?_⟩
      cases k with
      | true => exact f1.val a1.h rfl
      | false => exact ⟨φ1, sl, h1, a1, f1⟩
    | _ => exact f1.elim
theorem pd_not (ha : PD X E a da) : PD X E (.UnaryOp .Not a pos) (dNotV da) := PE.imp (pe_not ha) fun σ H Q ⟨φ, sl, h, at_, fin⟩ =>
  seqD at_ fin fun φ1 H1 x vx h1 l1 a1 r1 f1 => by
    cases x with
    | bl k => exact ⟨k, r1, f1.val a1.h rfl⟩
    | _ => exact f1.elim
theorem pw_one_and (ha : PDB X E a ta) : PWB X E (.BoolOp .And [a] pos) ta := pw_and1 ha
theorem pw_one_or (ha : PDB X E a ta) : PWB X E (.BoolOp .Or [a] pos) ta := pw_or1 ha
theorem pw_and' (ha : PDB X E a ta) (hb : PWB X E (.BoolOp .And (b :: rest) pos) tb) : PWB X E (.BoolOp .And (a :: b :: rest) pos) (dAnd ta tb) := PW.imp (pw_and ha hb) fun σ H Q ⟨φ, sl, h, at_, fin⟩ =>
  seqB at_ fin fun φ1 H1 k h1 l1 a1 f1 => by
    cases k with
    | true => exact ⟨φ1, sl, h1, a1, f1⟩
    | false => exact f1.now a1.h
theorem pw_or' (ha : PDB X E a ta) (hb : PWB X E (.BoolOp .Or (b :: rest) pos) tb) : PWB X E (.BoolOp .Or (a :: b :: rest) pos) (dOr ta tb) := PW.imp (pw_or ha hb) fun σ H Q ⟨φ, sl, h, at_, fin⟩ =>
  seqB at_ fin fun φ1 H1 k h1 l1 a1 f1 => by
    cases k with
    | true => exact f1.now a1.h
    | false => exact ⟨φ1, sl, h1, a1, f1⟩
theorem pt_w {e : Expr} (h : PWB X E e ta) : PDB X E e ta := PW.pt h
theorem pt_not' (ha : PDB X E a ta) : PDB X E (.UnaryOp .Not a pos) (dNot ta) := PT.imp (pt_not ha) fun σ H Q ⟨φ, sl, h, at_, fin⟩ =>
  seqB at_ fin fun φ1 H1 k h1 l1 a1 f1 => f1.now a1.h
theorem pd_if (hc : PDB X E c ta) (ha : PD X E a da) (hb : PD X E b db) : PD X E (.IfExp c a b pos) (dIf ta da db) := PE.imp (pe_ifExp hc ha hb) fun σ H Q ⟨φ, sl, h, at_, fin⟩ =>
  seqB at_ fin fun φ1 H1 k h1 l1 a1 f1 => by
    cases k with
    | true => exact ⟨φ1, sl, h1, a1, f1⟩
    | false => exact ⟨φ1, sl, h1, a1, f1⟩
end

/-! ### truth -/
def fTru : T → M Bool
  | .non => ret false
  | .bl b => ret b
  | .int i => ret (i != 0)
  | .str s => if s.length ≤ sizeLine then ret ((s.length : Int) != 0) else bot
  | .tup xs => ret (!xs.isEmpty)
  | .arg xs => ret (!xs.isEmpty)
  | .lst xs => ret (!xs.isEmpty)
  | .ref n => fun h => match h[n]? with
    | some (.lst xs) => some (.ok (!xs.isEmpty), h)
    | some (.dk false ks _) => some (.ok (!ks.isEmpty), h)
    | _ => none
  | .dk ks _ => ret (!ks.isEmpty)
  | .dt _ _ => bot
def dTru (d : D) : DB := fun sl => bnd (d sl) fTru
theorem RpL.isEmpty {K : PySem.W.Frag} {φ : Ow} {F : Hp} {ts : List T} {vs : List V} (h : RpL K φ F ts vs) : ts.isEmpty = vs.isEmpty := by
  have := h.length
  cases ts <;> cases vs <;> simp_all
section
variable {X : Cx} {E : XK} {a b c : Expr} {da db dc : D} {ta tb : DB} {pos : Pos} {rest : List Expr}
theorem truV {K : PySem.W.Frag} {mg : Str → Option Value} {φ : Ow} {H : Hp} {h : Hv} {t : T} {v : V} {Q : Bool → Hp → Prop} (r : RelH K φ H h) (q : Rp K φ (Fz φ H) t v) (f : Fin K mg (wB Q) E φ H (fTru t h)) : ∃ k, TruV K v H k ∧ Q k H := by
  cases t with
  | non => rw [show v = _ from q]; exact ⟨false, rfl, f.now r⟩
  | bl b => rw [show v = _ from q]; exact ⟨b, rfl, f.now r⟩
  | int b => rw [show v = _ from q]; exact ⟨_, rfl, f.now r⟩
  | str b =>
    rw [show v = _ from q]
    simp only [fTru] at f
    split at f
    · exact ⟨_, ⟨by assumption, rfl⟩, f.now r⟩
    · exact f.elim
  | tup xs =>
    obtain ⟨a, vs, rfl, h1, h2⟩ := q
    exact ⟨_, .inr (.inl ⟨vs, SqT.of (Fz.of h1).2, by rw [← h2.isEmpty]⟩), f.now r⟩
  | lst xs =>
    obtain ⟨a, vs, rfl, h1, h2⟩ := q
    exact ⟨_, .inl ⟨vs, SqL.of (Fz.of h1).2, by rw [← h2.isEmpty]⟩, f.now r⟩
  | arg xs =>
    obtain ⟨a, vs, rfl, h1, h2⟩ := q
    exact ⟨_, .inl ⟨vs, Fz.ex.l h1, by rw [← h2.isEmpty]⟩, f.now r⟩
  | dk ks vs =>
    obtain ⟨a, kvs, rfl, h1, rfl, h2⟩ := q
    exact ⟨_, .inr (.inr ⟨kvs, (Fz.of h1).2, by simp⟩), f.now r⟩
  | dt ks vs => exact f.elim
  | ref n =>
    simp only [fTru] at f
    split at f
    · rename_i xs hn
      obtain ⟨a, ho, h1, h2, vs, rfl, h3⟩ := r.at hn
      obtain ⟨b, q1, rfl⟩ := q
      rw [h1] at q1; cases q1
      exact ⟨_, .inl ⟨vs, SqL.of h2, by rw [← h3.isEmpty]⟩, f φ H (Le.refl _ _) r⟩
    · rename_i ks _ hn
      obtain ⟨a, ho, h1, h2, kvs, h3, rfl, h4⟩ := r.at hn
      obtain ⟨b, q1, rfl⟩ := q
      rw [h1] at q1; cases q1
      have h3 : ho = .dK kvs := h3
      subst h3
      exact ⟨_, .inr (.inr ⟨kvs, h2, by simp⟩), f φ H (Le.refl _ _) r⟩
    · exact f.elim
theorem pt_tru (ha : PD X E a da) (he : ∀ whole, isTrue a X.env whole = (do let v ← whole; standAt a.pos; holding [v] (truthy v)) := by intro _; rfl) : PDB X E a (dTru da) := PT.imp (pt_truth ha he) fun σ H Q ⟨φ, sl, h, at_, fin⟩ =>
  seqD at_ fin fun φ1 H1 x vx h1 l1 a1 r1 f1 => truV a1.h r1 f1
end
end Z

/-! Lay3: operators. -/
namespace Z
open PySem L2

def lim : Nat := 16000000
theorem lim_le : lim ≤ sizeLine := by rw [sizeLine_eq]; decide

/-! ### dicts -/
def lookT {κ : Type} [DecidableEq κ] : List κ → List T → κ → Option T
  | k :: ks, v :: vs, j => if k = j then some v else lookT ks vs j
  | _, _, _ => none
def putV {κ : Type} [DecidableEq κ] (ks : List κ) (ts : List T) (j : κ) (t : T) : List T := if j ∈ ks then List.zipWith (fun k v => if k = j then t else v) ks ts else ts ++ [t]
def putKs {κ : Type} [DecidableEq κ] (ks : List κ) (j : κ) : List κ := if j ∈ ks then ks else ks ++ [j]
def keyOf : T → Option Key
  | .int i => some (.inl i)
  | .str s => some (.inr s)
  | _ => none
def keysL : List T → Option (List Key)
  | [] => some []
  | x :: xs => match keyOf x, keysL xs with
    | some k, some ks => some (k :: ks)
    | _, _ => none
def keysOf : T → Option (List Key)
  | .tup xs => keysL xs
  | _ => none
/-- what the dict x holds at k -/
def dkLook (h : Hv) (x k : T) : Option (Option T) := match x with
  | .dk ks vs => (keyOf k).map (lookT ks vs)
  | .dt ks vs => (keysOf k).map (lookT ks vs)
  | .ref n => match h[n]? with
    | some (.dk _ ks vs) => (keyOf k).map (lookT ks vs)
    | some (.dt _ ks vs) => (keysOf k).map (lookT ks vs)
    | _ => none
  | _ => none
section
variable {K : PySem.W.Frag} {mg : Str → Option Value} {E : XK} {φ : Ow} {F H : Hp} {sl : Sl} {σ : L2.St} {h : Hv} {t k : T} {v u : V} {xs : List T}
theorem keyOf_rp {ke : Key} (e : keyOf k = some ke) (q : Rp K φ F k v) : v = kV ke := by
  cases k with
  | int i => cases e; exact q
  | str i => cases e; exact q
  | _ => cases e
theorem keysL_rp : ∀ {xs : List T} {ke : List Key} {vs : List V}, keysL xs = some ke → RpL K φ F xs vs → vs = ke.map kV
  | [], ke, vs, e, q => by
    cases e
    exact q
  | x :: xs, ke, vs, e, q => by
    obtain ⟨v, r, rfl, h1, h2⟩ := q
    simp only [keysL] at e
    split at e
    · rename_i k ks hk hks
      cases e
      rw [keyOf_rp hk h1, keysL_rp hks h2]
      rfl
    · cases e
theorem look_rp {κ : Type} [DecidableEq κ] (j : κ) : ∀ {ks : List κ} {ts : List T} {kvs : List (κ × V)}, kvs.map (·.1) = ks → RpL K φ F ts (kvs.map (·.2)) →
    (lookT ks ts j = none ∧ valV kvs j = none) ∨ ∃ t v, lookT ks ts j = some t ∧ valV kvs j = some v ∧ Rp K φ F t v
  | [], [], [], _, _ => .inl ⟨rfl, rfl⟩
  | k :: ks, ts, [], e, _ => by cases e
  | [], ts, p :: kvs, e, _ => by cases e
  | [], t :: ts, [], _, q => by
    obtain ⟨v, r, h1, _⟩ := q
    cases h1
  | k :: ks, [], p :: kvs, _, q => by
    exact absurd (show (p :: kvs).map (·.2) = [] from q) (by simp)
  | k :: ks, t :: ts, p :: kvs, e, q => by
    obtain ⟨v, r, h1, h2, h3⟩ := q
    have e1 : p.1 = k := (List.cons.inj e).1
    have e2 : kvs.map (·.1) = ks := (List.cons.inj e).2
    have e3 : p.2 = v := (List.cons.inj h1).1
    have e4 : kvs.map (·.2) = r := (List.cons.inj h1).2
    subst e1 e3 e4
    by_cases hk : p.1 = j
    · exact .inr ⟨t, p.2, by simp [lookT, hk], valV_pos hk, h2⟩
    · rw [valV_neg hk]
      have := look_rp j e2 h3
      simpa [lookT, hk] using this

theorem zipPut {κ : Type} [DecidableEq κ] (j : κ) {t : T} {v : V} (hv : Rp K φ F t v) : ∀ {ks : List κ} {ts : List T} {kvs : List (κ × V)}, kvs.map (·.1) = ks → RpL K φ F ts (kvs.map (·.2)) →
    (kvs.map fun kv => if kv.1 = j then (kv.1, v) else kv).map (·.1) = ks ∧ RpL K φ F (List.zipWith (fun k x => if k = j then t else x) ks ts) ((kvs.map fun kv => if kv.1 = j then (kv.1, v) else kv).map (·.2))
  | [], [], [], _, _ => ⟨rfl, rfl⟩
  | k :: ks, ts, [], e, _ => by cases e
  | [], ts, p :: kvs, e, _ => by cases e
  | [], t :: ts, [], _, q => by
    obtain ⟨v, r, h1, _⟩ := q
    cases h1
  | k :: ks, [], p :: kvs, _, q => by
    exact absurd (show (p :: kvs).map (·.2) = [] from q) (by simp)
  | k :: ks, u :: ts, p :: kvs, e, q => by
    obtain ⟨w, r, h1, h2, h3⟩ := q
    have e1 : p.1 = k := (List.cons.inj e).1
    have e2 : kvs.map (·.1) = ks := (List.cons.inj e).2
    have e3 : p.2 = w := (List.cons.inj h1).1
    have e4 : kvs.map (·.2) = r := (List.cons.inj h1).2
    subst e1 e3 e4
    obtain ⟨g1, g2⟩ := zipPut j hv e2 h3
    by_cases hk : p.1 = j
    · refine ⟨?_, v, _, ?_, ?_, g2⟩
      · simp only [List.map_cons, hk, if_true, g1]
      · simp only [List.map_cons, hk, if_true]
      · show Rp K φ F (if p.1 = j then t else u) v
        rw [if_pos hk]; exact hv
    · refine ⟨?_, p.2, _, ?_, ?_, g2⟩
      · simp only [List.map_cons, hk, if_false, g1]
      · simp only [List.map_cons, hk, if_false]
      · show Rp K φ F (if p.1 = j then t else u) p.2
        rw [if_neg hk]; exact h2
theorem anyKey {κ : Type} [DecidableEq κ] (j : κ) : ∀ kvs : List (κ × V), (kvs.any fun kv => decide (kv.1 = j)) = decide (j ∈ kvs.map (·.1))
  | [] => rfl
  | p :: r => by
    rw [List.any_cons, anyKey j r]
    by_cases h : p.1 = j
    · simp [h]
    · have h' : ¬ j = p.1 := fun z => h z.symm
      simp [h, h']
theorem rpPut {κ : Type} [DecidableEq κ] (j : κ) {t : T} {v : V} (hv : Rp K φ F t v) {ks : List κ} {ts : List T} {kvs : List (κ × V)} (e : kvs.map (·.1) = ks) (q : RpL K φ F ts (kvs.map (·.2))) :
    (putK kvs j v).map (·.1) = putKs ks j ∧ RpL K φ F (putV ks ts j t) ((putK kvs j v).map (·.2)) := by
  have any : (kvs.any fun kv => decide (kv.1 = j)) = decide (j ∈ ks) := by rw [← e]; exact anyKey j kvs
  unfold putK putKs putV
  rw [any]
  by_cases hj : j ∈ ks
  · simp only [hj, decide_true, if_true]
    exact zipPut j hv e q
  · simp only [hj, decide_false, if_false, Bool.false_eq_true, List.map_append, List.map_cons, List.map_nil, e, true_and]
    exact q.append ⟨v, [], rfl, hv, rfl⟩
/-- a dict at an address -/
theorem dkLook_get {o : Option T} (r : RelH K φ H h) (q : Rp K φ (Fz φ H) t v) (qk : Rp K φ (Fz φ H) k u) (e : dkLook h t k = some o) :
    ∃ a ov, v = .ref a ∧ DGet H a u ov ∧ ((o = none ∧ ov = none) ∨ ∃ x w, o = some x ∧ ov = some w ∧ Rp K φ (Fz φ H) x w) := by
  have one : ∀ {a : Addr} {kvs : List (Key × V)} {ks : List Key} {vs : List T}, Rd H a (.dK kvs) → kvs.map (·.1) = ks → RpL K φ (Fz φ H) vs (kvs.map (·.2)) → (keyOf k).map (lookT ks vs) = some o →
      ∃ ov, DGet H a u ov ∧ ((o = none ∧ ov = none) ∨ ∃ x w, o = some x ∧ ov = some w ∧ Rp K φ (Fz φ H) x w) := by
    intro a kvs ks vs hd hk hr e
    obtain ⟨ke, h1, h2⟩ := Option.map_eq_some_iff.mp e
    subst h2
    refine ⟨valV kvs ke, .inl ⟨kvs, ke, hd, keyOf_rp h1 qk, rfl⟩, ?_⟩
    rcases look_rp ke hk hr with h | ⟨x, w, h3, h4, h5⟩
    · exact .inl h
    · exact .inr ⟨x, w, h3, h4, h5⟩
  have two : ∀ {a : Addr} {kvs : List (List Key × V)} {ks : List (List Key)} {vs : List T}, Rd H a (.dT kvs) → kvs.map (·.1) = ks → RpL K φ (Fz φ H) vs (kvs.map (·.2)) → (keysOf k).map (lookT ks vs) = some o →
      ∃ ov, DGet H a u ov ∧ ((o = none ∧ ov = none) ∨ ∃ x w, o = some x ∧ ov = some w ∧ Rp K φ (Fz φ H) x w) := by
    intro a kvs ks vs hd hk hr e
    obtain ⟨ke, h1, h2⟩ := Option.map_eq_some_iff.mp e
    subst h2
    cases k with
    | tup ys =>
      obtain ⟨b, us, rfl, hb, hu⟩ := qk
      have := keysL_rp (show keysL ys = some ke from h1) hu
      subst this
      refine ⟨valV kvs ke, .inr ⟨kvs, ke, b, hd, rfl, (Fz.of hb).2, rfl⟩, ?_⟩
      rcases look_rp ke hk hr with h | ⟨x, w, h3, h4, h5⟩
      · exact .inl h
      · exact .inr ⟨x, w, h3, h4, h5⟩
    | _ => cases h1
  cases t with
  | dk ks vs =>
    obtain ⟨a, kvs, rfl, h1, h2, h3⟩ := q
    obtain ⟨ov, g⟩ := one (.inl (Fz.of h1).2) h2 h3 e
    exact ⟨a, ov, rfl, g⟩
  | dt ks vs =>
    obtain ⟨a, kvs, rfl, h1, h2, h3⟩ := q
    obtain ⟨ov, g⟩ := two (.inl (Fz.of h1).2) h2 h3 e
    exact ⟨a, ov, rfl, g⟩
  | ref n =>
    simp only [dkLook] at e
    split at e
    · rename_i lk ks vs hn
      obtain ⟨a, ho, h1, h2, kvs, h3, h4, h5⟩ := r.at hn
      obtain ⟨b, q1, rfl⟩ := q
      rw [h1] at q1; cases q1
      have hd : Rd H a (.dK kvs) := by
        unfold Lkd at h3
        split at h3
        · obtain ⟨od, rfl⟩ := h3; exact .inr ⟨od, h2⟩
        · subst h3; exact .inl h2
      obtain ⟨ov, g⟩ := one hd h4 h5 e
      exact ⟨a, ov, rfl, g⟩
    · rename_i lk ks vs hn
      obtain ⟨a, ho, h1, h2, kvs, h3, h4, h5⟩ := r.at hn
      obtain ⟨b, q1, rfl⟩ := q
      rw [h1] at q1; cases q1
      have hd : Rd H a (.dT kvs) := by
        unfold Lkd at h3
        split at h3
        · obtain ⟨od, rfl⟩ := h3; exact .inr ⟨od, h2⟩
        · subst h3; exact .inl h2
      obtain ⟨ov, g⟩ := two hd h4 h5 e
      exact ⟨a, ov, rfl, g⟩
    · cases e
  | _ => cases e
end

/-! ### + - * // % -/
def fAdd : T → T → M T
  | .int i, .int j => ret (.int (i + j))
  | .str i, .str j => if i.length + j.length ≤ lim then ret (.str (i ++ j)) else bot
  | .tup xs, .tup ys => if xs.length + ys.length ≤ lim then ret (.tup (xs ++ ys)) else bot
  | x, y => fun h => match lsO h x, lsO h y with
    | some xs, some ys => if xs.length + ys.length ≤ lim then some (.ok (.lst (xs ++ ys)), h) else none
    | _, _ => none
def fSub : T → T → M T
  | .int i, .int j => ret (.int (i - j))
  | _, _ => bot
def sm64 (i : Int) : Bool := decide (-18446744073709551616 < i ∧ i < 18446744073709551616)
def fMul : T → T → M T
  | .int i, .int j => if sm64 i || sm64 j then ret (.int (i * j)) else bot
  | x, .int k => fun h => match lsO h x with
    | some xs => if -9223372036854775808 ≤ k ∧ k < 9223372036854775808 ∧ xs.length * k.toNat ≤ lim then some (.ok (.lst (List.replicate k.toNat xs).flatten), h) else none
    | none => none
  | _, _ => bot
def fDiv : T → T → M T
  | .int i, .int j => if 0 < j ∧ j < 1073741824 then ret (.int (i / j)) else bot
  | _, _ => bot
def fMod : T → T → M T
  | .int i, .int j => if 0 < j then ret (.int (i % j)) else bot
  | _, _ => bot
def fNeg : T → M T
  | .int i => ret (.int (-i))
  | _ => bot
def dUn (f : T → M T) (d : D) : D := fun sl => bnd (d sl) f
section
variable {X : Cx} {E : XK} {a b c : Expr} {da db dc : D} {pos : Pos}
abbrev rAdd (K : PySem.W.Frag) : R2 := fun x y H Q => (∃ i j, x = .int i ∧ y = .int j ∧ Q (.int (i + j)) H) ∨ (∃ i j, x = .str i ∧ y = .str j ∧ i.length + j.length ≤ sizeLine ∧ Q (.str (i ++ j)) H) ∨ rCatA K x y H Q ∨ rCat x y H Q
theorem or_add : OpR X (binaryOp .Add) (rAdd X.K) := OpR.or op_add (OpR.or op_add_str (OpR.or op_catA op_cat))
theorem RpL.nilL {K : PySem.W.Frag} {φ : Ow} {F : Hp} {vs : List V} (h : RpL K φ F [] vs) : vs = [] := h
theorem o2_add : Op2 X E fAdd (rAdd X.K) := by
  intro φ H h tx ty x y Q rh rx ry f
  have lists : Fin X.K X.mg (wV X.K Q) E φ H (match lsO h tx, lsO h ty with
    | some xs, some ys => if xs.length + ys.length ≤ lim then some (.ok (.lst (xs ++ ys)), h) else none
    | _, _ => none) → rAdd X.K x y H Q := by
    intro f
    split at f
    · rename_i xs ys e1 e2
      split at f
      · rename_i hl
        obtain ⟨a1, vs, rfl, h1, h2⟩ := rh.lst rx e1
        obtain ⟨a2, us, rfl, h3, h4⟩ := rh.lst ry e2
        exact .inr (.inr (.inr ⟨a1, a2, vs, us, rfl, rfl, h1, h3, by rw [← h2.length, ← h4.length]; exact Nat.le_trans hl lim_le, fun p hp => f.newLst rh (h2.append h4) hp⟩))
      · exact f.elim
    · exact f.elim
  cases tx with
  | int i =>
    cases ty with
    | int j =>
      rw [show x = _ from rx, show y = _ from ry]
      exact .inl ⟨i, j, rfl, rfl, f.val rh rfl⟩
    | _ => exact lists f
  | str i =>
    cases ty with
    | str j =>
      rw [show x = _ from rx, show y = _ from ry]
      simp only [fAdd] at f
      split at f
      · rename_i hl
        exact .inr (.inl ⟨i, j, rfl, rfl, Nat.le_trans hl lim_le, f.val rh rfl⟩)
      · exact f.elim
    | _ => exact lists f
  | tup xs =>
    cases ty with
    | tup ys =>
      simp only [fAdd] at f
      split at f
      · rename_i hl
        obtain ⟨a1, vs, rfl, h1, h2⟩ := id rx
        obtain ⟨a2, us, rfl, h3, h4⟩ := id ry
        refine .inr (.inr (.inl ⟨a1, a2, vs, us, rfl, rfl, .of (Fz.of h1).2, .of (Fz.of h3).2, by rw [← h2.length, ← h4.length]; exact Nat.le_trans hl lim_le, fun e => ?_, fun _ e => ?_, fun _ _ p hp => f.newTup rh (h2.append h4) hp⟩))
        · subst e
          have : xs = [] := List.length_eq_zero_iff.mp h2.length
          subst this
          exact f.val rh ry
        · subst e
          have : ys = [] := List.length_eq_zero_iff.mp h4.length
          subst this
          rw [List.append_nil] at f
          exact f.val rh rx
      · exact f.elim
    | _ => exact lists f
  | _ => exact lists f
theorem o2_sub : Op2 X E fSub (rI0 fun i j => .int (i - j)) := by
  intro φ H h tx ty x y Q rh rx ry f
  cases tx with
  | int i =>
    cases ty with
    | int j =>
      rw [show x = _ from rx, show y = _ from ry]
      exact ⟨i, j, rfl, rfl, f.val rh rfl⟩
    | _ => exact f.elim
  | _ => exact f.elim
theorem sm64_of {i : Int} (h : sm64 i = true) : -(2 ^ 64) < i ∧ i < 2 ^ 64 := by
  have := of_decide_eq_true h
  have e : (2 : Int) ^ 64 = 18446744073709551616 := by decide
  rw [e]
  exact this
abbrev rMul : R2 := fun x y H Q => rI CMul (fun i j => .int (i * j)) x y H Q ∨ rRep x y H Q
theorem or_mul : OpR X (binaryOp .Mult) rMul := OpR.or op_mul op_rep
theorem o2_mul : Op2 X E fMul rMul := by
  intro φ H h tx ty x y Q rh rx ry f
  cases ty with
  | int k =>
    have other : Fin X.K X.mg (wV X.K Q) E φ H (match lsO h tx with
    | some xs => if -9223372036854775808 ≤ k ∧ k < 9223372036854775808 ∧ xs.length * k.toNat ≤ lim then some (.ok (.lst (List.replicate k.toNat xs).flatten), h) else none
    | none => none) → rMul x y H Q := by
      intro f
      split at f
      · rename_i xs e
        split at f
        · rename_i hl
          obtain ⟨a1, vs, rfl, h1, h2⟩ := rh.lst rx e
          refine .inr ⟨a1, k, vs, rfl, ry, h1, by omega, by omega, by rw [← h2.length]; exact Nat.le_trans hl.2.2 lim_le, fun p hp => f.newLst rh ?_ hp⟩
          have : ∀ n, RpL X.K φ (Fz φ H) (List.replicate n xs).flatten (List.replicate n vs).flatten := by
            intro n
            induction n with
            | zero => rfl
            | succ n ih => rw [List.replicate_succ, List.replicate_succ, List.flatten_cons, List.flatten_cons]; exact h2.append ih
          exact this _
        · exact f.elim
      · exact f.elim
    cases tx with
    | int i =>
      simp only [fMul] at f
      split at f
      · rename_i hc
        rw [show x = _ from rx, show y = _ from ry]
        refine .inl ⟨i, k, rfl, rfl, ?_, f.val rh rfl⟩
        rcases Bool.or_eq_true_iff.mp hc with hc | hc
        · exact .inl (sm64_of hc)
        · exact .inr (sm64_of hc)
      · exact f.elim
    | _ => exact other f
  | _ => cases tx <;> exact f.elim
theorem o2_fdiv : Op2 X E fDiv (rI CDiv fun i j => .int (i / j)) := by
  intro φ H h tx ty x y Q rh rx ry f
  cases tx with
  | int i =>
    cases ty with
    | int j =>
      simp only [fDiv] at f
      split at f
      · rename_i hc
        rw [show x = _ from rx, show y = _ from ry]
        exact ⟨i, j, rfl, rfl, hc, f.val rh rfl⟩
      · exact f.elim
    | _ => exact f.elim
  | _ => exact f.elim
theorem o2_mod : Op2 X E fMod (rI (fun _ j => 0 < j) fun i j => .int (i % j)) := by
  intro φ H h tx ty x y Q rh rx ry f
  cases tx with
  | int i =>
    cases ty with
    | int j =>
      simp only [fMod] at f
      split at f
      · rename_i hc
        rw [show x = _ from rx, show y = _ from ry]
        exact ⟨i, j, rfl, rfl, hc, f.val rh rfl⟩
      · exact f.elim
    | _ => exact f.elim
  | _ => exact f.elim
theorem pd_add (ha : PD X E a da) (hb : PD X E b db) : PD X E (.BinOp a .Add b pos) (dBin fAdd da db) := pd_bin or_add o2_add ha hb
theorem pd_sub (ha : PD X E a da) (hb : PD X E b db) : PD X E (.BinOp a .Sub b pos) (dBin fSub da db) := pd_bin op_sub o2_sub ha hb
theorem pd_mul (ha : PD X E a da) (hb : PD X E b db) : PD X E (.BinOp a .Mult b pos) (dBin fMul da db) := pd_bin or_mul o2_mul ha hb
theorem pd_fdiv (ha : PD X E a da) (hb : PD X E b db) : PD X E (.BinOp a .FloorDiv b pos) (dBin fDiv da db) := pd_bin op_fdiv o2_fdiv ha hb
theorem pd_mod (ha : PD X E a da) (hb : PD X E b db) : PD X E (.BinOp a .Mod b pos) (dBin fMod da db) := pd_bin op_mod o2_mod ha hb
theorem pd_neg (ha : PD X E a da) : PD X E (.UnaryOp .USub a pos) (dUn fNeg da) := PE.imp (pe_un un_neg ha) fun σ H Q ⟨φ, sl, h, at_, fin⟩ =>
  seqD at_ fin fun φ1 H1 x vx h1 l1 a1 r1 f1 => by
    cases x with
    | int i => exact ⟨i, r1, f1.val a1.h rfl⟩
    | _ => exact f1.elim
end

/-! ### comparisons -/
def fCmpI (g : Int → Int → Bool) : T → T → M T
  | .int i, .int j => ret (.bl (g i j))
  | _, _ => bot
def fLt := fCmpI fun i j => decide (i < j)
def fLe := fCmpI fun i j => decide (i ≤ j)
def fGt := fCmpI fun i j => decide (j < i)
def fGe := fCmpI fun i j => decide (j ≤ i)
def eqQ (h : Hv) (x y : T) : Option Bool := if SeqAt.shaped (dr h x).py && SeqAt.shaped (dr h y).py then some (PyData.eqv (dr h x).py (dr h y).py) else none
def fEq (x y : T) : M T := fun h => match eqQ h x y with
  | some b => some (.ok (.bl b), h)
  | none => none
def fNe (x y : T) : M T := fun h => match eqQ h x y with
  | some b => some (.ok (.bl (!b)), h)
  | none => none
def T.isNon : T → Bool
  | .non => true
  | _ => false
def isQ : T → T → Option Bool
  | x, .non => some x.isNon
  | .bl a, .bl b => some (decide (a = b))
  | _, _ => none
def fIs (x y : T) : M T := fun h => match isQ x y with
  | some b => some (.ok (.bl b), h)
  | none => none
def fNot (x y : T) : M T := fun h => match isQ x y with
  | some b => some (.ok (.bl (!b)), h)
  | none => none
def inL (x : T) (ys : List T) : Option Bool := if SeqAt.shaped x.py && SeqAt.shaped (.list (T.pys ys)) then some ((T.pys ys).any fun z => PyData.eqv z x.py) else none
def inQ (h : Hv) (x y : T) : Option Bool := match dr h y with
  | .tup ys => inL (dr h x) ys
  | .lst ys => inL (dr h x) ys
  | .arg ys => inL (dr h x) ys
  | .str j => match x with
    | .str i => some (!(Builtin.Str.occurrences j i 0 j.length 1).isEmpty)
    | _ => none
  | y => match dkLook h y x with
    | some o => some o.isSome
    | none => none
def fIn (x y : T) : M T := fun h => match inQ h x y with
  | some b => some (.ok (.bl b), h)
  | none => none
def fNotIn (x y : T) : M T := fun h => match inQ h x y with
  | some b => some (.ok (.bl (!b)), h)
  | none => none
section
variable {X : Cx} {E : XK} {a b c : Expr} {da db dc : D} {pos : Pos}
theorem o2_cmpI {g : Int → Int → Bool} : Op2 X E (fCmpI g) (rI0 fun i j => .bl (g i j)) := by
  intro φ H h tx ty x y Q rh rx ry f
  cases tx with
  | int i =>
    cases ty with
    | int j =>
      rw [show x = _ from rx, show y = _ from ry]
      exact ⟨i, j, rfl, rfl, f.val rh rfl⟩
    | _ => exact f.elim
  | _ => exact f.elim
theorem o2_lt : Op2 X E fLt (rI0 fun i j => .bl (decide (i < j))) := o2_cmpI
theorem o2_le : Op2 X E fLe (rI0 fun i j => .bl (decide (i ≤ j))) := o2_cmpI
theorem o2_gt : Op2 X E fGt (rI0 fun i j => .bl (decide (j < i))) := o2_cmpI
theorem o2_ge : Op2 X E fGe (rI0 fun i j => .bl (decide (j ≤ i))) := o2_cmpI
theorem finQ {K : PySem.W.Frag} {mg : Str → Option Value} {φ : Ow} {H : Hp} {h : Hv} {Q : VK} {o : Option Bool} {g : Bool → Bool} (f : Fin K mg (wV K Q) E φ H (match o with
  | some b => some (.ok (.bl (g b)), h)
  | none => none)) (r : RelH K φ H h) : ∃ b, o = some b ∧ Q (.bl (g b)) H := by
  cases o with
  | none => exact f.elim
  | some b => exact ⟨b, rfl, f.val r rfl⟩
theorem eqQ_dp {K : PySem.W.Frag} {φ : Ow} {H : Hp} {h : Hv} {tx ty : T} {x y : V} {b : Bool} (rh : RelH K φ H h) (rx : Rp K φ (Fz φ H) tx x) (ry : Rp K φ (Fz φ H) ty y) (e : eqQ h tx ty = some b) :
    ∃ d d', Dp K H x d ∧ Dp K H y d' ∧ SeqAt.shaped d = true ∧ SeqAt.shaped d' = true ∧ b = PyData.eqv d d' := by
  unfold eqQ at e
  split at e
  · rename_i hs
    obtain ⟨h1, h2⟩ := Bool.and_eq_true_iff.mp hs
    cases e
    exact ⟨_, _, rh.dp rx (SeqAt.canLay_of_shaped h1), rh.dp ry (SeqAt.canLay_of_shaped h2), h1, h2, rfl⟩
  · cases e
theorem o2_eq : Op2 X E fEq (rEqD X.K) := by
  intro φ H h tx ty x y Q rh rx ry f
  obtain ⟨b, e, q⟩ := finQ (g := id) f rh
  obtain ⟨d, d', h1, h2, h3, h4, rfl⟩ := eqQ_dp rh rx ry e
  exact ⟨d, d', h1, h2, h3, h4, q⟩
theorem o2_ne : Op2 X E fNe (rNeD X.K) := by
  intro φ H h tx ty x y Q rh rx ry f
  obtain ⟨b, e, q⟩ := finQ (g := not) f rh
  obtain ⟨d, d', h1, h2, h3, h4, rfl⟩ := eqQ_dp rh rx ry e
  exact ⟨d, d', h1, h2, h3, h4, q⟩
theorem isNon_rp {K : PySem.W.Frag} {φ : Ow} {F : Hp} {t : T} {v : V} (r : Rp K φ F t v) : t.isNon = decide (v = .non) := by
  cases t with
  | non => rw [show v = _ from r]; rfl
  | bl b => rw [show v = _ from r]; rfl
  | int b => rw [show v = _ from r]; rfl
  | str b => rw [show v = _ from r]; rfl
  | tup xs => obtain ⟨_, _, rfl, _⟩ := r; rfl
  | lst xs => obtain ⟨_, _, rfl, _⟩ := r; rfl
  | arg xs => obtain ⟨_, _, rfl, _⟩ := r; rfl
  | dk ks xs => obtain ⟨_, _, rfl, _⟩ := r; rfl
  | dt ks xs => obtain ⟨_, _, rfl, _⟩ := r; rfl
  | ref xs => obtain ⟨_, _, rfl⟩ := r; rfl
theorem isQ_rp {K : PySem.W.Frag} {φ : Ow} {F : Hp} {tx ty : T} {x y : V} {k : Bool} (rx : Rp K φ F tx x) (ry : Rp K φ F ty y) (e : isQ tx ty = some k) : (y = .non ∧ k = decide (x = .non)) ∨ ∃ a b, x = .bl a ∧ y = .bl b ∧ k = decide (a = b) := by
  cases ty with
  | non =>
    have : some tx.isNon = some k := by cases tx <;> exact e
    cases this
    exact .inl ⟨ry, isNon_rp rx⟩
  | bl b =>
    cases tx with
    | bl a => cases e; exact .inr ⟨a, b, rx, ry, rfl⟩
    | _ => cases e
  | _ => cases tx <;> cases e
abbrev rIs : R2 := fun x y H Q => (y = .non ∧ Q (.bl (decide (x = .non))) H) ∨ ∃ a b, x = .bl a ∧ y = .bl b ∧ Q (.bl (decide (a = b))) H
abbrev rNot : R2 := fun x y H Q => (y = .non ∧ Q (.bl (!decide (x = .non))) H) ∨ ∃ a b, x = .bl a ∧ y = .bl b ∧ Q (.bl (!decide (a = b))) H
theorem or_is : OpR X (compareOp .Is) rIs := OpR.or op_isN op_is_bl
theorem or_not : OpR X (compareOp .IsNot) rNot := OpR.or op_notN op_isnot_bl
theorem o2_is : Op2 X E fIs rIs := by
  intro φ H h tx ty x y Q rh rx ry f
  obtain ⟨k, e, q⟩ := finQ (g := id) f rh
  rcases isQ_rp rx ry e with ⟨h1, rfl⟩ | ⟨a, b, h1, h2, rfl⟩
  · exact .inl ⟨h1, q⟩
  · exact .inr ⟨a, b, h1, h2, q⟩
theorem o2_not : Op2 X E fNot rNot := by
  intro φ H h tx ty x y Q rh rx ry f
  obtain ⟨k, e, q⟩ := finQ (g := not) f rh
  rcases isQ_rp rx ry e with ⟨h1, rfl⟩ | ⟨a, b, h1, h2, rfl⟩
  · exact .inl ⟨h1, q⟩
  · exact .inr ⟨a, b, h1, h2, q⟩

def rInTup (K : PySem.W.Frag) (neg : Bool) : R2 := fun x y H Q => ∃ d ds, Dp K H x d ∧ Dp K H y (.tuple ds) ∧ SeqAt.shaped d = true ∧ SeqAt.shaped (.tuple ds) = true ∧ Q (.bl (neg ^^ ds.any fun z => PyData.eqv z d)) H
theorem op_inTup (hu : X.A.units + 65 < cLine) : OpR X (compareOp .In) (rInTup X.K false) := by
  intro pins s σ H x y v u Q I rx ry h
  obtain ⟨d, ds, hd, he, sd, se, q⟩ := h
  obtain ⟨as, r1⟩ := Dp.reads I d x v hd rx
  obtain ⟨bs, r2⟩ := Dp.reads I (.tuple ds) y u he ry
  rw [Bool.false_xor] at q
  exact SeqAt.in_tuple_reads r2 r1 (SeqAt.canLay_of_shaped se) (SeqAt.canLay_of_shaped sd) (PyProof.Rows.room_in_shaped sd hu) ⟨.bl _, H, I, rfl, q⟩
theorem op_notInTup (hu : X.A.units + 65 < cLine) : OpR X (compareOp .NotIn) (rInTup X.K true) := by
  intro pins s σ H x y v u Q I rx ry h
  obtain ⟨d, ds, hd, he, sd, se, q⟩ := h
  obtain ⟨as, r1⟩ := Dp.reads I d x v hd rx
  obtain ⟨bs, r2⟩ := Dp.reads I (.tuple ds) y u he ry
  rw [Bool.true_xor] at q
  exact SeqAt.notIn_tuple_reads r2 r1 (SeqAt.canLay_of_shaped se) (SeqAt.canLay_of_shaped sd) (PyProof.Rows.room_in_shaped sd hu) ⟨.bl _, H, I, rfl, q⟩
def rInDict (neg : Bool) : R2 := fun y x H Q => ∃ a o, x = .ref a ∧ DGet H a y o ∧ Q (.bl (neg ^^ o.isSome)) H
theorem op_inDict (hu : X.A.units + 1 < cLine) : OpR X (compareOp .In) (rInDict false) := by
  intro pins s σ H y x v u Q I ry rx h
  obtain ⟨a, o, rfl, g, q⟩ := h
  cases rx
  rw [Bool.false_xor] at q
  exact d_in hu I g ry fun s3 I3 => ⟨.bl o.isSome, H, I3, rfl, q⟩
theorem op_notInDict (hu : X.A.units + 1 < cLine) : OpR X (compareOp .NotIn) (rInDict true) := by
  intro pins s σ H y x v u Q I ry rx h
  obtain ⟨a, o, rfl, g, q⟩ := h
  cases rx
  rw [Bool.true_xor] at q
  exact d_notIn hu I g ry fun s3 I3 => ⟨.bl (!o.isSome), H, I3, rfl, q⟩
abbrev rInA (K : PySem.W.Frag) : R2 := fun x y H Q => rInD K x y H Q ∨ rInTup K false x y H Q ∨ (∃ i j, x = .str i ∧ y = .str j ∧ Q (.bl (!(Builtin.Str.occurrences j i 0 j.length 1).isEmpty)) H) ∨ rInDict false x y H Q
abbrev rNotInA (K : PySem.W.Frag) : R2 := fun x y H Q => rNotInD K x y H Q ∨ rInTup K true x y H Q ∨ (∃ i j, x = .str i ∧ y = .str j ∧ Q (.bl (!(!(Builtin.Str.occurrences j i 0 j.length 1).isEmpty))) H) ∨ rInDict true x y H Q
theorem or_in (hu : X.A.units + 65 < cLine) : OpR X (compareOp .In) (rInA X.K) := OpR.or (op_inD hu) (OpR.or (op_inTup hu) (OpR.or op_in_str (op_inDict (by omega))))
theorem or_notin (hu : X.A.units + 65 < cLine) : OpR X (compareOp .NotIn) (rNotInA X.K) := OpR.or (op_notInD hu) (OpR.or (op_notInTup hu) (OpR.or op_notin_str (op_notInDict (by omega))))
theorem inL_of {x : T} {ys : List T} {k : Bool} (e : inL x ys = some k) : SeqAt.shaped x.py = true ∧ SeqAt.shaped (.list (T.pys ys)) = true ∧ k = (T.pys ys).any fun z => PyData.eqv z x.py := by
  unfold inL at e
  split at e
  · rename_i hs
    obtain ⟨h1, h2⟩ := Bool.and_eq_true_iff.mp hs
    cases e
    exact ⟨h1, h2, rfl⟩
  · cases e
theorem inQ_rp {K : PySem.W.Frag} {φ : Ow} {H : Hp} {h : Hv} {tx ty : T} {x y : V} {k : Bool} (rh : RelH K φ H h) (rx : Rp K φ (Fz φ H) tx x) (ry : Rp K φ (Fz φ H) ty y) (e : inQ h tx ty = some k) :
    (∃ d ds, Dp K H x d ∧ Dp K H y (.list ds) ∧ SeqAt.shaped d = true ∧ SeqAt.shaped (.list ds) = true ∧ k = ds.any fun z => PyData.eqv z d) ∨
    (∃ d ds, Dp K H x d ∧ Dp K H y (.tuple ds) ∧ SeqAt.shaped d = true ∧ SeqAt.shaped (.tuple ds) = true ∧ k = ds.any fun z => PyData.eqv z d) ∨
    (∃ i j, x = .str i ∧ y = .str j ∧ k = !(Builtin.Str.occurrences j i 0 j.length 1).isEmpty) ∨ ∃ a o, y = .ref a ∧ DGet H a x o ∧ k = o.isSome := by
  unfold inQ at e
  split at e
  · rename_i ys hy
    obtain ⟨h1, h2, rfl⟩ := inL_of e
    have h2' : SeqAt.shaped (.tuple (T.pys ys)) = true := by
      simpa [SeqAt.shaped, PyData.canLay0, PyData.depth] using h2
    refine .inr (.inl ⟨_, T.pys ys, rh.dp rx (SeqAt.canLay_of_shaped h1), ?_, h1, h2', rfl⟩)
    have := rh.dp ry (by rw [hy]; simpa [T.py] using SeqAt.canLay_of_shaped h2')
    rw [hy] at this
    simpa [T.py] using this
  · rename_i ys hy
    obtain ⟨h1, h2, rfl⟩ := inL_of e
    refine .inl ⟨_, T.pys ys, rh.dp rx (SeqAt.canLay_of_shaped h1), ?_, h1, h2, rfl⟩
    have := rh.dp ry (by rw [hy]; simpa [T.py] using SeqAt.canLay_of_shaped h2)
    rw [hy] at this
    simpa [T.py] using this
  · rename_i ys hy
    obtain ⟨h1, h2, rfl⟩ := inL_of e
    refine .inl ⟨_, T.pys ys, rh.dp rx (SeqAt.canLay_of_shaped h1), ?_, h1, h2, rfl⟩
    have := rh.dp ry (by rw [hy]; simpa [T.py] using SeqAt.canLay_of_shaped h2)
    rw [hy] at this
    simpa [T.py] using this
  · rename_i j hy
    split at e
    · rename_i i
      have : ty = .str j := by
        cases ty with
        | ref n =>
          simp only [dr] at hy
          split at hy <;> cases hy
        | _ => exact hy
      subst this
      cases e
      exact .inr (.inr (.inl ⟨i, j, rx, ry, rfl⟩))
    · cases e
  · rename_i y' n1 n2 n3 n4
    split at e
    · rename_i o ho
      cases e
      have : dr h ty = ty := by
        cases ty with
        | ref n =>
          revert n2
          simp only [dr]
          split
          · intro n2
            exact absurd rfl (n2 _)
          · intros; rfl
        | _ => rfl
      rw [this] at ho
      obtain ⟨a, ov, h1, h2, h3⟩ := dkLook_get rh ry rx ho
      refine .inr (.inr (.inr ⟨a, ov, h1, h2, ?_⟩))
      rcases h3 with ⟨rfl, rfl⟩ | ⟨_, _, rfl, rfl, _⟩ <;> rfl
    · cases e
theorem o2_in : Op2 X E fIn (rInA X.K) := by
  intro φ H h tx ty x y Q rh rx ry f
  obtain ⟨k, e, q⟩ := finQ (g := id) f rh
  rcases inQ_rp rh rx ry e with ⟨d, ds, h1, h2, h3, h4, rfl⟩ | ⟨d, ds, h1, h2, h3, h4, rfl⟩ | ⟨i, j, h1, h2, rfl⟩ | ⟨a, o, h1, h2, rfl⟩
  · exact .inl ⟨d, ds, h1, h2, h3, h4, q⟩
  · exact .inr (.inl ⟨d, ds, h1, h2, h3, h4, by rw [Bool.false_xor]; exact q⟩)
  · exact .inr (.inr (.inl ⟨i, j, h1, h2, q⟩))
  · exact .inr (.inr (.inr ⟨a, o, h1, h2, by rw [Bool.false_xor]; exact q⟩))
theorem o2_notin : Op2 X E fNotIn (rNotInA X.K) := by
  intro φ H h tx ty x y Q rh rx ry f
  obtain ⟨k, e, q⟩ := finQ (g := not) f rh
  rcases inQ_rp rh rx ry e with ⟨d, ds, h1, h2, h3, h4, rfl⟩ | ⟨d, ds, h1, h2, h3, h4, rfl⟩ | ⟨i, j, h1, h2, rfl⟩ | ⟨a, o, h1, h2, rfl⟩
  · exact .inl ⟨d, ds, h1, h2, h3, h4, q⟩
  · exact .inr (.inl ⟨d, ds, h1, h2, h3, h4, by rw [Bool.true_xor]; exact q⟩)
  · exact .inr (.inr (.inl ⟨i, j, h1, h2, q⟩))
  · exact .inr (.inr (.inr ⟨a, o, h1, h2, by rw [Bool.true_xor]; exact q⟩))
end
end Z

/-! Lay4: displays, subscripts, slices, calls of builtins, methods. -/
namespace Z
open PySem L2

/-! ### owned objects: a new one, a changed one -/
section
variable {K : PySem.W.Frag} {mg : Str → Option Value} {E : XK} {φ : Ow} {F H : Hp} {sl : Sl} {σ : L2.St} {h : Hv} {t k : T} {v u : V} {xs : List T} {p a : Addr} {o : O} {ho : HO} {n : Nat}
theorem RelH.own (r : RelH K φ H h) (hp : H p = none) (q : RpO K φ (Fz φ H) o ho) : Le φ H (φ.add p) (upd H p ho) ∧ RelH K (φ.add p) (upd H p ho) (h ++ [o]) := by
  have np := r.free hp
  have ex : Ex (Fz φ H) (Fz (φ.add p) (upd H p ho)) := fun a u e => by
    obtain ⟨h1, h2⟩ := Fz.of e
    have ne : a ≠ p := ne_of_none h2 hp
    refine Fz.mk (fun z => ?_) (by rw [upd_ne ne]; exact h2) (Fz.nt e)
    rcases z with z | z
    · rcases List.mem_append.mp z with z | z
      · exact h1 (.inl z)
      · exact ne (by simpa using z)
    · exact h1 (.inr z)
  have l : Le φ H (φ.add p) (upd H p ho) := ⟨⟨[p], rfl⟩, rfl, ex, fun a od u e => by rw [upd_ne (ne_of_none e hp)]; exact e, fun a m => upd_ne (fun z => np (.inr (by rw [← z]; exact m)))⟩
  refine ⟨l, ?_, fun a m => ?_, fun a m => ?_, by simp [Ow.add, r.len], fun m b ob e1 e2 => ?_, tabs_upd r.tab (.inl hp)⟩
  · show (φ.own ++ [p]).Nodup
    rw [List.nodup_append]
    refine ⟨r.nd, by simp, fun x hx y hy z => ?_⟩
    simp at hy
    subst hy z
    exact np (.inl hx)
  · rcases List.mem_append.mp m with m | m
    · exact r.dis a m
    · have : a = p := by simpa using m
      subst this
      exact fun z => np (.inr z)
  · obtain ⟨o', q', z⟩ := r.hd a m
    exact ⟨o', by rw [upd_ne (ne_of_none q' hp)]; exact q', z⟩
  · have e1 : (φ.own ++ [p])[m]? = some b := e1
    by_cases hm : m < φ.own.length
    · rw [List.getElem?_append_left hm] at e1
      rw [List.getElem?_append_left (by rw [← r.len]; exact hm)] at e2
      obtain ⟨hb, q1, q2⟩ := r.ob m b ob e1 e2
      exact ⟨hb, by rw [upd_ne (ne_of_none q1 hp)]; exact q1, q2.mono (fun _ _ z => l.at z) ex⟩
    · have hm2 : m = φ.own.length := by
        have := (List.getElem?_eq_some_iff.mp e1).1
        simp at this; omega
      subst hm2
      rw [List.getElem?_append_right (Nat.le_refl _)] at e1
      rw [List.getElem?_append_right (by rw [r.len]; exact Nat.le_refl _)] at e2
      simp [r.len] at e1 e2
      subst e1 e2
      exact ⟨ho, upd_same, q.mono (fun _ _ z => l.at z) ex⟩
theorem RelH.upd' (r : RelH K φ H h) (e1 : φ.own[n]? = some a) (nf : ∀ od u, H a ≠ some (.frz od u)) (q : RpO K φ (Fz φ H) o ho) : Le φ H φ (upd H a ho) ∧ RelH K φ (upd H a ho) (h.set n o) := by
  have ma : a ∈ φ.own := List.mem_of_getElem? e1
  have nh := r.dis a ma
  have ex : Ex (Fz φ H) (Fz φ (upd H a ho)) := fun b u e => by
    obtain ⟨h1, h2⟩ := Fz.of e
    have ne : b ≠ a := fun z => h1 (.inl (by rw [z]; exact ma))
    exact Fz.mk h1 (by rw [upd_ne ne]; exact h2) (Fz.nt e)
  have l : Le φ H φ (upd H a ho) := ⟨⟨[], by simp⟩, rfl, ex, fun b od u e => by
    have ne : b ≠ a := fun z => nf od u (by rw [← z]; exact e)
    rw [upd_ne ne]; exact e, fun b m => upd_ne (fun z => nh (by rw [← z]; exact m))⟩
  refine ⟨l, r.nd, r.dis, fun b m => ?_, by simp [r.len], fun m b ob e2 e3 => ?_, tabs_upd r.tab (.inr (r.pl e1))⟩
  · obtain ⟨o', q', z'⟩ := r.hd b m
    exact ⟨o', by rw [upd_ne (fun z => nh (by rw [← z]; exact m))]; exact q', z'⟩
  · by_cases hm : n = m
    · subst hm
      rw [e1] at e2
      cases e2
      have hn : n < h.length := by rw [← r.len]; exact (List.getElem?_eq_some_iff.mp e1).1
      rw [List.getElem?_set_self hn] at e3
      cases e3
      exact ⟨ho, upd_same, q.mono (fun _ _ z => z) ex⟩
    · rw [List.getElem?_set_ne hm] at e3
      obtain ⟨hb, q1, q2⟩ := r.ob m b ob e2 e3
      have ne : b ≠ a := by
        rintro rfl
        exact hm ((List.getElem?_inj (List.getElem?_eq_some_iff.mp e1).1 r.nd).mp (e1.trans e2.symm))
      exact ⟨hb, by rw [upd_ne ne]; exact q1, q2.mono (fun _ _ z => z) ex⟩
def own (o : O) : M T := fun h => some (.ok (.ref h.length), h ++ [o])
theorem Fin.own {Q : VK} (f : Fin K mg (wV K Q) E φ H (Z.own o h)) (r : RelH K φ H h) (hp : H p = none) (q : RpO K φ (Fz φ H) o ho) : Q (.ref p) (upd H p ho) := by
  obtain ⟨l, r'⟩ := r.own hp q
  refine f _ _ l r' _ ⟨p, ?_, rfl⟩
  rw [← r.len]; simp [Ow.add]
/-- an owned object becomes another; t is told -/
theorem Fin.chg {Q : VK} {t : T} {v : V} (f : Fin K mg (wV K Q) E φ H (some (.ok t, h.set n o))) (r : RelH K φ H h) (e1 : φ.own[n]? = some a) (nf : ∀ od u, H a ≠ some (.frz od u)) (q : RpO K φ (Fz φ H) o ho) (qt : Rp K φ (Fz φ H) t v) : Q v (upd H a ho) := by
  obtain ⟨l, r'⟩ := r.upd' e1 nf q
  exact f _ _ l r' _ (qt.le l)
end

/-! ### argument lists, displays -/
def dNil : DA := fun _ => ret []
def dCons (d : D) (da : DA) : DA := fun sl => bnd (d sl) fun x => bnd (da sl) fun xs => ret (x :: xs)
def dTup (da : DA) : D := fun sl => bnd (da sl) fun xs => if xs.length ≤ lim then ret (.tup xs) else bot
def dLst (da : DA) : D := fun sl => bnd (da sl) fun xs => if xs.length ≤ lim then ret (.lst xs) else bot
def dLstO (da : DA) : D := fun sl => bnd (da sl) fun xs => if xs.length ≤ lim then own (.lst xs) else bot
def dNewK : D := fun _ => own (.dk false [] [])
def dNewT : D := fun _ => own (.dt false [] [])
section
variable {X : Cx} {E : XK} {a b c e : Expr} {es : List Expr} {da db dc d : D} {ds : DA} {pos : Pos}
theorem pda_nil : PDA X E [] dNil := PA.imp pa_nil fun σ H Q ⟨φ, sl, h, a, f⟩ => f φ H (Le.refl _ _) a.h [] rfl
theorem pda_cons (hd : PD X E e d) (hr : PDA X E es ds) (hs : starEach (e :: es) X.env = (false, eval e X.env) :: starEach es X.env := by rfl) : PDA X E (e :: es) (dCons d ds) :=
  PA.imp (pa_cons hd hr hs) fun σ H Q ⟨φ, sl, h, at_, fin⟩ => seqD at_ fin fun φ1 H1 x vx h1 l1 a1 r1 f1 => seqA a1 f1 fun φ2 H2 xs vs h2 l2 a2 r2 f2 =>
    f2 φ2 H2 (Le.refl _ _) a2.h _ ⟨vx, vs, rfl, r1.le l2, r2⟩
theorem pd_tup {x1} (hd : PDA X E es ds) : PD X E (.Tuple es x1 pos) (dTup ds) := PE.imp (pe_tup hd) fun σ H Q ⟨φ, sl, h, at_, fin⟩ =>
  seqA at_ fin fun φ1 H1 xs vs h1 l1 a1 r1 f1 => by
    split at f1
    · rename_i hl
      exact ⟨by rw [← r1.length]; exact Nat.le_trans hl lim_le, fun p hp => f1.newTup a1.h r1 hp⟩
    · exact f1.elim
theorem pd_lst (hd : PDA X E es ds) : PD X E (.List es pos) (dLst ds) := PE.imp (pe_lst hd) fun σ H Q ⟨φ, sl, h, at_, fin⟩ =>
  seqA at_ fin fun φ1 H1 xs vs h1 l1 a1 r1 f1 => by
    split at f1
    · rename_i hl
      exact ⟨by rw [← r1.length]; exact Nat.le_trans hl lim_le, fun p hp => f1.newLst a1.h r1 hp⟩
    · exact f1.elim
theorem pd_lstO (hd : PDA X E es ds) : PD X E (.List es pos) (dLstO ds) := PE.imp (pe_lst hd) fun σ H Q ⟨φ, sl, h, at_, fin⟩ =>
  seqA at_ fin fun φ1 H1 xs vs h1 l1 a1 r1 f1 => by
    split at f1
    · rename_i hl
      exact ⟨by rw [← r1.length]; exact Nat.le_trans hl lim_le, fun p hp => f1.own a1.h hp ⟨vs, rfl, r1⟩⟩
    · exact f1.elim
theorem pd_newK : PD X E (.Dict [] [] pos) dNewK := PE.imp pe_dnewK fun σ H Q ⟨φ, sl, h, at_, fin⟩ p hp => fin.own at_.h hp ⟨[], rfl, rfl, rfl⟩
theorem pd_newT : PD X E (.Dict [] [] pos) dNewT := PE.imp pe_dnewT fun σ H Q ⟨φ, sl, h, at_, fin⟩ p hp => fin.own at_.h hp ⟨[], rfl, rfl, rfl⟩
end

/-! ### subscripts -/
def fIx (x i : T) : M T := fun h => match dr h x, i with
  | .lst xs, .int i => (atI xs i).map fun t => (.ok t, h)
  | .arg xs, .int i => (atI xs i).map fun t => (.ok t, h)
  | .tup xs, .int i => (atI xs i).map fun t => (.ok t, h)
  | .str z, .int i => if z.length ≤ lim then (atI z.cps.toList i).map fun c => (.ok (.str ⟨#[c]⟩), h) else none
  | _, _ => match dkLook h x i with
    | some (some t) => some (.ok t, h)
    | _ => none
def rIxA (K : PySem.W.Frag) : R2 := fun x y H Q => rIx K x y H Q ∨ ∃ a v, x = .ref a ∧ DGet H a y (some v) ∧ Q v H
section
variable {X : Cx} {E : XK} {a b c e : Expr} {es : List Expr} {da db dc d : D} {ds : DA} {pos : Pos}
theorem ix_dict (hu : X.A.units + 1 < cLine) : IxR X (fun x y H Q => ∃ a v, x = .ref a ∧ DGet H a y (some v) ∧ Q v H) := by
  intro value slice pins s σ H x y v u Q I rx ry h hs
  obtain ⟨a, w, rfl, g, q⟩ := h
  cases rx
  exact PyProof.Rows.tail_any (dict_typeIs I g) PySem.F.slot_dict_getitem.lookup (d_getItem hu I g ry fun w' s3 I3 rw' => ⟨w, H, I3, rw', q⟩) hs
theorem ix_any (hu : X.A.units + 1 < cLine) : IxR X (rIxA X.K) := ix_seq.or (ix_dict hu)
theorem RpL.atI {K : PySem.W.Frag} {φ : Ow} {F : Hp} {ts : List T} {vs : List V} {i : Int} {t : T} (h : RpL K φ F ts vs) (e : atI ts i = some t) : ∃ v, L2.atI vs i = some v ∧ Rp K φ F t v := by
  unfold L2.atI at e ⊢
  rw [← h.length]
  cases q : ixN ts.length i with
  | none => rw [q] at e; cases e
  | some j => rw [q] at e; exact h.get' e
theorem o2_ix : Op2 X E fIx (rIxA X.K) := by
  intro φ H h tx ty x y Q rh rx ry f
  have dict : Fin X.K X.mg (wV X.K Q) E φ H (match dkLook h tx ty with
    | some (some t) => some (.ok t, h)
    | _ => none) → rIxA X.K x y H Q := by
    intro f
    split at f
    · rename_i t e
      obtain ⟨a, ov, h1, h2, h3⟩ := dkLook_get rh rx ry e
      rcases h3 with ⟨h3, _⟩ | ⟨x', w, h3, rfl, h4⟩
      · cases h3
      · cases h3
        exact .inr ⟨a, w, h1, h2, f.val rh h4⟩
    · exact f.elim
  unfold fIx at f
  split at f
  · rename_i xs i e
    cases q : atI xs i with
    | none => rw [q] at f; exact f.elim
    | some t =>
      rw [q] at f
      have : ∃ a vs, x = .ref a ∧ SqL X.K H a vs ∧ RpL X.K φ (Fz φ H) xs vs := by
        cases tx with
        | lst ys =>
          cases e
          obtain ⟨a, vs, h1, h2, h3⟩ := rx
          exact ⟨a, vs, h1, SqL.of (Fz.of h2).2, h3⟩
        | ref n =>
          have : lsO h (.ref n) = some xs := by
            revert e
            simp only [dr, lsO]
            split
            · intro e; cases e; rfl
            · intro e; cases e
          obtain ⟨a, vs, h1, h2, h3⟩ := rh.lst rx this
          exact ⟨a, vs, h1, SqL.of h2, h3⟩
        | _ => cases e
      obtain ⟨a, vs, rfl, h1, h2⟩ := this
      obtain ⟨v, h3, h4⟩ := h2.atI q
      exact .inl (.inl ⟨a, vs, i, v, rfl, ry, h1, h3, f.val rh h4⟩)
  · rename_i xs i e
    cases q : atI xs i with
    | none => rw [q] at f; exact f.elim
    | some t =>
      rw [q] at f
      have : tx = .arg xs := by
        cases tx with
        | ref n => simp only [dr] at e; split at e <;> cases e
        | _ => exact e
      subst this
      obtain ⟨a, vs, rfl, h1, h2⟩ := rx
      obtain ⟨v, h3, h4⟩ := h2.atI q
      exact .inl (.inl ⟨a, vs, i, v, rfl, ry, Fz.ex.l h1, h3, f.val rh h4⟩)
  · rename_i xs i e
    cases q : atI xs i with
    | none => rw [q] at f; exact f.elim
    | some t =>
      rw [q] at f
      have : tx = .tup xs := by
        cases tx with
        | ref n => simp only [dr] at e; split at e <;> cases e
        | _ => exact e
      subst this
      obtain ⟨a, vs, rfl, h1, h2⟩ := rx
      obtain ⟨v, h3, h4⟩ := h2.atI q
      exact .inl (.inr (.inl ⟨a, vs, i, v, rfl, ry, SqT.of (Fz.of h1).2, h3, f.val rh h4⟩))
  · rename_i z i e
    have : tx = .str z := by
      cases tx with
      | ref n => simp only [dr] at e; split at e <;> cases e
      | _ => exact e
    subst this
    split at f
    · rename_i hl
      cases q : atI z.cps.toList i with
      | none => rw [q] at f; exact f.elim
      | some c =>
        rw [q] at f
        exact .inl (.inr (.inr ⟨z, i, c, rx, ry, Nat.le_trans hl lim_le, q, f.val rh rfl⟩))
    · exact f.elim
  · exact dict f
theorem pd_ix (hu : X.A.units + 65 < cLine) (ha : PD X E a da) (hb : PD X E b db) (hs : PlainIx b := by exact fun _ _ => rfl) : PD X E (.Subscript a b pos) (dBin fIx da db) := PE.imp (pe_ix (ix_any (by omega)) ha hb hs) (bin_imp o2_ix)
end

/-! ### slices -/
abbrev DO := Sl → M (Option Int)
def dPN : DO := fun _ => ret none
def dPS (d : D) : DO := fun sl => bnd (d sl) fun x => match x with
  | .int i => ret (some i)
  | _ => bot
def cutT {α : Type} (xs : List α) (lo hi : Option Int) : List α := (xs.drop (HT.sIx xs.length 0 lo)).take (HT.sIx xs.length xs.length hi - HT.sIx xs.length 0 lo)
def fSl (x : T) (lo hi : Option Int) : M T := fun h => match dr h x with
  | .lst xs => some (.ok (.lst (cutT xs lo hi)), h)
  | .arg xs => some (.ok (.lst (cutT xs lo hi)), h)
  | .tup xs => some (.ok (.tup (cutT xs lo hi)), h)
  | .str z => if z.length ≤ lim then some (.ok (.str (cutS z lo hi)), h) else none
  | _ => none
def dSl (d : D) (dl dh : DO) : D := fun sl => bnd (d sl) fun x => bnd (dl sl) fun lo => bnd (dh sl) fun hi => fSl x lo hi
def wO (Q : Option Int → Hp → Prop) : Ow → Hp → Option Int → Prop := fun _ H b => Q b H
def tO (K : PySem.W.Frag) (mg : Str → Option Value) (E : XK) (d : DO) : TO := fun σ H Q => ∃ φ sl h, At K φ H sl σ h ∧ Fin K mg (wO Q) E φ H (d sl h)
abbrev PDO (X : Cx) (E : XK) (e : Option Expr) (d : DO) : Prop := PO X e (tO X.K X.mg E d)
theorem PO.imp {X : Cx} {e : Option Expr} {t t' : TO} (h : PO X e t) (i : ∀ σ H Q, t' σ H Q → t σ H Q) : PO X e t' := ⟨fun pins s σ H Q I w => h.run pins s σ H Q I (i σ H Q w)⟩
section
variable {X : Cx} {E : XK} {a b c e : Expr} {es : List Expr} {da db dc d : D} {dl dh : DO} {pos p2 : Pos} {lo hi : Option Expr}
theorem seqO {K : PySem.W.Frag} {mg : Str → Option Value} {φ : Ow} {H : Hp} {sl : Sl} {σ : L2.St} {h : Hv} {β : Type} {d : DO} {k : Option Int → M β} {ok : Ow → Hp → β → Prop} {Q : Option Int → Hp → Prop} (a : At K φ H sl σ h) (f : Fin K mg ok E φ H (bnd (d sl) k h))
    (c : ∀ φ' H' t h', Le φ H φ' H' → At K φ' H' sl σ h' → Fin K mg ok E φ' H' (k t h') → Q t H') : tO K mg E d σ H Q :=
  ⟨φ, sl, h, a, f.bnd.imp fun φ' H' t ⟨h', r, l, q⟩ => c φ' H' t h' l (a.le l r) q⟩
theorem pdo_none : PDO X E none dPN := PO.imp po_none fun σ H Q ⟨φ, sl, h, at_, fin⟩ => fin.now at_.h
theorem pdo_some (h : PD X E e d) : PDO X E (some e) (dPS d) := PO.imp (po_some h) fun σ H Q ⟨φ, sl, h, at_, fin⟩ => seqD at_ fin fun φ1 H1 x vx h1 l1 a1 r1 f1 => by
  cases x with
  | int i => exact ⟨i, r1, f1.now a1.h⟩
  | _ => exact f1.elim
theorem RpL.cut {K : PySem.W.Frag} {φ : Ow} {F : Hp} {ts : List T} {vs : List V} (h : RpL K φ F ts vs) (lo hi : Option Int) : RpL K φ F (cutT ts lo hi) (cutV vs lo hi) := by
  unfold cutT cutV
  rw [h.length]
  exact (h.drop _).take _
def rSlAll (K : PySem.W.Frag) : V → Option Int → Option Int → Hp → VK → Prop := fun x lo hi H Q => rSlL K x lo hi H Q ∨ rSlA K x lo hi H Q ∨ rSlS x lo hi H Q
theorem sl_all : SlR X (rSlAll X.K) := sl_list.or (sl_tupA.or sl_str)
theorem pd_slice (he : PD X E e d) (hl : PDO X E lo dl) (hh : PDO X E hi dh) : PD X E (.Subscript e (.Slice lo hi none p2) pos) (dSl d dl dh) := PE.imp (pe_slice sl_all he hl hh) fun σ H Q ⟨φ, sl, h, at_, fin⟩ =>
  seqD at_ fin fun φ1 H1 x vx h1 l1 a1 r1 f1 => seqO a1 f1 fun φ2 H2 lo h2 l2 a2 f2 => seqO a2 f2 fun φ3 H3 hi h3 l3 a3 f3 => by
    have r3 := (r1.le l2).le l3
    have rh := a3.h
    clear fin f1 f2 a1 a2
    simp only [fSl] at f3
    split at f3
    · rename_i xs e
      have : ∃ a vs, vx = .ref a ∧ SqL X.K H3 a vs ∧ RpL X.K φ3 (Fz φ3 H3) xs vs := by
        cases x with
        | lst ys =>
          cases e
          obtain ⟨a, vs, h1, h2, h3⟩ := r3
          exact ⟨a, vs, h1, SqL.of (Fz.of h2).2, h3⟩
        | ref n =>
          have : lsO h3 (.ref n) = some xs := by
            revert e
            simp only [dr, lsO]
            split
            · intro e; cases e; rfl
            · intro e; cases e
          obtain ⟨a, vs, h1, h2, h3⟩ := rh.lst r3 this
          exact ⟨a, vs, h1, SqL.of h2, h3⟩
        | _ => cases e
      obtain ⟨a, vs, rfl, h1, h2⟩ := this
      exact .inl ⟨a, vs, rfl, h1, fun p hp => f3.newLst rh (h2.cut _ _) hp⟩
    · rename_i xs e
      have : x = .arg xs := by
        cases x with
        | ref n => simp only [dr] at e; split at e <;> cases e
        | _ => exact e
      subst this
      obtain ⟨a, vs, rfl, h1, h2⟩ := r3
      exact .inl ⟨a, vs, rfl, Fz.ex.l h1, fun p hp => f3.newLst rh (h2.cut _ _) hp⟩
    · rename_i xs e
      have : x = .tup xs := by
        cases x with
        | ref n => simp only [dr] at e; split at e <;> cases e
        | _ => exact e
      subst this
      obtain ⟨a, vs, rfl, h1, h2⟩ := id r3
      refine .inr (.inl ⟨a, vs, rfl, SqT.of (Fz.of h1).2, fun hw => ?_, fun _ p hp => f3.newTup rh (h2.cut _ _) hp⟩)
      have : cutT xs lo hi = xs := by
        unfold cutT
        rw [h2.length, hw.1, hw.2]
        simp [← h2.length]
      rw [this] at f3
      exact f3.val rh r3
    · rename_i z e
      have : x = .str z := by
        cases x with
        | ref n => simp only [dr] at e; split at e <;> cases e
        | _ => exact e
      subst this
      split at f3
      · rename_i hl
        exact .inr (.inr ⟨z, r3, Nat.le_trans hl lim_le, f3.val rh rfl⟩)
      · exact f3.elim
    · exact f3.elim
end

/-! ### calls -/
def dCall (F : List T → M T) (da : DA) : D := fun sl => bnd (da sl) F
/-- a builtin's answer -/
def B1 (X : Cx) (E : XK) (f : List T → M T) (r : List V → Hp → VK → Prop) : Prop := ∀ (φ : Ow) (H : Hp) (h : Hv) (ts : List T) (vs : List V) (Q : VK), RelH X.K φ H h → RpL X.K φ (Fz φ H) ts vs → Fin X.K X.mg (wV X.K Q) E φ H (f ts h) → r vs H Q
/-- what a def promises -/
def spD (K : PySem.W.Frag) (mg : Str → Option Value) (n : Nat) (f : List T → M T) : Sp := fun vs H Q E => vs.length = n ∧ ∃ φ h ts, RelH K φ H h ∧ RpL K φ (Fz φ H) ts vs ∧ Fin K mg (wV K Q) E φ H (f ts h)
section
variable {X : Cx} {E : XK} {a b c e : Expr} {es : List Expr} {da db dc d : D} {ds : DA} {pos p : Pos} {f : List T → M T} {r : List V → Hp → VK → Prop} {x : Str} {id T' : String}
theorem call_imp (hb : B1 X E f r) (σ : L2.St) (H : Hp) (Q : VK) (w : tD X.K X.mg E (dCall f ds) σ H Q) : tCB r (tA X.K X.mg E ds) σ H Q := by
  obtain ⟨φ, sl, h, at_, fin⟩ := w
  exact seqA at_ fin fun φ1 H1 ts vs h1 l1 a1 r1 f1 => hb φ1 H1 h1 ts vs Q a1.h r1 f1
theorem pd_callB (hb : B1 X E f r) (hc : CallR X (.builtin id) r) (hg : Gl X x) (hm : X.mg x = none) (hv : bootBuiltins x = some (.builtin id)) (ha : PDA X E (e :: es) ds) (hn : x ≠ "__name__" := by decide) (hdb : (x == ("__debug__" : Str)) = false := by decide)
    (he : starEach (e :: es) X.env = (false, eval e X.env) :: starEach es X.env := by rfl) (hpl : (backTo pos (starEach es X.env)).any (·.1) = false := by rfl) : PD X E (.Call (.Name x p) (e :: es) [] pos) (dCall f ds) :=
  PE.imp (pe_callB hc hg hm hv ha hn hdb he hpl) (call_imp hb)
theorem pd_callTy (hb : B1 X E f r) (hc : CallR X (.type T') r) (hg : Gl X x) (hm : X.mg x = none) (hv : bootBuiltins x = some (.type T')) (ha : PDA X E (e :: es) ds) (hn : x ≠ "__name__" := by decide) (hdb : (x == ("__debug__" : Str)) = false := by decide)
    (he : starEach (e :: es) X.env = (false, eval e X.env) :: starEach es X.env := by rfl) (hpl : (backTo pos (starEach es X.env)).any (·.1) = false := by rfl) : PD X E (.Call (.Name x p) (e :: es) [] pos) (dCall f ds) :=
  PE.imp (pe_callTy hc hg hm hv ha hn hdb he hpl) (call_imp hb)
theorem pd_call {CX : CXT} {k n : Nat} {fa : Addr} {fd : FuncData} {ps : List Str} (F : FnOk X.prog X.w X.K X.mg X.base CX k fa fd ps (spD X.K X.mg n f)) (hr : Room k X.A) (hg : Gl X x) (hm : X.mg x = some (.ref fa)) (hk : PySem.W.keepIn X.K (.ref fa) = true) (hb : Binds X.K fd ps [])
    (hx : Passes CX X E) (ha : PDA X E (e :: es) ds) (hn : (e :: es).length = n := by rfl) (hdb : (x == ("__debug__" : Str)) = false := by decide) (he : starEach (e :: es) X.env = (false, eval e X.env) :: starEach es X.env := by rfl) (hpl : (backTo pos (starEach es X.env)).any (·.1) = false := by rfl) :
    PD X E (.Call (.Name x p) (e :: es) [] pos) (dCall (fun ts => if ts.length = n then f ts else bot) ds) := PE.imp (pe_call F hr hg hm hk hb .nil hx ha hdb he hpl) fun σ H Q ⟨φ, sl, h, at_, fin⟩ =>
  seqA at_ fin fun φ1 H1 ts vs h1 l1 a1 r1 f1 => by
    rw [List.append_nil]
    split at f1
    · rename_i hl
      exact ⟨by rw [← r1.length]; exact hl, φ1, h1, ts, a1.h, r1, f1⟩
    · exact f1.elim
end

/-! ### builtins -/
def intsQ : List T → Option (List Int)
  | [] => some []
  | .int i :: r => (intsQ r).map (i :: ·)
  | _ => none
def blsQ : List T → Option (List Bool)
  | [] => some []
  | .bl i :: r => (blsQ r).map (i :: ·)
  | _ => none
/-- the items of a list or tuple -/
def sqQ (h : Hv) (x : T) : Option (List T) := match dr h x with
  | .lst xs => some xs
  | .arg xs => some xs
  | .tup xs => some xs
  | _ => none
/-- the items of a list -/
def slQ (h : Hv) (x : T) : Option (List T) := match dr h x with
  | .lst xs => some xs
  | .arg xs => some xs
  | _ => none
def fLen : List T → M T
  | [x] => fun h => match dr h x with
    | .lst xs => some (.ok (.int xs.length), h)
    | .arg xs => some (.ok (.int xs.length), h)
    | .tup xs => some (.ok (.int xs.length), h)
    | .str z => if z.length ≤ lim then some (.ok (.int z.length), h) else none
    | .dk ks _ => some (.ok (.int ks.length), h)
    | .dt ks _ => some (.ok (.int ks.length), h)
    | .ref n => match h[n]? with
      | some (.dk false ks _) => some (.ok (.int ks.length), h)
      | some (.dt false ks _) => some (.ok (.int ks.length), h)
      | _ => none
    | _ => none
  | _ => bot
def fBools (g : List Bool → Bool) : List T → M T
  | [x] => fun h => match (slQ h x).bind blsQ with
    | some bs => some (.ok (.bl (g bs)), h)
    | none => none
  | _ => bot
def fAll := fBools fun bs => bs.all fun b => b
def fAny := fBools fun bs => bs.any fun b => b
def fInts (g : List Int → Option Int) : List T → M T
  | [x] => fun h => match ((slQ h x).bind intsQ).bind g with
    | some i => some (.ok (.int i), h)
    | none => none
  | _ => bot
def fSum := fInts fun ns => some ns.sum
def minL : List Int → Option Int
  | [] => none
  | i :: r => some (r.foldl (fun a b => if b < a then b else a) i)
def maxL : List Int → Option Int
  | [] => none
  | i :: r => some (r.foldl (fun a b => if b > a then b else a) i)
def fMin : List T → M T
  | [.int i, .int j] => ret (.int (if j < i then j else i))
  | ts => fInts minL ts
def fMax : List T → M T
  | [.int i, .int j] => ret (.int (if j > i then j else i))
  | ts => fInts maxL ts
def fAbs : List T → M T
  | [.int i] => ret (.int (if i < 0 then -i else i))
  | _ => bot
def fInt : List T → M T
  | [.int i] => ret (.int i)
  | [.bl k] => ret (.int (if k then 1 else 0))
  | _ => bot
def fTuple : List T → M T
  | [x] => fun h => match dr h x with
    | .lst xs => some (.ok (.tup xs), h)
    | .arg xs => some (.ok (.tup xs), h)
    | .tup xs => some (.ok (.tup xs), h)
    | _ => none
  | _ => bot
def fList (ow : Bool) : List T → M T
  | [x] => fun h => match sqQ h x with
    | some xs => if ow then own (.lst xs) h else some (.ok (.lst xs), h)
    | _ => none
  | _ => bot
section
variable {X : Cx} {E : XK} {K : PySem.W.Frag} {φ : Ow} {H : Hp} {h : Hv} {t : T} {v : V} {xs : List T}
theorem slQ_rp (rh : RelH K φ H h) (r : Rp K φ (Fz φ H) t v) (e : slQ h t = some xs) : ∃ a vs, v = .ref a ∧ SqL K H a vs ∧ RpL K φ (Fz φ H) xs vs := by
  unfold slQ at e
  cases t with
  | lst ys =>
    cases e
    obtain ⟨a, vs, h1, h2, h3⟩ := r
    exact ⟨a, vs, h1, SqL.of (Fz.of h2).2, h3⟩
  | arg ys =>
    cases e
    obtain ⟨a, vs, h1, h2, h3⟩ := r
    exact ⟨a, vs, h1, Fz.ex.l h2, h3⟩
  | ref n =>
    have : lsO h (.ref n) = some xs := by
      revert e
      simp only [dr, lsO]
      cases h[n]? with
      | none => intro e; cases e
      | some o =>
        cases o with
        | lst ys => exact id
        | _ => intro e; cases e
    obtain ⟨a, vs, h1, h2, h3⟩ := rh.lst r this
    exact ⟨a, vs, h1, SqL.of h2, h3⟩
  | _ => cases e
theorem sqQ_rp (rh : RelH K φ H h) (r : Rp K φ (Fz φ H) t v) (e : sqQ h t = some xs) : ∃ a vs, v = .ref a ∧ (SqL K H a vs ∨ SqT K H a vs) ∧ RpL K φ (Fz φ H) xs vs := by
  by_cases ht : ∃ ys, t = .tup ys
  · obtain ⟨ys, rfl⟩ := ht
    cases e
    obtain ⟨a, vs, h1, h2, h3⟩ := r
    exact ⟨a, vs, h1, .inr (SqT.of (Fz.of h2).2), h3⟩
  · have : slQ h t = some xs := by
      revert e
      unfold sqQ slQ
      cases t with
      | tup ys => exact absurd ⟨ys, rfl⟩ ht
      | ref n =>
        simp only [dr]
        cases h[n]? with
        | none => exact id
        | some o => cases o <;> exact id
      | _ => exact id
    obtain ⟨a, vs, h1, h2, h3⟩ := slQ_rp rh r this
    exact ⟨a, vs, h1, .inl h2, h3⟩
theorem intsQ_rp {F : Hp} : ∀ {ts : List T} {ns : List Int} {vs : List V}, intsQ ts = some ns → RpL K φ F ts vs → vs = ns.map V.int
  | [], ns, vs, e, r => by cases e; exact r
  | t :: ts, ns, vs, e, r => by
    obtain ⟨v, us, rfl, h1, h2⟩ := r
    cases t with
    | int i =>
      obtain ⟨ms, e1, rfl⟩ := Option.map_eq_some_iff.mp (show (intsQ ts).map (i :: ·) = some ns from e)
      rw [intsQ_rp e1 h2, show v = _ from h1]
      rfl
    | _ => cases e
theorem blsQ_rp {F : Hp} : ∀ {ts : List T} {ns : List Bool} {vs : List V}, blsQ ts = some ns → RpL K φ F ts vs → vs = ns.map V.bl
  | [], ns, vs, e, r => by cases e; exact r
  | t :: ts, ns, vs, e, r => by
    obtain ⟨v, us, rfl, h1, h2⟩ := r
    cases t with
    | bl i =>
      obtain ⟨ms, e1, rfl⟩ := Option.map_eq_some_iff.mp (show (blsQ ts).map (i :: ·) = some ns from e)
      rw [blsQ_rp e1 h2, show v = _ from h1]
      rfl
    | _ => cases e
theorem RpL.one {F : Hp} {t : T} {vs : List V} (h : RpL K φ F [t] vs) : ∃ v, vs = [v] ∧ Rp K φ F t v := by
  obtain ⟨v, r, rfl, h1, h2⟩ := h
  rw [show r = [] from h2]
  exact ⟨v, rfl, h1⟩
theorem RpL.two {F : Hp} {t u : T} {vs : List V} (h : RpL K φ F [t, u] vs) : ∃ v w, vs = [v, w] ∧ Rp K φ F t v ∧ Rp K φ F u w := by
  obtain ⟨v, r, rfl, h1, h2⟩ := h
  obtain ⟨w, rfl, h3⟩ := RpL.one h2
  exact ⟨v, w, rfl, h1, h3⟩
abbrev rLenA (K : PySem.W.Frag) : List V → Hp → VK → Prop := fun xs H Q => (∃ p ys, xs = [.ref p] ∧ (SqL K H p ys ∨ SqT K H p ys) ∧ Q (.int ys.length) H) ∨ (∃ z, xs = [.str z] ∧ z.length ≤ sizeLine ∧ Q (.int z.length) H) ∨
  (∃ a kvs, xs = [V.ref a] ∧ H a = some (.dK kvs) ∧ Q (.int kvs.length) H) ∨ rLenT xs H Q
theorem cr_len : CallR X (.builtin "len") (rLenA X.K) := CallR.or call_len_seq (CallR.or call_len_str (CallR.or call_lenD call_len_dT))
theorem dr_not {n : Nat} {t : T} {h : Hv} (e : dr h t = .ref n) : t = .ref n := by
  cases t with
  | ref m =>
    simp only [dr] at e
    split at e
    · cases e
    · exact e
  | _ => exact e
theorem b_len : B1 X E fLen (rLenA X.K) := by
  intro φ H h ts vs Q rh r f
  match ts, f with
  | [t], f =>
    obtain ⟨v, rfl, rv⟩ := r.one
    have seq : ∀ xs, sqQ h t = some xs → Fin X.K X.mg (wV X.K Q) E φ H (some (.ok (.int xs.length), h)) → rLenA X.K [v] H Q := by
      intro xs e f
      obtain ⟨a, vs, rfl, h1, h2⟩ := sqQ_rp rh rv e
      exact .inl ⟨a, vs, rfl, h1, by rw [← h2.length]; exact f.val rh rfl⟩
    simp only [fLen] at f
    split at f
    · rename_i xs e
      exact seq xs (by unfold sqQ; rw [e]) f
    · rename_i xs e
      exact seq xs (by unfold sqQ; rw [e]) f
    · rename_i xs e
      exact seq xs (by unfold sqQ; rw [e]) f
    · rename_i z e
      have : t = .str z := by
        cases t with
        | ref n => simp only [dr] at e; split at e <;> cases e
        | _ => exact e
      subst this
      split at f
      · rename_i hl
        rw [show v = _ from rv]
        exact .inr (.inl ⟨z, rfl, Nat.le_trans hl lim_le, f.val rh rfl⟩)
      · exact f.elim
    · rename_i ks us e
      have : t = .dk ks us := by
        cases t with
        | ref n => simp only [dr] at e; split at e <;> cases e
        | _ => exact e
      subst this
      obtain ⟨a, kvs, rfl, h1, rfl, h3⟩ := rv
      exact .inr (.inr (.inl ⟨a, kvs, rfl, (Fz.of h1).2, f.val rh (by show V.int _ = V.int _; rw [List.length_map])⟩))
    · rename_i ks us e
      have : t = .dt ks us := by
        cases t with
        | ref n => simp only [dr] at e; split at e <;> cases e
        | _ => exact e
      subst this
      obtain ⟨a, kvs, rfl, h1, rfl, h3⟩ := rv
      exact .inr (.inr (.inr ⟨a, kvs, rfl, (Fz.of h1).2, f.val rh (by show V.int _ = V.int _; rw [List.length_map])⟩))
    · rename_i n e
      have := dr_not e
      subst this
      split at f
      · rename_i ks us hn
        obtain ⟨a, ho, h1, h2, kvs, h3, rfl, h4⟩ := rh.at hn
        obtain ⟨b, q1, rfl⟩ := rv
        rw [h1] at q1; cases q1
        have h3 : ho = .dK kvs := h3
        subst h3
        exact .inr (.inr (.inl ⟨a, kvs, rfl, h2, f.val rh (by show V.int _ = V.int _; rw [List.length_map])⟩))
      · rename_i ks us hn
        obtain ⟨a, ho, h1, h2, kvs, h3, rfl, h4⟩ := rh.at hn
        obtain ⟨b, q1, rfl⟩ := rv
        rw [h1] at q1; cases q1
        have h3 : ho = .dT kvs := h3
        subst h3
        exact .inr (.inr (.inr ⟨a, kvs, rfl, h2, f.val rh (by show V.int _ = V.int _; rw [List.length_map])⟩))
      · exact f.elim
    · exact f.elim
  | [], f => exact f.elim
  | _ :: _ :: _, f => exact f.elim
theorem b_bools {g : List Bool → Bool} : B1 X E (fBools g) (fun vs H Q => ∃ (a : Addr) (bs : List Bool), vs = [V.ref a] ∧ SqL X.K H a (bs.map V.bl) ∧ Q (.bl (g bs)) H) := by
  intro φ H h ts vs Q rh r f
  match ts, f with
  | [t], f =>
    obtain ⟨v, rfl, rv⟩ := r.one
    simp only [fBools] at f
    split at f
    · rename_i bs e
      obtain ⟨xs, e1, e2⟩ := Option.bind_eq_some_iff.mp e
      obtain ⟨a, us, rfl, h1, h2⟩ := slQ_rp rh rv e1
      have := blsQ_rp e2 h2
      subst this
      exact ⟨a, bs, rfl, h1, f.val rh rfl⟩
    · exact f.elim
  | [], f => exact f.elim
  | _ :: _ :: _, f => exact f.elim
theorem b_all : B1 X E fAll (rAll X.K) := b_bools
theorem b_any : B1 X E fAny (rAny X.K) := b_bools
theorem b_ints {g : List Int → Option Int} : B1 X E (fInts g) (fun vs H Q => ∃ (a : Addr) (ns : List Int) (i : Int), vs = [V.ref a] ∧ SqL X.K H a (ns.map V.int) ∧ g ns = some i ∧ Q (.int i) H) := by
  intro φ H h ts vs Q rh r f
  match ts, f with
  | [t], f =>
    obtain ⟨v, rfl, rv⟩ := r.one
    simp only [fInts] at f
    split at f
    · rename_i bs e
      obtain ⟨ns, e0, e3⟩ := Option.bind_eq_some_iff.mp e
      obtain ⟨xs, e1, e2⟩ := Option.bind_eq_some_iff.mp e0
      obtain ⟨a, us, rfl, h1, h2⟩ := slQ_rp rh rv e1
      have := intsQ_rp e2 h2
      subst this
      exact ⟨a, ns, bs, rfl, h1, e3, f.val rh rfl⟩
    · exact f.elim
  | [], f => exact f.elim
  | _ :: _ :: _, f => exact f.elim
theorem b_sum : B1 X E fSum (rSum X.K) := fun φ H h ts vs Q rh r f => by
  obtain ⟨a, ns, i, h1, h2, h3, h4⟩ := b_ints φ H h ts vs Q rh r f
  cases h3
  exact ⟨a, ns, h1, h2, h4⟩
theorem minL_spec {ns : List Int} {i : Int} (e : minL ns = some i) : 0 < ns.length ∧ i ∈ ns ∧ ∀ y ∈ ns, i ≤ y := by
  cases ns with
  | nil => cases e
  | cons x r =>
    cases e
    refine ⟨by simp, ?_⟩
    have gen : ∀ (r : List Int) (x : Int), (r.foldl (fun a b => if b < a then b else a) x ∈ x :: r) ∧ ∀ y ∈ x :: r, r.foldl (fun a b => if b < a then b else a) x ≤ y := by
      intro r
      induction r with
      | nil => intro x; simp
      | cons z r ih =>
        intro x
        rw [List.foldl_cons]
        by_cases hz : z < x
        · rw [if_pos hz]
          obtain ⟨h1, h2⟩ := ih z
          refine ⟨List.mem_cons_of_mem _ h1, fun y hy => ?_⟩
          rcases List.mem_cons.mp hy with rfl | hy
          · have := h2 z (List.mem_cons_self ..); omega
          · exact h2 y hy
        · rw [if_neg hz]
          obtain ⟨h1, h2⟩ := ih x
          refine ⟨?_, fun y hy => ?_⟩
          · rcases List.mem_cons.mp h1 with h1 | h1
            · rw [h1]; exact List.mem_cons_self ..
            · exact List.mem_cons_of_mem _ (List.mem_cons_of_mem _ h1)
          · rcases List.mem_cons.mp hy with rfl | hy
            · exact h2 _ (List.mem_cons_self ..)
            · rcases List.mem_cons.mp hy with rfl | hy
              · have := h2 x (List.mem_cons_self ..); omega
              · exact h2 y (List.mem_cons_of_mem _ hy)
    exact gen r x
theorem maxL_spec {ns : List Int} {i : Int} (e : maxL ns = some i) : 0 < ns.length ∧ i ∈ ns ∧ ∀ y ∈ ns, y ≤ i := by
  cases ns with
  | nil => cases e
  | cons x r =>
    cases e
    refine ⟨by simp, ?_⟩
    have gen : ∀ (r : List Int) (x : Int), (r.foldl (fun a b => if b > a then b else a) x ∈ x :: r) ∧ ∀ y ∈ x :: r, y ≤ r.foldl (fun a b => if b > a then b else a) x := by
      intro r
      induction r with
      | nil => intro x; simp
      | cons z r ih =>
        intro x
        rw [List.foldl_cons]
        by_cases hz : z > x
        · rw [if_pos hz]
          obtain ⟨h1, h2⟩ := ih z
          refine ⟨List.mem_cons_of_mem _ h1, fun y hy => ?_⟩
          rcases List.mem_cons.mp hy with rfl | hy
          · have := h2 z (List.mem_cons_self ..); omega
          · exact h2 y hy
        · rw [if_neg hz]
          obtain ⟨h1, h2⟩ := ih x
          refine ⟨?_, fun y hy => ?_⟩
          · rcases List.mem_cons.mp h1 with h1 | h1
            · rw [h1]; exact List.mem_cons_self ..
            · exact List.mem_cons_of_mem _ (List.mem_cons_of_mem _ h1)
          · rcases List.mem_cons.mp hy with rfl | hy
            · exact h2 _ (List.mem_cons_self ..)
            · rcases List.mem_cons.mp hy with rfl | hy
              · have := h2 x (List.mem_cons_self ..); omega
              · exact h2 y (List.mem_cons_of_mem _ hy)
    exact gen r x
abbrev rMin2 (K : PySem.W.Frag) : List V → Hp → VK → Prop := fun vs H Q => (∃ i j, vs = [.int i, .int j] ∧ Q (.int (if j < i then j else i)) H) ∨ rMin K vs H Q
abbrev rMax2 (K : PySem.W.Frag) : List V → Hp → VK → Prop := fun vs H Q => (∃ i j, vs = [.int i, .int j] ∧ Q (.int (if j > i then j else i)) H) ∨ rMax K vs H Q
theorem cr_min2 (hc : X.calm = true) : CallR X (.builtin "min") (rMin2 X.K) := CallR.or (call_min2 hc) (cr_min hc)
theorem cr_max2 (hc : X.calm = true) : CallR X (.builtin "max") (rMax2 X.K) := CallR.or (call_max2 hc) (cr_max hc)
theorem b_min : B1 X E fMin (rMin2 X.K) := fun φ H h ts vs Q rh r f => by
  have one : Fin X.K X.mg (wV X.K Q) E φ H (fInts minL ts h) → rMin2 X.K vs H Q := fun f => by
    obtain ⟨a, ns, i, h1, h2, h3, h4⟩ := b_ints φ H h ts vs Q rh r f
    obtain ⟨e1, e2, e3⟩ := minL_spec h3
    refine .inr ⟨a, ns, h1, h2, e1, fun m hm hy => ?_⟩
    have := e3 m hm
    have := hy i e2
    have : m = i := by omega
    rw [this]; exact h4
  unfold fMin at f
  split at f
  · rename_i i j
    obtain ⟨x, y, rfl, h1, h2⟩ := r.two
    rw [show x = _ from h1, show y = _ from h2]
    exact .inl ⟨i, j, rfl, f.val rh rfl⟩
  · exact one f
theorem b_max : B1 X E fMax (rMax2 X.K) := fun φ H h ts vs Q rh r f => by
  have one : Fin X.K X.mg (wV X.K Q) E φ H (fInts maxL ts h) → rMax2 X.K vs H Q := fun f => by
    obtain ⟨a, ns, i, h1, h2, h3, h4⟩ := b_ints φ H h ts vs Q rh r f
    obtain ⟨e1, e2, e3⟩ := maxL_spec h3
    refine .inr ⟨a, ns, h1, h2, e1, fun m hm hy => ?_⟩
    have := e3 m hm
    have := hy i e2
    have : m = i := by omega
    rw [this]; exact h4
  unfold fMax at f
  split at f
  · rename_i i j
    obtain ⟨x, y, rfl, h1, h2⟩ := r.two
    rw [show x = _ from h1, show y = _ from h2]
    exact .inl ⟨i, j, rfl, f.val rh rfl⟩
  · exact one f
theorem b_abs : B1 X E fAbs (fun xs H Q => ∃ i, xs = [.int i] ∧ Q (.int (if i < 0 then -i else i)) H) := fun φ H h ts vs Q rh r f => by
  unfold fAbs at f
  split at f
  · rename_i i
    obtain ⟨v, rfl, h1⟩ := r.one
    rw [show v = _ from h1]
    exact ⟨i, rfl, f.val rh rfl⟩
  · exact f.elim
theorem b_int : B1 X E fInt (fun xs H Q => (∃ i, xs = [.int i] ∧ Q (.int i) H) ∨ ∃ k, xs = [.bl k] ∧ Q (.int (if k then 1 else 0)) H) := fun φ H h ts vs Q rh r f => by
  unfold fInt at f
  split at f
  · rename_i i
    obtain ⟨v, rfl, h1⟩ := r.one
    rw [show v = _ from h1]
    exact .inl ⟨i, rfl, f.val rh rfl⟩
  · rename_i i
    obtain ⟨v, rfl, h1⟩ := r.one
    rw [show v = _ from h1]
    exact .inr ⟨i, rfl, f.val rh rfl⟩
  · exact f.elim
theorem b_tuple : B1 X E fTuple (fun xs H Q => ∃ p ys, xs = [.ref p] ∧ ((SqL X.K H p ys ∧ ∀ l, H l = none → Q (.ref l) (upd H l (.tup ys))) ∨ (SqT X.K H p ys ∧ Q (.ref p) H))) := fun φ H h ts vs Q rh r f => by
  match ts, f with
  | [t], f =>
    obtain ⟨v, rfl, rv⟩ := r.one
    have lst : ∀ xs, slQ h t = some xs → Fin X.K X.mg (wV X.K Q) E φ H (some (.ok (.tup xs), h)) → ∃ p ys, [v] = [V.ref p] ∧ ((SqL X.K H p ys ∧ ∀ l, H l = none → Q (.ref l) (upd H l (.tup ys))) ∨ (SqT X.K H p ys ∧ Q (.ref p) H)) := by
      intro xs e f
      obtain ⟨a, us, rfl, h1, h2⟩ := slQ_rp rh rv e
      exact ⟨a, us, rfl, .inl ⟨h1, fun l hl => f.newTup rh h2 hl⟩⟩
    simp only [fTuple] at f
    split at f
    · rename_i xs e
      exact lst xs (by unfold slQ; rw [e]) f
    · rename_i xs e
      exact lst xs (by unfold slQ; rw [e]) f
    · rename_i xs e
      have : t = .tup xs := by
        cases t with
        | ref n => simp only [dr] at e; split at e <;> cases e
        | _ => exact e
      subst this
      obtain ⟨a, us, rfl, h1, h2⟩ := id rv
      exact ⟨a, us, rfl, .inr ⟨SqT.of (Fz.of h1).2, f.val rh rv⟩⟩
    · exact f.elim
  | [], f => exact f.elim
  | _ :: _ :: _, f => exact f.elim
theorem b_list {ow : Bool} : B1 X E (fList ow) (fun xs H Q => ∃ p ys, xs = [.ref p] ∧ (SqL X.K H p ys ∨ SqT X.K H p ys) ∧ ∀ l, H l = none → Q (.ref l) (upd H l (.lst ys))) := fun φ H h ts vs Q rh r f => by
  match ts, f with
  | [t], f =>
    obtain ⟨v, rfl, rv⟩ := r.one
    simp only [fList] at f
    split at f
    · rename_i xs e
      obtain ⟨a, us, rfl, h1, h2⟩ := sqQ_rp rh rv e
      refine ⟨a, us, rfl, h1, fun l hl => ?_⟩
      split at f
      · exact f.own rh hl ⟨us, rfl, h2⟩
      · exact f.newLst rh h2 hl
    · exact f.elim
  | [], f => exact f.elim
  | _ :: _ :: _, f => exact f.elim
end

/-! ### methods -/
inductive Ty where
  | str | int | list | dict
deriving DecidableEq
def Ty.s : Ty → String
  | .str => "str"
  | .int => "int"
  | .list => "list"
  | .dict => "dict"
def tyQ (h : Hv) : T → Option Ty
  | .str _ => some .str
  | .int _ => some .int
  | .lst _ => some .list
  | .arg _ => some .list
  | .dk _ _ => some .dict
  | .dt _ _ => some .dict
  | .ref n => match h[n]? with
    | some (.lst _) => some .list
    | some (.dk false _ _) => some .dict
    | some (.dt false _ _) => some .dict
    | _ => none
  | _ => none
def dMeth (ty : Ty) (f : T → List T → M T) (d : D) (da : DA) : D := fun sl => bnd (d sl) fun x h => if tyQ h x = some ty then bnd (da sl) (f x) h else none
def dMeth0 (ty : Ty) (f : T → List T → M T) (d : D) : D := fun sl => bnd (d sl) fun x h => if tyQ h x = some ty then f x [] h else none
def Mt (X : Cx) (E : XK) (f : T → List T → M T) (r : V → List V → Hp → VK → Prop) : Prop := ∀ (φ : Ow) (H : Hp) (h : Hv) (tx : T) (ts : List T) (x : V) (vs : List V) (Q : VK), RelH X.K φ H h → Rp X.K φ (Fz φ H) tx x → RpL X.K φ (Fz φ H) ts vs →
  Fin X.K X.mg (wV X.K Q) E φ H (f tx ts h) → r x vs H Q
section
variable {X : Cx} {E : XK} {K : PySem.W.Frag} {φ : Ow} {H : Hp} {h : Hv} {t : T} {v : V} {xs : List T} {ty : Ty} {o e : Expr} {es : List Expr} {d : D} {da : DA} {name : Str} {apos cpos : Pos} {id : String} {r : V → List V → Hp → VK → Prop} {f : T → List T → M T}
theorem tyQ_rp (rh : RelH K φ H h) (r : Rp K φ (Fz φ H) t v) (e : tyQ h t = some ty) : tyV K ty.s v H := by
  cases t with
  | str z => cases e; rw [show v = _ from r]; rfl
  | int z => cases e; rw [show v = _ from r]; rfl
  | lst xs =>
    cases e
    obtain ⟨a, vs, rfl, h1, h2⟩ := r
    exact .inl ⟨rfl, vs, SqL.of (Fz.of h1).2⟩
  | arg xs =>
    cases e
    obtain ⟨a, vs, rfl, h1, h2⟩ := r
    exact .inl ⟨rfl, vs, Fz.ex.l h1⟩
  | dk xs =>
    cases e
    obtain ⟨a, kvs, rfl, h1, h2⟩ := r
    exact .inr (.inr (.inl ⟨rfl, .inl ⟨kvs, (Fz.of h1).2⟩⟩))
  | dt xs =>
    cases e
    obtain ⟨a, kvs, rfl, h1, h2⟩ := r
    exact .inr (.inr (.inl ⟨rfl, .inr ⟨kvs, (Fz.of h1).2⟩⟩))
  | ref n =>
    obtain ⟨b, q1, rfl⟩ := r
    simp only [tyQ] at e
    split at e
    · rename_i xs hn
      cases e
      obtain ⟨a, ho, h1, h2, vs, rfl, h3⟩ := rh.at hn
      rw [h1] at q1; cases q1
      exact .inl ⟨rfl, vs, SqL.of h2⟩
    · rename_i ks xs hn
      cases e
      obtain ⟨a, ho, h1, h2, kvs, h3, h4⟩ := rh.at hn
      rw [h1] at q1; cases q1
      have h3 : ho = .dK kvs := h3
      subst h3
      exact .inr (.inr (.inl ⟨rfl, .inl ⟨kvs, h2⟩⟩))
    · rename_i ks xs hn
      cases e
      obtain ⟨a, ho, h1, h2, kvs, h3, h4⟩ := rh.at hn
      rw [h1] at q1; cases q1
      have h3 : ho = .dT kvs := h3
      subst h3
      exact .inr (.inr (.inl ⟨rfl, .inr ⟨kvs, h2⟩⟩))
    · cases e
  | _ => cases e
theorem pd_meth (hf : Mt X E f r) (pa : PlainAttrs ty.s) (slot : Slot ty.s name id) (hty : typeOf (.builtin id) = pure (.type "method_descriptor")) (hm : MtR X id r) (ho : PD X E o d) (ha : PDA X E (e :: es) da)
    (hbase : attributeBase o name X.env (eval o X.env) = eval o X.env := by rfl)
    (hfew : ((backTo cpos (starEach (e :: es) X.env)).all (fun x => !x.1) && (backToKw cpos (keywordEach [] X.env)).all (fun x => x.1.isSome)
      && decide ((e :: es).length + ([] : List Keyword).length + (if ([] : List Keyword).isEmpty then 0 else 1) < 30)) = true := by rfl)
    (hline : (apos.endLine == cpos.line) = true := by rfl) (hs : starEach (e :: es) X.env = (false, eval e X.env) :: starEach es X.env := by rfl) (hplain : (backTo cpos (starEach es X.env)).any (·.1) = false := by rfl) :
    PD X E (.Call (.Attribute o name apos) (e :: es) [] cpos) (dMeth ty f d da) := PE.imp (pe_bm pa slot hty hm ho ha hbase hfew hline hs hplain) fun σ H Q ⟨φ, sl, h, at_, fin⟩ =>
  seqD at_ fin fun φ1 H1 x vx h1 l1 a1 r1 f1 => by
    split at f1
    · rename_i ht
      exact ⟨tyQ_rp a1.h r1 ht, seqA a1 f1 fun φ2 H2 ts vs h2 l2 a2 r2 f2 => hf φ2 H2 h2 x ts vx vs Q a2.h (r1.le l2) r2 f2⟩
    · exact f1.elim
theorem pd_meth0 (hf : Mt X E f r) (pa : PlainAttrs ty.s) (slot : Slot ty.s name id) (hty : typeOf (.builtin id) = pure (.type "method_descriptor")) (hm : MtR X id r) (ho : PD X E o d)
    (hbase : attributeBase o name X.env (eval o X.env) = eval o X.env := by rfl) (hline : (apos.endLine == cpos.line) = true := by rfl) : PD X E (.Call (.Attribute o name apos) [] [] cpos) (dMeth0 ty f d) := PE.imp (pe_bm0 pa slot hty hm ho hbase hline) fun σ H Q ⟨φ, sl, h, at_, fin⟩ =>
  seqD at_ fin fun φ1 H1 x vx h1 l1 a1 r1 f1 => by
    split at f1
    · rename_i ht
      exact ⟨tyQ_rp a1.h r1 ht, hf φ1 H1 h1 x [] vx [] Q a1.h r1 rfl f1⟩
    · exact f1.elim
end
def fAppend (x : T) (ts : List T) : M T := fun h => match x, ts with
  | .ref n, [y] => match h[n]? with
    | some (.lst xs) => if xs.length < lim then some (.ok .non, h.set n (.lst (xs ++ [y]))) else none
    | _ => none
  | _, _ => none
def fPop (x : T) (ts : List T) : M T := fun h => match x, ts with
  | .ref n, [] => match h[n]? with
    | some (.lst xs) => match xs[xs.length - 1]? with
      | some y => some (.ok y, h.set n (.lst xs.dropLast))
      | none => none
    | _ => none
  | _, _ => none
def fPopAt (x : T) (ts : List T) : M T := fun h => match x, ts with
  | .ref n, [.int i] => match h[n]? with
    | some (.lst xs) => match ixN xs.length i with
      | some k => match xs[k]? with
        | some y => if xs.length ≤ lim then some (.ok y, h.set n (.lst (xs.eraseIdx k))) else none
        | none => none
      | none => none
    | _ => none
  | _, _ => none
def fExtend (x : T) (ts : List T) : M T := fun h => match x, ts with
  | .ref n, [y] => match h[n]?, lsO h y with
    | some (.lst xs), some ys => if xs.length + ys.length ≤ lim then some (.ok .non, h.set n (.lst (xs ++ ys))) else none
    | _, _ => none
  | _, _ => none
section
variable {X : Cx} {E : XK} {K : PySem.W.Frag} {φ : Ow} {H : Hp} {h : Hv} {t : T} {v : V} {xs : List T}
theorem nofrz {a : Addr} {vs : List V} (e : H a = some (.lst vs)) : ∀ od u, H a ≠ some (.frz od u) := fun od u z => by rw [e] at z; cases z
theorem RpL.dropLast {F : Hp} {ts : List T} {vs : List V} (h : RpL K φ F ts vs) : RpL K φ F ts.dropLast vs.dropLast := by
  rw [List.dropLast_eq_take, List.dropLast_eq_take, h.length]
  exact h.take _
theorem RpL.erase {F : Hp} : ∀ {ts : List T} {vs : List V} (i : Nat), RpL K φ F ts vs → RpL K φ F (ts.eraseIdx i) (vs.eraseIdx i)
  | [], vs, i, h => by rw [show vs = [] from h]; rfl
  | t :: ts, vs, 0, h => by
    obtain ⟨v, r, rfl, h1, h2⟩ := h
    exact h2
  | t :: ts, vs, i + 1, h => by
    obtain ⟨v, r, rfl, h1, h2⟩ := h
    exact ⟨v, r.eraseIdx i, rfl, h1, RpL.erase i h2⟩
theorem m_append : Mt X E fAppend rAppend := by
  intro φ H h tx ts x vs Q rh rx rs f
  unfold fAppend at f
  split at f
  · rename_i n y
    split at f
    · rename_i xs hn
      split at f
      · rename_i hl
        obtain ⟨a, ho, h1, h2, us, rfl, h3⟩ := rh.at hn
        obtain ⟨b, q1, rfl⟩ := rx
        rw [h1] at q1; cases q1
        obtain ⟨w, rfl, ry⟩ := rs.one
        exact ⟨a, us, w, rfl, rfl, h2, by rw [← h3.length]; exact Nat.lt_of_lt_of_le hl lim_le, f.chg rh h1 (nofrz h2) ⟨us ++ [w], rfl, h3.append ⟨w, [], rfl, ry, rfl⟩⟩ rfl⟩
      · exact f.elim
    · exact f.elim
  · exact f.elim
theorem m_pop : Mt X E fPop rPop := by
  intro φ H h tx ts x vs Q rh rx rs f
  unfold fPop at f
  split at f
  · rename_i n
    split at f
    · rename_i xs hn
      split at f
      · rename_i y hy
        obtain ⟨a, ho, h1, h2, us, rfl, h3⟩ := rh.at hn
        obtain ⟨b, q1, rfl⟩ := rx
        rw [h1] at q1; cases q1
        rw [h3.length] at hy
        obtain ⟨w, e1, ry⟩ := h3.get' hy
        exact ⟨a, us, w, rfl, rs, h2, e1, f.chg rh h1 (nofrz h2) ⟨us.dropLast, rfl, h3.dropLast⟩ ry⟩
      · exact f.elim
    · exact f.elim
  · exact f.elim
theorem m_popAt : Mt X E fPopAt rPopAt := by
  intro φ H h tx ts x vs Q rh rx rs f
  unfold fPopAt at f
  split at f
  · rename_i n i
    split at f
    · rename_i xs hn
      split at f
      · rename_i k hk
        split at f
        · rename_i y hy
          split at f
          · rename_i hl
            obtain ⟨a, ho, h1, h2, us, rfl, h3⟩ := rh.at hn
            obtain ⟨b, q1, rfl⟩ := rx
            rw [h1] at q1; cases q1
            obtain ⟨w0, rfl, ri⟩ := rs.one
            rw [show w0 = _ from ri]
            rw [h3.length] at hk hl
            obtain ⟨w, e1, ry⟩ := h3.get' hy
            obtain ⟨k1, k2, k3, k4⟩ := ixN_seq hk
            have hlim : lim = 16000000 := rfl
            have e63 : (2 : Int) ^ 63 = 9223372036854775808 := by decide
            exact ⟨a, us, i, k, w, rfl, rfl, h2, by omega, by omega, k1, e1, f.chg rh h1 (nofrz h2) ⟨us.eraseIdx k, rfl, h3.erase k⟩ ry⟩
          · exact f.elim
        · exact f.elim
      · exact f.elim
    · exact f.elim
  · exact f.elim
theorem m_extend : Mt X E fExtend rExtend := by
  intro φ H h tx ts x vs Q rh rx rs f
  unfold fExtend at f
  split at f
  · rename_i n y
    split at f
    · rename_i xs ys hn hy
      split at f
      · rename_i hl
        obtain ⟨a, ho, h1, h2, us, rfl, h3⟩ := rh.at hn
        obtain ⟨b, q1, rfl⟩ := rx
        rw [h1] at q1; cases q1
        obtain ⟨w, rfl, ry⟩ := rs.one
        obtain ⟨b, ws, rfl, h4, h5⟩ := rh.lst ry hy
        exact ⟨a, b, us, ws, rfl, rfl, h2, h4, by rw [← h3.length, ← h5.length]; exact Nat.le_trans hl lim_le, f.chg rh h1 (nofrz h2) ⟨us ++ ws, rfl, h3.append h5⟩ rfl⟩
      · exact f.elim
    · exact f.elim
  · exact f.elim
end
end Z

/-! Lay5: targets, statements, loops. -/
namespace Z
open PySem L2

/-! ### targets -/
inductive Tg where
  | nm (i : Nat) | tup (gs : List Tg)
mutual
def setTg : Tg → T → Sl → Option Sl
  | .nm i, t, sl => some (sl.set i (some t))
  | .tup gs, .tup ts, sl => setTgs gs ts sl
  | .tup _, _, _ => none
def setTgs : List Tg → List T → Sl → Option Sl
  | [], [], sl => some sl
  | g :: gs, t :: ts, sl => match setTg g t sl with
    | some sl' => setTgs gs ts sl'
    | none => none
  | _, _, _ => none
def idTg : Tg → List Nat
  | .nm i => [i]
  | .tup gs => idTgs gs
def idTgs : List Tg → List Nat
  | [] => []
  | g :: gs => idTg g ++ idTgs gs
end
/-- two states alike but at places -/
def But (is : List Nat) (σ σ' : L2.St) : Prop := σ'.length = σ.length ∧ ∀ j, j ∉ is → σ'[j]? = σ[j]?
theorem But.refl (is : List Nat) (σ : L2.St) : But is σ σ := ⟨rfl, fun _ _ => rfl⟩
theorem But.trans {is js : List Nat} {σ σ1 σ2 : L2.St} (a : But is σ σ1) (b : But js σ1 σ2) : But (is ++ js) σ σ2 :=
  ⟨b.1.trans a.1, fun j h => by rw [List.mem_append, not_or] at h; rw [b.2 j h.2, a.2 j h.1]⟩
def tGo (K : PySem.W.Frag) (g : Tg) : TG := fun v σ H Q => ∃ φ sl h t sl', At K φ H sl σ h ∧ Rp K φ (Fz φ H) t v ∧ setTg g t sl = some sl' ∧ ∀ σ', At K φ H sl' σ' h → But (idTg g) σ σ' → Q σ' H
def tGos (K : PySem.W.Frag) (g : List Tg) : TGs := fun v σ H Q => ∃ φ sl h t sl', At K φ H sl σ h ∧ RpL K φ (Fz φ H) t v ∧ setTgs g t sl = some sl' ∧ ∀ σ', At K φ H sl' σ' h → But (idTgs g) σ σ' → Q σ' H
abbrev PGD (X : Cx) (e : Expr) (g : Tg) : Prop := PG X e (tGo X.K g)
abbrev PGDs (X : Cx) (e : List Expr) (g : List Tg) : Prop := PGs X e (tGos X.K g)
theorem PG.imp {X : Cx} {e : Expr} {t t' : TG} (h : PG X e t) (i : ∀ v σ H Q, t' v σ H Q → t v σ H Q) : PG X e t' := ⟨fun pins s σ H v u Q I r w => h.run pins s σ H v u Q I r (i v σ H Q w)⟩
theorem PGs.imp {X : Cx} {e : List Expr} {t t' : TGs} (h : PGs X e t) (i : ∀ v σ H Q, t' v σ H Q → t v σ H Q) : PGs X e t' := ⟨fun pins s σ H v u Q I r w => h.run pins s σ H v u Q I r (i v σ H Q w)⟩
section
variable {X : Cx} {e : Expr} {es : List Expr} {pos : Pos} {g : Tg} {gs : List Tg}
theorem pgd_name (i : Nat) {x : Str} (hN : X.N.Nodup) (hi : X.N[i]? = some x := by rfl) (hx : Loc X.env.scope x := by first | exact Or.inl rfl | exact Or.inr rfl) (hf : X.fn x = true ∨ X.env.scope.names.lookup x = some .local := by first | exact .inl rfl | exact .inr rfl) : PGD X (.Name x pos) (.nm i) :=
  PG.imp (pg_name hN hi hx hf) fun v σ H Q ⟨φ, sl, h, t, sl', at_, r, e, k⟩ => by
    cases e
    exact k _ ⟨at_.s.set r i, at_.h⟩ ⟨by simp, fun j hj => by rw [List.getElem?_set_ne (fun z => hj (by rw [idTg]; simp [z]))]⟩
theorem pgds_nil : PGDs X [] [] := PGs.imp pgs_nil fun v σ H Q ⟨φ, sl, h, t, sl', at_, r, e, k⟩ => by
  cases t with
  | nil => cases e; exact ⟨r, k σ at_ (But.refl _ _)⟩
  | cons t ts => cases e
theorem pgds_cons (h1 : PGD X e g) (h2 : PGDs X es gs) (hs : (assignEach (e :: es) X.env).map (·.2) = assign e X.env :: (assignEach es X.env).map (·.2) := by rfl) : PGDs X (e :: es) (g :: gs) :=
  PGs.imp (pgs_cons h1 h2 hs) fun v σ H Q ⟨φ, sl, h, t, sl', at_, r, e, k⟩ => by
    cases t with
    | nil => cases e
    | cons t ts =>
      obtain ⟨v, vs, rfl, r1, r2⟩ := r
      simp only [setTgs] at e
      split at e
      · rename_i sl1 e1
        refine ⟨v, vs, rfl, φ, sl, h, t, sl1, at_, r1, e1, fun σ1 at1 b1 => ⟨φ, sl1, h, ts, sl', at1, r2, e, fun σ2 at2 b2 => k σ2 at2 ?_⟩⟩
        rw [idTgs]
        exact b1.trans b2
      · cases e
theorem pgd_tup {k : Nat} (hc : X.calm = true) (h : PGDs X es gs) (hn : (assignEach es X.env).length = gs.length := by rfl) (hst : (assignEach es X.env).findIdx? (·.1) = none := by rfl) : PGD X (.Tuple es k pos) (.tup gs) :=
  PG.imp (pg_tup hc h hn hst) fun v σ H Q ⟨φ, sl, h, t, sl', at_, r, e, kk⟩ => by
    cases t with
    | tup ts =>
      obtain ⟨a, vs, rfl, r1, r2⟩ := r
      have len : ∀ {gs : List Tg} {ts : List T} {sl sl' : Sl}, setTgs gs ts sl = some sl' → ts.length = gs.length := by
        intro gs
        induction gs with
        | nil => intro ts sl sl' e; cases ts with
          | nil => rfl
          | cons => cases e
        | cons g gs ih => intro ts sl sl' e; cases ts with
          | nil => cases e
          | cons t ts =>
            simp only [setTgs] at e
            split at e
            · simp [ih e]
            · cases e
      have e : setTgs gs ts sl = some sl' := e
      exact ⟨a, vs, rfl, SqT.of (Fz.of r1).2, by rw [← r2.length]; exact len e, φ, sl, h, ts, sl', at_, r2, e, kk⟩
    | _ => cases e
end

/-! ### plain statements -/
def stE {α : Type} (m : M α) (sl : Sl) (k : α → Hv → Option (Fl × Sl × Hv)) : Hv → Option (Fl × Sl × Hv) := fun h => match m h with
  | none => none
  | some (.exc c, h') => some (.exc c, sl, h')
  | some (.ok a, h') => k a h'
def dNx : DS := fun sl h => some (.nx, sl, h)
def dBrk : DS := fun sl h => some (.bk, sl, h)
def dCnt : DS := fun sl h => some (.ct, sl, h)
def dBot : DS := fun _ _ => none
def dRet (d : D) : DS := fun sl => stE (d sl) sl fun t h => some (.rt t, sl, h)
def dRetN : DS := fun sl h => some (.rt .non, sl, h)
def dExpr (d : D) : DS := fun sl => stE (d sl) sl fun _ h => some (.nx, sl, h)
def dAsg (g : Tg) (d : D) : DS := fun sl => stE (d sl) sl fun t h => match setTg g t sl with
  | some sl' => some (.nx, sl', h)
  | none => none
def dIfS (c : DB) (a b : DS) : DS := fun sl => stE (c sl) sl fun k h => if k then a sl h else b sl h
def dSeq (a b : DS) : DS := fun sl h => match a sl h with
  | some (.nx, sl', h') => b sl' h'
  | r => r
def dPar (i j : Nat) (da : DA) : DS := fun sl => stE (da sl) sl fun ts h => match ts with
  | [x, y] => some (.nx, (sl.set i (some x)).set j (some y), h)
  | _ => none
def dAug (i : Nat) (f : T → T → M T) (d : D) : DS := fun sl => match sl[i]? with
  | some (some x) => stE (bnd (d sl) fun y => f x y) sl fun t h => some (.nx, sl.set i (some t), h)
  | _ => fun _ => none
def fSet (o i v : T) (h : Hv) : Option Hv := match o with
  | .ref n => match h[n]? with
    | some (.lst xs) => match i with
      | .int k => (ixN xs.length k).map fun j => h.set n (.lst (xs.set j v))
      | _ => none
    | some (.dk false ks vs) => match keyOf i with
      | some k => if ks.length < lim then some (h.set n (.dk false (putKs ks k) (putV ks vs k v))) else none
      | none => none
    | some (.dt false ks vs) => match keysOf i with
      | some k => if ks.length < lim then some (h.set n (.dt false (putKs ks k) (putV ks vs k v))) else none
      | none => none
    | _ => none
  | _ => none
def dSet (d o i : D) : DS := fun sl => stE (bnd (d sl) fun v => bnd (o sl) fun x => bnd (i sl) fun y => ret (v, x, y)) sl fun p h => match fSet p.2.1 p.2.2 p.1 h with
  | some h' => some (.nx, sl, h')
  | none => none
section
variable {K : PySem.W.Frag} {mg : Str → Option Value} {E : XK} {De : Ends} {φ : Ow} {H : Hp} {sl : Sl} {σ : L2.St} {h : Hv}
/-- the ends of an expression within a statement -/
theorem FinS.step {α : Type} {m : M α} {k : α → Hv → Option (Fl × Sl × Hv)} (f : FinS K mg E De φ H (stE m sl k h)) : Fin K mg (fun φ' H' a => ∃ h', RelH K φ' H' h' ∧ Le φ H φ' H' ∧ FinS K mg E De φ' H' (k a h')) E φ H (m h) := by
  unfold stE at f
  cases hm : m h with
  | none => rw [hm] at f; exact f
  | some p =>
    obtain ⟨r, h'⟩ := p
    rw [hm] at f
    cases r with
    | ok a => exact fun φ' H' l r => ⟨h', r, l, f.le l⟩
    | exc c => exact f
theorem seqS {d : D} {k : T → Hv → Option (Fl × Sl × Hv)} {Q : VK} (a : At K φ H sl σ h) (f : FinS K mg E De φ H (stE (d sl) sl k h))
    (c : ∀ φ' H' t v h', Le φ H φ' H' → At K φ' H' sl σ h' → Rp K φ' (Fz φ' H') t v → FinS K mg E De φ' H' (k t h') → Q v H') : tD K mg E d σ H Q :=
  ⟨φ, sl, h, a, f.step.imp fun φ' H' t ⟨h', r, l, q⟩ v hv => c φ' H' t v h' l (a.le l r) hv q⟩
theorem seqSA {d : DA} {k : List T → Hv → Option (Fl × Sl × Hv)} {Q : List V → Hp → Prop} (a : At K φ H sl σ h) (f : FinS K mg E De φ H (stE (d sl) sl k h))
    (c : ∀ φ' H' t v h', Le φ H φ' H' → At K φ' H' sl σ h' → RpL K φ' (Fz φ' H') t v → FinS K mg E De φ' H' (k t h') → Q v H') : tA K mg E d σ H Q :=
  ⟨φ, sl, h, a, f.step.imp fun φ' H' t ⟨h', r, l, q⟩ v hv => c φ' H' t v h' l (a.le l r) hv q⟩
theorem seqSB {d : DB} {k : Bool → Hv → Option (Fl × Sl × Hv)} {Q : Bool → Hp → Prop} (a : At K φ H sl σ h) (f : FinS K mg E De φ H (stE (d sl) sl k h))
    (c : ∀ φ' H' t h', Le φ H φ' H' → At K φ' H' sl σ h' → FinS K mg E De φ' H' (k t h') → Q t H') : tT K mg E d σ H Q :=
  ⟨φ, sl, h, a, f.step.imp fun φ' H' t ⟨h', r, l, q⟩ => c φ' H' t h' l (a.le l r) q⟩
theorem FinS.nx (f : FinS K mg E De φ H (some (.nx, sl, h))) (a : At K φ H sl σ h) : De.nx σ H := f φ H σ (Le.refl _ _) a
end
section
variable {X : Cx} {E : XK} {e a b c : Expr} {es : List Expr} {st : Stmt} {sts : List Stmt} {pos : Pos} {d o i : D} {da : DA} {dc : DB} {s1 s2 : DS} {g : Tg}
theorem pds_pass : PDS X E (.Pass pos) dNx := PS.imp ps_pass fun De σ H ⟨φ, sl, h, at_, f⟩ => f.nx at_
theorem pds_break : PDS X E (.Break pos) dBrk := PS.imp ps_break fun De σ H ⟨φ, sl, h, at_, f⟩ => f φ H σ (Le.refl _ _) at_
theorem pds_continue : PDS X E (.Continue pos) dCnt := PS.imp ps_continue fun De σ H ⟨φ, sl, h, at_, f⟩ => f φ H σ (Le.refl _ _) at_
theorem pds_never : PDS X E st dBot := PS.imp ps_never fun De σ H ⟨φ, sl, h, at_, f⟩ => f.elim
theorem pds_ret (hd : PD X E e d) : PDS X E (.Return (some e) pos) (dRet d) := PS.imp (ps_ret hd) fun De σ H ⟨φ, sl, h, at_, f⟩ =>
  seqS at_ f fun φ1 H1 t v h1 l1 a1 r1 f1 => f1 φ1 H1 v (Le.refl _ _) a1.h r1
theorem pds_retN : PDS X E (.Return none pos) dRetN := PS.imp ps_retN fun De σ H ⟨φ, sl, h, at_, f⟩ => f φ H .non (Le.refl _ _) at_.h rfl
theorem pds_expr (hd : PD X E e d) (hs : swapsWith e none pos.line X.env = pure false := by rfl) : PDS X E (.Expr e pos) (dExpr d) := PS.imp (ps_expr hd hs) fun De σ H ⟨φ, sl, h, at_, f⟩ =>
  seqS at_ f fun φ1 H1 t v h1 l1 a1 r1 f1 => f1.nx a1
theorem pds_asg {tg : Expr} (hd : PD X E e d) (hg : PGD X tg g) (hs : swapsWithSole [tg] e pos.line X.env = pure false := by rfl) (hw : swappedStores [tg] e X.env = pure none := by rfl)
    (h1 : (assignEach [tg] X.env).map (·.2) = [assign tg X.env] := by rfl) : PDS X E (.Assign [tg] e pos) (dAsg g d) := PS.imp (ps_asg hd hg hs hw h1) fun De σ H ⟨φ, sl, h, at_, f⟩ =>
  seqS at_ f fun φ1 H1 t v h1 l1 a1 r1 f1 => by
    split at f1
    · rename_i sl' e
      exact ⟨φ1, sl, h1, t, sl', a1, r1, e, fun σ' a' _ => f1.nx a'⟩
    · exact f1.elim
theorem pds_set (i : Nat) {x : Str} {pos' : Pos} (hN : X.N.Nodup) (hd : PD X E e d) (hi : X.N[i]? = some x := by rfl) (hx : Loc X.env.scope x := by first | exact Or.inl rfl | exact Or.inr rfl) (hs : swapsWith e (some (.Name x pos')) pos.line X.env = pure false := by rfl)
    (hf : X.fn x = true ∨ X.env.scope.names.lookup x = some .local := by first | exact .inl rfl | exact .inr rfl) : PDS X E (.Assign [.Name x pos'] e pos) (dAsg (.nm i) d) := PS.imp (ps_set hN hi hx hd hs hf) fun De σ H ⟨φ, sl, h, at_, f⟩ =>
  seqS at_ f fun φ1 H1 t v h1 l1 a1 r1 f1 => f1.nx ⟨a1.s.set r1 i, a1.h⟩
theorem pds_if {sts2 : List Stmt} (hc : PDB X E c dc) (h1 : PDSs X E sts s1) (h2 : PDSs X E sts2 s2) : PDS X E (.If c sts sts2 pos) (dIfS dc s1 s2) := PS.imp (ps_if hc h1 h2) fun De σ H ⟨φ, sl, h, at_, f⟩ =>
  seqSB at_ f fun φ1 H1 k h1 l1 a1 f1 => by
    cases k with
    | true => exact ⟨φ1, sl, h1, a1, f1⟩
    | false => exact ⟨φ1, sl, h1, a1, f1⟩
theorem pdss_nil : PDSs X E [] dNx := PSs.imp pss_nil fun De σ H ⟨φ, sl, h, at_, f⟩ => f.nx at_
theorem pdss_one (h1 : PDS X E st s1) : PDSs X E [st] s1 := pss_one h1
theorem pdss_cons (h1 : PDS X E st s1) (h2 : PDSs X E sts s2) : PDSs X E (st :: sts) (dSeq s1 s2) := PSs.imp (pss_cons h1 h2) fun De σ H ⟨φ, sl, h, at_, f⟩ => by
  refine ⟨φ, sl, h, at_, ?_⟩
  unfold dSeq at f
  cases q : s1 sl h with
  | none => rw [q] at f; exact f.elim
  | some p =>
    obtain ⟨fl, sl', h'⟩ := p
    rw [q] at f
    cases fl with
    | nx => exact fun φ1 H1 σ1 l1 a1 => ⟨φ1, sl', h', a1, f.le l1⟩
    | _ => exact f
theorem pds_par (i j : Nat) {x y : Str} {px py pt : Pos} {kt k2 pt2} (hc : X.calm = true) (hN : X.N.Nodup) (ha : PDA X E [a, b] da) (hi : X.N[i]? = some x := by rfl) (hj : X.N[j]? = some y := by rfl) (hij : i ≠ j := by decide)
    (hx : X.env.scope.names.lookup x = some .local := by rfl) (hy : X.env.scope.names.lookup y = some .local := by rfl)
    (hw : swappedStores [.Tuple [.Name x px, .Name y py] kt pt] (.Tuple [a, b] k2 pt2) X.env = pure (some [x, y]) := by rfl)
    (hs : swapsWithSole [.Tuple [.Name x px, .Name y py] kt pt] (.Tuple [a, b] k2 pt2) pos.line X.env = pure false := by rfl) :
    PDS X E (.Assign [.Tuple [.Name x px, .Name y py] kt pt] (.Tuple [a, b] k2 pt2) pos) (dPar i j da) := PS.imp (ps_par hc hN hi hj hij hx hy ha hw hs) fun De σ H ⟨φ, sl, h, at_, f⟩ =>
  seqSA at_ f fun φ1 H1 ts vs h1 l1 a1 r1 f1 => by
    match ts, r1, f1 with
    | [t, u], r1, f1 =>
      obtain ⟨v, w, rfl, q1, q2⟩ := r1.two
      exact ⟨v, w, rfl, f1.nx ⟨(a1.s.set q1 i).set q2 j, a1.h⟩⟩
    | [], _, f1 => exact f1.elim
    | [_], _, f1 => exact f1.elim
    | _ :: _ :: _ :: _, _, f1 => exact f1.elim
theorem pds_aug (i : Nat) {x : Str} {op : Operator} {pos' : Pos} {f : T → T → M T} {r : R2} (hf : Op2 X E f r) (ho : OpR X (inplaceOp op) r) (hN : X.N.Nodup) (hd : PD X E e d) (hi : X.N[i]? = some x := by rfl) (hx : Loc X.env.scope x := by first | exact Or.inl rfl | exact Or.inr rfl)
    (hfn : X.fn x = true ∨ X.env.scope.names.lookup x = some .local := by first | exact .inl rfl | exact .inr rfl) : PDS X E (.AugAssign (.Name x pos') op e pos) (dAug i f d) :=
  PS.imp (ps_aug (ti := r) hN hi hx hd ho hfn) fun De σ H ⟨φ, sl, h, at_, fi⟩ => by
    unfold dAug at fi
    cases e : sl[i]? with
    | none => rw [e] at fi; exact fi.elim
    | some o =>
      cases o with
      | none => rw [e] at fi; exact fi.elim
      | some t =>
        rw [e] at fi
        obtain ⟨v, e1, r1⟩ := at_.s.2 i t e
        refine ⟨v, e1, seqD at_ fi.step fun φ1 H1 y w h1 l1 a1 rw f1 => ?_⟩
        refine hf φ1 H1 h1 t y v w _ a1.h (r1.le l1) rw (f1.imp fun φ2 H2 z ⟨h2, rh2, l2, f2⟩ u ru => ?_)
        exact f2.nx ⟨(at_.s.le l2).set ru i, rh2⟩
def rSetD : V → V → V → Hp → (Hp → Prop) → Prop := fun o i v H Q => ∃ a H4, o = .ref a ∧ DPut H a i v H4 ∧ Q H4
theorem set_dict (hu : X.A.units + 1 < cLine) : PSet X rSetD := by
  intro pins s σ H o i v ov iv u Q I ro ri rv h
  obtain ⟨a, H4, rfl, g, q⟩ := h
  cases ro
  exact d_setItem hu I g ri rv fun s4 I4 => ⟨H4, I4, q⟩
theorem PSet.or {t t' : TSet} (h : PSet X t) (h' : PSet X t') : PSet X (fun o i v H Q => t o i v H Q ∨ t' o i v H Q) := by
  intro pins s σ H o i v ov iv u Q I ro ri rv w
  rcases w with w | w
  · exact h pins s σ H o i v ov iv u Q I ro ri rv w
  · exact h' pins s σ H o i v ov iv u Q I ro ri rv w
theorem fSet_ok {K : PySem.W.Frag} {φ : Ow} {H : Hp} {h h' : Hv} {x y z : T} {vx vy vz : V} {Q : Hp → Prop} (rh : RelH K φ H h) (rx : Rp K φ (Fz φ H) x vx) (ry : Rp K φ (Fz φ H) y vy) (rz : Rp K φ (Fz φ H) z vz) (e : fSet x y z h = some h')
    (q : ∀ H', Le φ H φ H' → RelH K φ H' h' → Q H') : rSetL vx vy vz H Q ∨ rSetD vx vy vz H Q := by
  unfold fSet at e
  split at e
  · rename_i n
    obtain ⟨b, q1, rfl⟩ := rx
    split at e
    · rename_i xs hn
      obtain ⟨a, ho, h1, h2, vs, rfl, h3⟩ := rh.at hn
      rw [h1] at q1; cases q1
      split at e
      · rename_i k
        obtain ⟨j, e1, rfl⟩ := Option.map_eq_some_iff.mp e
        obtain ⟨l, r'⟩ := rh.upd' (o := .lst (xs.set j z)) h1 (nofrz h2) ⟨vs.set j vz, rfl, h3.set rz j⟩
        exact .inl ⟨b, vs, k, j, rfl, ry, h2, by rw [← h3.length]; exact e1, q _ l r'⟩
      · cases e
    · rename_i ks us hn
      obtain ⟨a, ho, h1, h2, kvs, h3, h4, h5⟩ := rh.at hn
      rw [h1] at q1; cases q1
      have h3 : ho = .dK kvs := h3
      subst h3
      split at e
      · rename_i k hk
        split at e
        · rename_i hl
          cases e
          obtain ⟨p1, p2⟩ := rpPut k rz h4 h5
          obtain ⟨l, r'⟩ := rh.upd' (o := .dk false (putKs ks k) (putV ks us k z)) h1 (fun od u w => by rw [h2] at w; cases w) ⟨putK kvs k vz, rfl, p1, p2⟩
          have hlen : kvs.length < sizeLine := by
            rw [← h4, List.length_map] at hl
            exact Nat.lt_of_lt_of_le hl lim_le
          exact .inr ⟨b, _, rfl, .inl ⟨kvs, k, h2, keyOf_rp hk ry, hlen, rfl⟩, q _ l r'⟩
        · cases e
      · cases e
    · rename_i ks us hn
      obtain ⟨a, ho, h1, h2, kvs, h3, h4, h5⟩ := rh.at hn
      rw [h1] at q1; cases q1
      have h3 : ho = .dT kvs := h3
      subst h3
      split at e
      · rename_i k hk
        split at e
        · rename_i hl
          cases e
          obtain ⟨p1, p2⟩ := rpPut k rz h4 h5
          obtain ⟨l, r'⟩ := rh.upd' (o := .dt false (putKs ks k) (putV ks us k z)) h1 (fun od u w => by rw [h2] at w; cases w) ⟨putK kvs k vz, rfl, p1, p2⟩
          have hlen : kvs.length < sizeLine := by
            rw [← h4, List.length_map] at hl
            exact Nat.lt_of_lt_of_le hl lim_le
          cases y with
          | tup ys =>
            obtain ⟨c, ws, rfl, hc, hw⟩ := ry
            have := keysL_rp (show keysL ys = some k from hk) hw
            subst this
            exact .inr ⟨b, _, rfl, .inr ⟨kvs, k, c, h2, rfl, (Fz.of hc).2, hlen, rfl⟩, q _ l r'⟩
          | _ => cases hk
        · cases e
      · cases e
    · cases e
  · cases e
theorem pds_sub {ps : Pos} (hu : X.A.units + 65 < cLine) (hd : PD X E e d) (ho : PD X E a o) (hi : PD X E b i)
    (ha : ∀ v, assign (.Subscript a b ps) X.env v = (do
      let ov ← holding [v] (eval a X.env)
      let iv ← holding [v, ov] (eval b X.env)
      standAt ps
      holding [v, ov, iv] (setItem ov iv v)
      release [v, ov, iv] []) := by intro _; rfl)
    (hs : swapsWithSole [.Subscript a b ps] e pos.line X.env = pure false := by rfl) (hw : swappedStores [.Subscript a b ps] e X.env = pure none := by rfl)
    (h1 : (assignEach [.Subscript a b ps] X.env).map (·.2) = [assign (.Subscript a b ps) X.env] := by rfl) : PDS X E (.Assign [.Subscript a b ps] e pos) (dSet d o i) :=
  PS.imp (ps_asg hd (pg_sub ho hi (PSet.or set_list (set_dict (by omega))) ha) hs hw h1) fun De σ H ⟨φ, sl, h, at_, f⟩ => by
    refine seqD at_ f.step fun φ1 H1 v vv h1 l1 a1 rv f1 => ?_
    refine seqD a1 f1 fun φ2 H2 x vx h2 l2 a2 rx f2 => ?_
    refine seqD a2 f2 fun φ3 H3 y vy h3 l3 a3 ry f3 => ?_
    obtain ⟨h', rh, l4, f4⟩ := f3.now a3.h
    split at f4
    · rename_i h'' e
      exact fSet_ok rh (rx.le l3) ry ((rv.le l2).le l3) e (fun H' l r => (f4.le l).nx (a3.le l r))
    · exact f4.elim
end
end Z

/-! Lay6: loops, sources, list comprehensions, defs. -/
namespace Z
open PySem L2

/-! ### while -/
def whN (c : DB) (b : DS) : Nat → DS
  | 0, _ => fun _ => none
  | n + 1, sl => stE (c sl) sl fun k h => if k then (match b sl h with
      | some (.nx, sl', h') => whN c b n sl' h'
      | some (.ct, sl', h') => whN c b n sl' h'
      | some (.bk, sl', h') => some (.nx, sl', h')
      | r => r) else some (.nx, sl, h)
def dWhile (n : Nat) (c : DB) (b : DS) : DS := whN c b n
section
variable {X : Cx} {E : XK} {e a b c : Expr} {es : List Expr} {st : Stmt} {sts : List Stmt} {pos : Pos} {d o i : D} {da : DA} {dc : DB} {s1 s2 : DS} {g : Tg}
theorem pds_while (n : Nat) (hp : PassesOwn (model X.prog X.w) X.A X.env X.xe) (hc : PDB X E c dc) (hb : PDSs X E sts s1) : PDS X E (.While c sts [] pos) (dWhile n dc s1) := PS.imp (ps_while hp hc hb) fun De σ H ⟨φ, sl, h, at_, f⟩ => by
  refine ⟨fun m σ H => ∃ φ sl h, At X.K φ H sl σ h ∧ FinS X.K X.mg E De φ H (whN dc s1 m sl h), ⟨n, φ, sl, h, at_, f⟩, ?_⟩
  rintro m σ H ⟨φ, sl, h, at_, f⟩
  cases m with
  | zero => exact f.elim
  | succ m =>
    refine seqSB at_ f fun φ1 H1 k h1 l1 a1 f1 => ?_
    cases k with
    | false => exact f1.nx a1
    | true =>
      refine ⟨fun σ H => ∃ φ sl h, At X.K φ H sl σ h ∧ FinS X.K X.mg E De φ H (whN dc s1 m sl h), fun σ' H' w => ⟨m, Nat.lt_succ_self _, w⟩, φ1, sl, h1, a1, ?_⟩
      simp only [if_true] at f1
      cases q : s1 sl h1 with
      | none => rw [q] at f1; exact f1.elim
      | some p =>
        obtain ⟨fl, sl', h'⟩ := p
        rw [q] at f1
        cases fl with
        | nx => exact fun φ2 H2 σ2 l2 a2 => ⟨φ2, sl', h', a2, f1.le l2⟩
        | ct => exact fun φ2 H2 σ2 l2 a2 => ⟨φ2, sl', h', a2, f1.le l2⟩
        | bk => exact f1
        | rt t => exact f1
        | exc c => exact f1
end

/-! ### sources -/
/-- going on, loosely -/
structure Ge (φ : Ow) (H : Hp) (φ' : Ow) (H' : Hp) : Prop where
  pre : ∃ ψ, φ'.own = φ.own ++ ψ
  ex : Ex (Fz φ H) (Fz φ' H')
  fz : ∀ a od u, H a = some (.frz od u) → H' a = some (.frz od u)
theorem Le.ge {φ φ' : Ow} {H H' : Hp} (l : Le φ H φ' H') : Ge φ H φ' H' := ⟨l.pre, l.ex, l.fz⟩
theorem Ge.trans {φ φ1 φ2 : Ow} {H H1 H2 : Hp} (a : Ge φ H φ1 H1) (b : Ge φ1 H1 φ2 H2) : Ge φ H φ2 H2 := by
  obtain ⟨⟨ψ, p⟩, e, f⟩ := a
  obtain ⟨⟨χ, p'⟩, e', f'⟩ := b
  exact ⟨⟨ψ ++ χ, by rw [p', p, List.append_assoc]⟩, e.trans e', fun x o u h => f' x o u (f x o u h)⟩
theorem Ge.at {φ φ' : Ow} {H H' : Hp} (l : Ge φ H φ' H') {n : Nat} {a : Addr} (h : φ.own[n]? = some a) : φ'.own[n]? = some a := by
  obtain ⟨ψ, p⟩ := l.pre
  rw [p, List.getElem?_append_left (List.getElem?_eq_some_iff.mp h).1]
  exact h
theorem Rp.ge {K : PySem.W.Frag} {φ φ' : Ow} {H H' : Hp} {t : T} {v : V} (h : Rp K φ (Fz φ H) t v) (l : Ge φ H φ' H') : Rp K φ' (Fz φ' H') t v := Rp.mono (fun _ _ q => l.at q) l.ex t v h
theorem RpL.ge {K : PySem.W.Frag} {φ φ' : Ow} {H H' : Hp} {t : List T} {v : List V} (h : RpL K φ (Fz φ H) t v) (l : Ge φ H φ' H') : RpL K φ' (Fz φ' H') t v := RpL.mono (fun _ _ q => l.at q) l.ex t v h
theorem RelS.ge {K : PySem.W.Frag} {φ φ' : Ow} {H H' : Hp} {sl : Sl} {σ : L2.St} (h : RelS K φ H sl σ) (l : Ge φ H φ' H') : RelS K φ' H' sl σ :=
  ⟨h.1, fun i t e => let ⟨v, q, r⟩ := h.2 i t e; ⟨v, q, r.ge l⟩⟩
inductive Sr where
  | fix (xs : List T) | live (n : Nat) | liveE (n : Nat)
def enumT (k : Nat) : List T → List T
  | [] => []
  | x :: xs => .tup [.int k, x] :: enumT (k + 1) xs
def srAt (s : Sr) (h : Hv) : Option (List T) := match s with
  | .fix xs => some xs
  | .live n => match h[n]? with
    | some (.lst xs) => some xs
    | _ => none
  | .liveE n => match h[n]? with
    | some (.lst xs) => some (enumT 0 xs)
    | _ => none
/-- the iterator J goes as the source says -/
def SrOk (K : PySem.W.Frag) (φ : Ow) (H : Hp) (J : It) (s : Sr) : Prop := ∀ φ' H' h' xs, Ge φ H φ' H' → RelH K φ' H' h' → srAt s h' = some xs → ∀ i : Nat, (xs.length ≤ i → J.stop i H') ∧
  ∀ t, xs[i]? = some t → J.go i H' ∧ ∀ x H'', J.yld i H' x H'' → Le φ' H' φ' H'' ∧ RelH K φ' H'' h' ∧ Rp K φ' (Fz φ' H'') t x
abbrev DR := Sl → M Sr
def wR (K : PySem.W.Frag) (R : It → Hp → Prop) : Ow → Hp → Sr → Prop := fun φ H s => ∀ J, SrOk K φ H J s → R J H
def tI (K : PySem.W.Frag) (mg : Str → Option Value) (E : XK) (d : DR) : TI := fun σ H R => ∃ φ sl h, At K φ H sl σ h ∧ Fin K mg (wR K R) E φ H (d sl h)
abbrev PID (X : Cx) (E : XK) (tg e : Expr) (d : DR) : Prop := PI X tg e (tI X.K X.mg E d)
theorem PI.imp {X : Cx} {tg e : Expr} {t t' : TI} (h : PI X tg e t) (i : ∀ σ H Q, t' σ H Q → t σ H Q) : PI X tg e t' := ⟨fun pins s σ H Q I w => h.run pins s σ H Q I (i σ H Q w)⟩
/-- a tuple, a list, an own list as it stands, a text -/
def fSrc (x : T) : M Sr := fun h => match x with
  | .tup xs => some (.ok (.fix xs), h)
  | .lst xs => some (.ok (.fix xs), h)
  | .arg xs => some (.ok (.fix xs), h)
  | .str z => some (.ok (.fix (z.cps.toList.map fun c => .str ⟨#[c]⟩)), h)
  | .ref n => match h[n]? with
    | some (.lst _) => some (.ok (.live n), h)
    | some (.dk true ks _) => some (.ok (.fix (ks.map keyT)), h)
    | some (.dt true ks _) => some (.ok (.fix (ks.map fun k => .tup (k.map keyT))), h)
    | _ => none
  | _ => none
def dSrc (d : D) : DR := fun sl => bnd (d sl) fSrc
def rgT (i j : Int) : List T := (List.range (j - i).toNat).map fun k : Nat => .int (i + k)
def in62 (i : Int) : Bool := decide (-4611686018427387904 ≤ i ∧ i < 4611686018427387904)
def dRng1 (da : DA) : DR := fun sl => bnd (da sl) fun ts => match ts with
  | [.int j] => if in62 j then ret (.fix (rgT 0 j)) else bot
  | _ => bot
def dRng2 (da : DA) : DR := fun sl => bnd (da sl) fun ts => match ts with
  | [.int i, .int j] => if in62 i && in62 j then ret (.fix (rgT i j)) else bot
  | _ => bot
theorem in62_of {i : Int} (h : in62 i = true) : -(2 ^ 62) ≤ i ∧ i < 2 ^ 62 := by
  have := of_decide_eq_true h
  have e : (2 : Int) ^ 62 = 4611686018427387904 := by decide
  rw [e]
  exact this
section
variable {X : Cx} {E : XK} {e a b c tg : Expr} {es : List Expr} {pos : Pos} {d : D} {da : DA}
def iAny (K : PySem.W.Frag) (tl : TE) : TI := fun σ H R => tl σ H fun x H1 => (∃ a, x = .ref a ∧ (∃ xs, SqL K H1 a xs) ∧ R (Itl K a) H1) ∨ (∃ a, x = .ref a ∧ (∃ xs, SqT K H1 a xs) ∧ R (Itt K a) H1) ∨ (∃ z, x = .str z ∧ R (Its z) H1) ∨
  (∃ a od kvs, x = .ref a ∧ H1 a = some (.frz od (.dK kvs)) ∧ R (Itk a od kvs) H1) ∨ (∃ a od kvs, x = .ref a ∧ H1 a = some (.frz od (.dT kvs)) ∧ R (Itkt a od kvs) H1)
open PySem.Spec PyProof.Rows in
theorem pi_any {l : Expr} {tl : TE} (hl : PE X l tl) : PI X tg l (iAny X.K tl) := by
  refine ⟨fun pins s σ H R I h => ?_⟩
  refine thn (hl.run pins s σ H _ I h) fun v s1 ⟨x, H1, I1, r1, q1⟩ => ?_
  rcases q1 with ⟨a, e, ⟨xs, hq⟩, q⟩ | ⟨a, e, ⟨xs, hq⟩, q⟩ | ⟨z, e, q⟩ | ⟨a, od, kvs, e, hq, q⟩ | ⟨a, od, kvs, e, hq, q⟩
  · subst e
    cases r1
    obtain ⟨its, rv, p, hz⟩ := I1.list hq
    refine wpAny_pyIter_list p.isList ?_
    refine ⟨s1.heap.objs.size, [s1.heap.objs.size], _, _, H1, rfl, I1.kept (t' := s1.toks) fun b o e => Heap.get?_push_of_some _ e, turn_list a _, ⟨_, Heap.get?_push_size _ rfl, rfl, rfl⟩, fun b hb => ?_, q⟩
    have e : b = s1.heap.objs.size := by simpa using hb
    subst e
    exact I1.fpOk (Nat.le_refl _) (I1.hok.fresh (Nat.le_refl _))
  · subst e
    cases r1
    obtain ⟨its, rv, p, hz⟩ := I1.tuple hq
    refine wpAny_pyIter_tuple (show s1.heap.IsTuple a its.toArray from p) ?_
    refine ⟨s1.heap.objs.size, [s1.heap.objs.size], _, _, H1, rfl, I1.kept (t' := s1.toks) fun b o e => Heap.get?_push_of_some _ e, turn_tuple a _, ⟨_, Heap.get?_push_size _ rfl, rfl, rfl⟩, fun b hb => ?_, q⟩
    have e : b = s1.heap.objs.size := by simpa using hb
    subst e
    exact I1.fpOk (Nat.le_refl _) (I1.hok.fresh (Nat.le_refl _))
  · subst e
    obtain ⟨t, rfl⟩ := r1
    cases ha : z.cps.all (· < 128)
    · exact wpAny_pyIter_wide ha (pi_one (tk := s1.toks) I1 _ (turn_str _ z t "str_iterator" (.inr rfl)) ⟨_, Heap.get?_push_size _ rfl, rfl, rfl⟩ q)
    · exact wpAny_pyIter_ascii ha (pi_one (tk := s1.toks) I1 _ (turn_str _ z t "str_ascii_iterator" (.inl rfl)) ⟨_, Heap.get?_push_size _ rfl, rfl, rfl⟩ q)
  · subst e
    obtain rfl : v = Value.ref a := r1
    obtain ⟨hs, hgd, hx, es, ep, vs, hdt, hsz, kv, hm⟩ := I1.frzK hq
    refine iter_keys hs hgd hx hdt (pi_one (tk := s1.toks) I1 _ (turn_keys _ hdt) ⟨_, Heap.get?_push_size _ rfl, rfl, ?_⟩ q)
    rw [hsz] <;> rfl
  · subst e
    obtain rfl : v = Value.ref a := r1
    obtain ⟨hs, hgd, hx, es, ep, hdt, hsz, ent⟩ := I1.frzT hq
    refine iter_keys hs hgd hx hdt (pi_one (tk := s1.toks) I1 _ (turn_keysT _ hdt) ⟨_, Heap.get?_push_size _ rfl, rfl, ?_⟩ q)
    rw [hsz] <;> rfl
theorem rpKey {K : PySem.W.Frag} {φ : Ow} {F : Hp} (k : Key) : Rp K φ F (keyT k) (kV k) := by cases k <;> rfl
theorem rpKeys {K : PySem.W.Frag} {φ : Ow} {F : Hp} : ∀ ks : List Key, RpL K φ F (ks.map keyT) (ks.map kV)
  | [] => rfl
  | k :: ks => ⟨_, _, rfl, rpKey k, rpKeys ks⟩
/-- a plain sequence that stays -/
theorem srFix {K : PySem.W.Frag} {φ : Ow} {H : Hp} {J : It} {xs : List T} {vs : List V} (r : RpL K φ (Fz φ H) xs vs) (hs : ∀ φ' H', Ge φ H φ' H' → ∀ i, vs.length ≤ i → J.stop i H') (hg : ∀ φ' H', Ge φ H φ' H' → ∀ i v, vs[i]? = some v → J.go i H' ∧ ∀ x H'', J.yld i H' x H'' → H'' = H' ∧ x = v) : SrOk K φ H J (.fix xs) := by
  intro φ' H' h' xs' g rh e i
  cases e
  refine ⟨fun hi => hs φ' H' g i (by rw [← r.length]; exact hi), fun t ht => ?_⟩
  obtain ⟨v, hv, rv⟩ := r.get' ht
  obtain ⟨g1, g2⟩ := hg φ' H' g i v hv
  refine ⟨g1, fun x H'' y => ?_⟩
  obtain ⟨rfl, rfl⟩ := g2 x H'' y
  exact ⟨Le.refl _ _, rh, rv.ge g⟩
theorem srList {K : PySem.W.Frag} {φ : Ow} {H : Hp} {a : Addr} {xs : List T} {vs : List V} (h : SqL K (Fz φ H) a vs) (r : RpL K φ (Fz φ H) xs vs) : SrOk K φ H (Itl K a) (.fix xs) :=
  srFix r (fun φ' H' g i hi => ⟨vs, (g.ex.l h |> Fz.ex.l), hi⟩) fun φ' H' g i v hv => ⟨⟨vs, v, Fz.ex.l (g.ex.l h), hv⟩, fun x H'' ⟨e, y⟩ => ⟨e, by
    have := y vs (Fz.ex.l (g.ex.l h)); rw [hv] at this; exact (Option.some.inj this).symm⟩⟩
theorem srTup {K : PySem.W.Frag} {φ : Ow} {H : Hp} {a : Addr} {xs : List T} {vs : List V} (h : SqT K (Fz φ H) a vs) (r : RpL K φ (Fz φ H) xs vs) : SrOk K φ H (Itt K a) (.fix xs) :=
  srFix r (fun φ' H' g i hi => ⟨vs, (g.ex.t h |> Fz.ex.t), hi⟩) fun φ' H' g i v hv => ⟨⟨vs, v, Fz.ex.t (g.ex.t h), hv⟩, fun x H'' ⟨e, y⟩ => ⟨e, by
    have := y vs (Fz.ex.t (g.ex.t h)); rw [hv] at this; exact (Option.some.inj this).symm⟩⟩
theorem rpInts {K : PySem.W.Frag} {φ : Ow} {F : Hp} {α : Type} (f : α → Int) : ∀ ks : List α, RpL K φ F (ks.map fun k => .int (f k)) (ks.map fun k => V.int (f k))
  | [] => rfl
  | k :: ks => ⟨_, _, rfl, rfl, rpInts f ks⟩
theorem rpStrs {K : PySem.W.Frag} {φ : Ow} {F : Hp} {α : Type} (f : α → Str) : ∀ ks : List α, RpL K φ F (ks.map fun k => .str (f k)) (ks.map fun k => V.str (f k))
  | [] => rfl
  | k :: ks => ⟨_, _, rfl, rfl, rpStrs f ks⟩
theorem srRng {K : PySem.W.Frag} {φ : Ow} {H : Hp} (lo : Int) (n : Nat) : SrOk K φ H (Itr lo n) (.fix ((List.range n).map fun k : Nat => .int (lo + k))) :=
  srFix (rpInts (fun k : Nat => lo + k) (List.range n)) (fun φ' H' g i hi => by show n ≤ i; simpa using hi) fun φ' H' g i v hv => by
    have hi : i < n := by simpa using (List.getElem?_eq_some_iff.mp hv).1
    refine ⟨hi, fun x H'' ⟨e, y⟩ => ⟨e, ?_⟩⟩
    simp [hi] at hv
    rw [y, ← hv]
theorem srStr {K : PySem.W.Frag} {φ : Ow} {H : Hp} (z : Str) : SrOk K φ H (Its z) (.fix (z.cps.toList.map fun c => .str ⟨#[c]⟩)) :=
  srFix (rpStrs (fun c => ⟨#[c]⟩) z.cps.toList) (fun φ' H' g i hi => by show z.cps.size ≤ i; simpa using hi) fun φ' H' g i v hv => by
    have hi : i < z.cps.size := by simpa using (List.getElem?_eq_some_iff.mp hv).1
    refine ⟨hi, fun x H'' ⟨e, c, y, y2⟩ => ⟨e, ?_⟩⟩
    simp [hi] at hv
    rw [y2, ← hv]
    simp [hi] at y
    rw [y]
/-- an own list as it stands -/
theorem srLive {K : PySem.W.Frag} {φ : Ow} {H : Hp} {n : Nat} {a : Addr} (ha : φ.own[n]? = some a) : SrOk K φ H (Itl K a) (.live n) := by
  intro φ' H' h' ys g rh' e i
  simp only [srAt] at e
  split at e
  · rename_i zs hz
    cases e
    obtain ⟨b, ho, h1, h2, vs, rfl, h3⟩ := rh'.at hz
    have := g.at ha
    rw [h1] at this; cases this
    refine ⟨fun hi => ⟨vs, SqL.of h2, by rw [← h3.length]; exact hi⟩, fun t ht => ?_⟩
    obtain ⟨v, hv, rv⟩ := h3.get' ht
    refine ⟨⟨vs, v, SqL.of h2, hv⟩, fun x H'' ⟨e, y⟩ => ?_⟩
    have := y vs (SqL.of h2)
    rw [hv] at this
    cases this
    subst e
    exact ⟨Le.refl _ _, rh', rv⟩
  · cases e
theorem srKeys {K : PySem.W.Frag} {φ : Ow} {H : Hp} {d : Addr} {od : Obj} {kvs : List (Key × V)} (e : H d = some (.frz od (.dK kvs))) : SrOk K φ H (Itk d od kvs) (.fix ((kvs.map (·.1)).map keyT)) := by
  refine srFix (rpKeys (kvs.map (·.1))) (fun φ' H' g i hi => ⟨g.fz _ _ _ e, by simpa using hi⟩) fun φ' H' g i v hv => ?_
  have hi : i < kvs.length := by simpa using (List.getElem?_eq_some_iff.mp hv).1
  refine ⟨⟨g.fz _ _ _ e, hi⟩, fun x H'' ⟨e, k, w, y, y2⟩ => ⟨e, ?_⟩⟩
  rw [List.getElem?_map, List.getElem?_map, y] at hv
  rw [y2]
  exact Option.some.inj hv
theorem RelH.tupNo {K : PySem.W.Frag} {φ : Ow} {H : Hp} {h : Hv} (r : RelH K φ H h) {q : Addr} {vs : List V} (e : H q = some (.tup vs)) : ¬ φ.has q := fun m => by
  rcases m with m | m
  · obtain ⟨n, e1⟩ := List.getElem?_of_mem m
    have hn : n < h.length := by rw [← r.len]; exact (List.getElem?_eq_some_iff.mp e1).1
    obtain ⟨ho, q1, q2⟩ := r.ob n q h[n] e1 (by simp [hn])
    rw [e] at q1; cases q1
    cases ho : h[n] with
    | lst xs => rw [ho] at q2; obtain ⟨_, z, _⟩ := q2; cases z
    | dk lk ks xs =>
      rw [ho] at q2; obtain ⟨_, z, _⟩ := q2
      cases lk with
      | true => obtain ⟨od, z⟩ := z; cases z
      | false => cases (show (HO.tup vs) = _ from z)
    | dt lk ks xs =>
      rw [ho] at q2; obtain ⟨_, z, _⟩ := q2
      cases lk with
      | true => obtain ⟨od, z⟩ := z; cases z
      | false => cases (show (HO.tup vs) = _ from z)
  · obtain ⟨o, q1, q2, _⟩ := r.hd q m
    rw [e] at q1; cases q1
    exact q2 vs rfl
theorem srKeysT {K : PySem.W.Frag} {φ : Ow} {H : Hp} {d : Addr} {od : Obj} {kvs : List (List Key × V)} (e : H d = some (.frz od (.dT kvs))) : SrOk K φ H (Itkt d od kvs) (.fix ((kvs.map (·.1)).map fun k => .tup (k.map keyT))) := by
  intro φ' H' h' xs g rh e2 i
  cases e2
  refine ⟨fun hi => ⟨g.fz _ _ _ e, by simpa using hi⟩, fun t ht => ?_⟩
  have hi : i < kvs.length := by simpa using (List.getElem?_eq_some_iff.mp ht).1
  refine ⟨⟨g.fz _ _ _ e, hi⟩, fun x H'' ⟨e, k, w, q, y, y2, y3⟩ => ?_⟩
  subst e y2
  refine ⟨Le.refl _ _, rh, ?_⟩
  rw [List.getElem?_map, List.getElem?_map, y] at ht
  rw [← Option.some.inj ht]
  exact ⟨q, _, rfl, Fz.mk (rh.tupNo y3) y3, rpKeys k⟩
theorem pid_src (hd : PD X E e d) : PID X E tg e (dSrc d) := PI.imp (pi_any hd) fun σ H R ⟨φ, sl, h, at_, fin⟩ => seqD at_ fin fun φ1 H1 x vx h1 l1 a1 r1 f1 => by
  have rh := a1.h
  cases x with
  | tup xs =>
    obtain ⟨a, vs, rfl, q1, q2⟩ := r1
    exact .inr (.inl ⟨a, rfl, ⟨vs, SqT.of (Fz.of q1).2⟩, f1.now rh _ (srTup (SqT.of q1) q2)⟩)
  | lst xs =>
    obtain ⟨a, vs, rfl, q1, q2⟩ := r1
    exact .inl ⟨a, rfl, ⟨vs, SqL.of (Fz.of q1).2⟩, f1.now rh _ (srList (SqL.of q1) q2)⟩
  | arg xs =>
    obtain ⟨a, vs, rfl, q1, q2⟩ := r1
    exact .inl ⟨a, rfl, ⟨vs, Fz.ex.l q1⟩, f1.now rh _ (srList q1 q2)⟩
  | str z => exact .inr (.inr (.inl ⟨z, r1, f1.now rh _ (srStr z)⟩))
  | ref n =>
    obtain ⟨b, q1, rfl⟩ := r1
    simp only [fSrc] at f1
    split at f1
    · rename_i xs hn
      obtain ⟨a, ho, h1, h2, vs, rfl, h3⟩ := rh.at hn
      rw [h1] at q1; cases q1
      exact .inl ⟨b, rfl, ⟨vs, SqL.of h2⟩, f1 φ1 H1 (Le.refl _ _) rh _ (srLive h1)⟩
    · rename_i ks xs hn
      obtain ⟨a, ho, h1, h2, kvs, h3, rfl, h5⟩ := rh.at hn
      rw [h1] at q1; cases q1
      obtain ⟨od, rfl⟩ := (show ∃ od, ho = .frz od (.dK kvs) from h3)
      exact .inr (.inr (.inr (.inl ⟨b, od, kvs, rfl, h2, f1 φ1 H1 (Le.refl _ _) rh _ (srKeys h2)⟩)))
    · rename_i ks xs hn
      obtain ⟨a, ho, h1, h2, kvs, h3, rfl, h5⟩ := rh.at hn
      rw [h1] at q1; cases q1
      obtain ⟨od, rfl⟩ := (show ∃ od, ho = .frz od (.dT kvs) from h3)
      exact .inr (.inr (.inr (.inr ⟨b, od, kvs, rfl, h2, f1 φ1 H1 (Le.refl _ _) rh _ (srKeysT h2)⟩)))
    · exact f1.elim
  | _ => exact f1.elim
theorem pid_rng1 {p : Pos} (hg : Gl X "range") (hm : X.mg "range" = none) (ha : PDA X E [a] da) (hs : starEach [a] X.env = [(false, eval a X.env)] := by rfl) : PID X E tg (.Call (.Name "range" p) [a] [] pos) (dRng1 da) :=
  PI.imp (pi_range1 hg hm ha hs) fun σ H R ⟨φ, sl, h, at_, fin⟩ => seqA at_ fin fun φ1 H1 ts vs h1 l1 a1 r1 f1 => by
    split at f1
    · rename_i j
      obtain ⟨v, rfl, r⟩ := r1.one
      split at f1
      · rename_i hj
        obtain ⟨b1, b2⟩ := in62_of hj
        rw [show v = _ from r]
        refine ⟨j, rfl, b1, b2, f1.now a1.h _ ?_⟩
        have := srRng (K := X.K) (φ := φ1) (H := H1) 0 j.toNat
        simpa [rgT] using this
      · exact f1.elim
    · exact f1.elim
theorem pid_rng2 {p : Pos} (hg : Gl X "range") (hm : X.mg "range" = none) (ha : PDA X E [a, b] da) (hs : starEach [a, b] X.env = [(false, eval a X.env), (false, eval b X.env)] := by rfl) (hs2 : starEach [b] X.env = [(false, eval b X.env)] := by rfl) : PID X E tg (.Call (.Name "range" p) [a, b] [] pos) (dRng2 da) :=
  PI.imp (pi_range2 hg hm ha hs hs2) fun σ H R ⟨φ, sl, h, at_, fin⟩ => seqA at_ fin fun φ1 H1 ts vs h1 l1 a1 r1 f1 => by
    split at f1
    · rename_i i j
      obtain ⟨v, w, rfl, r, r'⟩ := r1.two
      split at f1
      · rename_i hj
        obtain ⟨hi, hj⟩ := Bool.and_eq_true_iff.mp hj
        obtain ⟨b1, b2⟩ := in62_of hi
        obtain ⟨b3, b4⟩ := in62_of hj
        rw [show v = _ from r, show w = _ from r']
        exact ⟨i, j, rfl, ⟨b1, b2, b3, b4⟩, f1.now a1.h _ (srRng i (j - i).toNat)⟩
      · exact f1.elim
    · exact f1.elim
end

/-! ### for -/
def forIx (s : Sr) (g : Tg) (b : DS) : Nat → Nat → DS
  | 0, _ => fun _ _ => none
  | f + 1, i => fun sl h => match srAt s h with
    | none => none
    | some xs => match xs[i]? with
      | none => some (.nx, sl, h)
      | some t => match setTg g t sl with
        | none => none
        | some sl1 => match b sl1 h with
          | some (.nx, sl', h') => forIx s g b f (i + 1) sl' h'
          | some (.ct, sl', h') => forIx s g b f (i + 1) sl' h'
          | some (.bk, sl', h') => some (.nx, sl', h')
          | r => r
def forL (g : Tg) (b : DS) : List T → DS
  | [] => fun sl h => some (.nx, sl, h)
  | t :: ts => fun sl h => match setTg g t sl with
    | none => none
    | some sl1 => match b sl1 h with
      | some (.nx, sl', h') => forL g b ts sl' h'
      | some (.ct, sl', h') => forL g b ts sl' h'
      | some (.bk, sl', h') => some (.nx, sl', h')
      | r => r
theorem forIx_fix (g : Tg) (b : DS) (xs : List T) : ∀ (f i : Nat) (sl : Sl) (h : Hv), xs.length - i < f → forIx (.fix xs) g b f i sl h = forL g b (xs.drop i) sl h
  | 0, i, sl, h, hf => absurd hf (Nat.not_lt_zero _)
  | f + 1, i, sl, h, hf => by
    by_cases hi : i < xs.length
    · rw [List.drop_eq_getElem_cons hi]
      have e : xs[i]? = some xs[i] := by simp [hi]
      have ih := fun sl' h' => forIx_fix g b xs f (i + 1) sl' h' (by omega)
      simp only [forIx, srAt, e, forL, ih]
    · rw [List.drop_eq_nil_of_le (by omega)]
      have e : xs[i]? = none := by simp; omega
      simp only [forIx, srAt, e, forL]
def fuel : Nat := 100000
def dFor (d : DR) (g : Tg) (b : DS) : DS := fun sl => stE (d sl) sl fun s h => match s with
  | .fix xs => forL g b xs sl h
  | .live n => forIx (.live n) g b fuel 0 sl h
  | .liveE n => forIx (.liveE n) g b fuel 0 sl h
section
variable {X : Cx} {E : XK} {e a b c tg : Expr} {es : List Expr} {sts : List Stmt} {pos : Pos} {d : DR} {da : DA} {g : Tg} {s1 : DS}
theorem for_core {K : PySem.W.Frag} {mg : Str → Option Value} {De : Ends} {φ1 : Ow} {H1 : Hp} {σ1 : L2.St} {sl1 : Sl} {h1 : Hv} {J : It} {s : Sr} {f : Nat} (at_ : At K φ1 H1 sl1 σ1 h1) (ok : SrOk K φ1 H1 J s) (fin : FinS K mg E De φ1 H1 (forIx s g s1 f 0 sl1 h1)) :
    ∃ W : Nat → Nat → L2.St → Hp → Prop, (∃ m, W 0 m σ1 H1) ∧ ∀ i m σ H, W i m σ H → (J.stop i H ∧ De.nx σ H) ∨ (J.go i H ∧ ∃ N : L2.St → Hp → Prop, (∀ σ' H', N σ' H' → ∃ m', m' < m ∧ W (i + 1) m' σ' H') ∧ ∀ x H', J.yld i H x H' →
      tGo K g x σ H' fun σ2 H2 => tS K mg E s1 { De with nx := N, ct := N, bk := De.nx } σ2 H2) := by
  refine ⟨fun i m σ H => ∃ φ sl h, Ge φ1 H1 φ H ∧ At K φ H sl σ h ∧ FinS K mg E De φ H (forIx s g s1 m i sl h), ⟨f, φ1, sl1, h1, (Le.refl _ _).ge, at_, fin⟩, ?_⟩
  rintro i m σ H ⟨φ, sl, h, ge, at_, fin⟩
  cases m with
  | zero => exact fin.elim
  | succ m =>
    simp only [forIx] at fin
    cases e : srAt s h with
    | none => rw [e] at fin; exact fin.elim
    | some xs =>
      obtain ⟨o1, o2⟩ := ok φ H h xs ge at_.h e i
      simp only [e] at fin
      cases e2 : xs[i]? with
      | none =>
        simp only [e2] at fin
        exact .inl ⟨o1 (List.getElem?_eq_none_iff.mp e2), fin.nx at_⟩
      | some t =>
        obtain ⟨g1, g2⟩ := o2 t e2
        simp only [e2] at fin
        refine .inr ⟨g1, fun σ' H' => ∃ φ sl h, Ge φ1 H1 φ H' ∧ At K φ H' sl σ' h ∧ FinS K mg E De φ H' (forIx s g s1 m (i + 1) sl h), fun σ' H' w => ⟨m, Nat.lt_succ_self _, w⟩, fun x H' y => ?_⟩
        obtain ⟨l2, rh2, rx⟩ := g2 x H' y
        cases e3 : setTg g t sl with
        | none => rw [e3] at fin; exact fin.elim
        | some sl2 =>
          simp only [e3] at fin
          refine ⟨φ, sl, h, t, sl2, at_.le l2 rh2, rx, e3, fun σ2 a2 _ => ⟨φ, sl2, h, a2, ?_⟩⟩
          cases e4 : s1 sl2 h with
          | none => rw [e4] at fin; exact fin.elim
          | some p =>
            obtain ⟨fl, sl', h'⟩ := p
            rw [e4] at fin
            cases fl with
            | nx => exact fun φ3 H3 σ3 l3 a3 => ⟨φ3, sl', h', ge.trans (l2.trans l3).ge, a3, fin.le (l2.trans l3)⟩
            | ct => exact fun φ3 H3 σ3 l3 a3 => ⟨φ3, sl', h', ge.trans (l2.trans l3).ge, a3, fin.le (l2.trans l3)⟩
            | bk => exact fun φ3 H3 σ3 l3 a3 => fin φ3 H3 σ3 (l2.trans l3) a3
            | rt t => exact fun φ3 H3 σ3 l3 a3 => fin φ3 H3 σ3 (l2.trans l3) a3
            | exc c => exact fun φ3 H3 σ3 l3 a3 => fin φ3 H3 σ3 (l2.trans l3) a3
theorem pds_for (hp : PassesOwn (model X.prog X.w) X.A X.env X.xe) (hc : X.calm = true) (hi : PID X E tg e d) (hg : PGD X tg g) (hb : PDSs X E sts s1) (hs : ∀ x, foldedSetIterable e X.env x = pure x := by intro _; rfl) : PDS X E (.For tg e sts [] pos) (dFor d g s1) :=
  PS.imp (ps_for hp hc hi hg hb hs) fun De σ H ⟨φ, sl, h, at_, f⟩ => ⟨φ, sl, h, at_, f.step.imp fun φ1 H1 s ⟨h1, rh, l1, f1⟩ J ok => by
    cases s with
    | fix xs => exact for_core (f := xs.length + 1) (at_.le l1 rh) ok (by rw [forIx_fix g s1 xs _ 0 sl h1 (by omega)]; exact f1)
    | live n => exact for_core (at_.le l1 rh) ok f1
    | liveE n => exact for_core (at_.le l1 rh) ok f1⟩
end

/-! ### list comprehensions -/
def wipS (sl : Sl) : List Nat → Sl
  | [] => sl
  | v :: vs => (wipS sl vs).set v none
theorem wipe_at (σ : L2.St) (i : Nat) : ∀ vs : List Nat, (wipe σ vs)[i]? = if i ∈ vs ∧ i < σ.length then some none else σ[i]?
  | [] => by simp [wipe]
  | v :: vs => by
    unfold wipe
    have hl := wipe_length σ vs
    by_cases hv : v = i
    · subst hv
      by_cases hi : v < σ.length
      · rw [List.getElem?_set_self (by rw [hl]; exact hi)]
        simp [hi]
      · rw [List.getElem?_eq_none (by rw [List.length_set, hl]; omega)]
        simp [hi]
    · rw [List.getElem?_set_ne hv, wipe_at σ i vs]
      have : ¬ i = v := fun z => hv z.symm
      simp [this]
theorem wipe_but {is vs : List Nat} {σ σ' : L2.St} (b : But is σ σ') (h : ∀ i ∈ is, i ∈ vs) : wipe σ' vs = wipe σ vs := by
  apply List.ext_getElem?
  intro i
  rw [wipe_at, wipe_at, b.1]
  split
  · rfl
  · rename_i hn
    by_cases hi : i ∈ is
    · have h1 := h i hi
      have : ¬ i < σ.length := fun z => hn ⟨h1, z⟩
      rw [List.getElem?_eq_none (by rw [b.1]; omega), List.getElem?_eq_none (by omega)]
    · exact b.2 i hi
theorem RelS.wipe {K : PySem.W.Frag} {φ : Ow} {H : Hp} {sl : Sl} {σ : L2.St} (r : RelS K φ H sl σ) : ∀ vs : List Nat, RelS K φ H (wipS sl vs) (L2.wipe σ vs)
  | [] => r
  | v :: vs => (RelS.wipe r vs).unset v
/-- the items that the turns make, the world changing -/
def lcL {α : Type} (turn : T → M (List α)) : List T → M (List α)
  | [] => ret []
  | x :: xs => bnd (turn x) fun ys => bnd (lcL turn xs) fun r => ret (ys ++ r)
def lcIx {α : Type} (s : Sr) (turn : T → M (List α)) : Nat → Nat → M (List α)
  | 0, _ => bot
  | f + 1, i => fun h => match srAt s h with
    | none => none
    | some xs => match xs[i]? with
      | none => some (.ok [], h)
      | some t => bnd (turn t) (fun ys => bnd (lcIx s turn f (i + 1)) fun r => ret (ys ++ r)) h
theorem lcIx_fix {α : Type} (turn : T → M (List α)) (xs : List T) : ∀ (f i : Nat) (h : Hv), xs.length - i < f → lcIx (.fix xs) turn f i h = lcL turn (xs.drop i) h
  | 0, i, h, hf => absurd hf (Nat.not_lt_zero _)
  | f + 1, i, h, hf => by
    by_cases hi : i < xs.length
    · rw [List.drop_eq_getElem_cons hi]
      have e : xs[i]? = some xs[i] := by simp [hi]
      have ih := fun h' => lcIx_fix turn xs f (i + 1) h' (by omega)
      simp only [lcIx, srAt, e, lcL, bnd, ih]
    · rw [List.drop_eq_nil_of_le (by omega)]
      have e : xs[i]? = none := by simp; omega
      simp only [lcIx, srAt, e, lcL]
      rfl
def lcS {α : Type} (turn : T → M (List α)) : Sr → M (List α)
  | .fix xs => lcL turn xs
  | .live n => lcIx (.live n) turn fuel 0
  | .liveE n => lcIx (.liveE n) turn fuel 0
theorem lcS_ix {α : Type} (turn : T → M (List α)) (s : Sr) : ∃ f, ∀ h, lcIx s turn f 0 h = lcS turn s h := by
  cases s with
  | fix xs => exact ⟨xs.length + 1, fun h => by rw [lcIx_fix turn xs _ 0 h (by omega)]; rfl⟩
  | live n => exact ⟨fuel, fun h => rfl⟩
  | liveE n => exact ⟨fuel, fun h => rfl⟩
def nox {α : Type} (m : M α) : M α := fun h => match m h with
  | some (.ok a, h') => some (.ok a, h')
  | _ => none
/-- one turn of a comprehension: the target, the tests, the element -/
def lcT (g : Tg) (tt : DB) (te : D) (sl : Sl) (t : T) : M (List T) := match setTg g t sl with
  | none => bot
  | some sl' => bnd (tt sl') fun k => if k then bnd (te sl') fun y => ret [y] else ret []
def lstR (ow : Bool) (xs : List T) : M T := if xs.length ≤ lim then (if ow then own (.lst xs) else ret (.lst xs)) else bot
def dLc (ow : Bool) (vs : List Nat) (d : DR) (g : Tg) (tt : DB) (te : D) : D := fun sl => bnd (d sl) fun s => bnd (nox (lcS (lcT g tt te (wipS sl vs)) s)) (lstR ow)
def dYes : DB := fun _ => ret true

theorem wipe_wipe (σ : L2.St) (vs : List Nat) : wipe (wipe σ vs) vs = wipe σ vs := by
  apply List.ext_getElem?
  intro i
  rw [wipe_at, wipe_length, wipe_at]
  split <;> rfl
/-- within a comprehension: L the list that grows -/
structure LcW (K : PySem.W.Frag) (φ1 : Ow) (H1 : Hp) (L : Addr) (φ : Ow) (H : Hp) (h : Hv) (acc : List V) (accT : List T) : Prop where
  hid : φ.hid = L :: φ1.hid
  no : ¬ φ1.has L
  d1 : H1 L = none
  ge : Ge φ1 H1 φ H
  hk : ∀ a, a ∈ φ1.hid → H a = H1 a
  rh : RelH K φ H h
  hD : H L = some (.lst acc)
  rp : RpL K φ (Fz φ H) accT acc
section
variable {K : PySem.W.Frag} {mg : Str → Option Value} {E : XK} {φ1 φ φ' : Ow} {H1 H H' : Hp} {L : Addr} {h h' h'' h1 : Hv} {acc : List V} {accT r : List T} {Q : VK} {ow : Bool} {J : It} {s : Sr} {sl : Sl} {σ : L2.St} {vs : List Nat} {g : Tg} {tt : DB} {te : D}
theorem LcW.start (rh : RelH K φ1 H1 h) (hD : H1 L = none) : LcW K φ1 H1 L (φ1.hide L) (upd H1 L (.lst [])) h [] [] := by
  have no := rh.free hD
  have ex : Ex (Fz φ1 H1) (Fz (φ1.hide L) (upd H1 L (.lst []))) := fun a o e => by
    obtain ⟨h1, h2⟩ := Fz.of e
    have ne : a ≠ L := ne_of_none h2 hD
    refine Fz.mk (fun z => ?_) (by rw [upd_ne ne]; exact h2) (Fz.nt e)
    rcases z with z | z
    · exact h1 (.inl z)
    · rcases List.mem_cons.mp z with z | z
      · exact ne z
      · exact h1 (.inr z)
  have hne : ∀ a, a ∈ φ1.hid → a ≠ L := fun a m z => no (.inr (by rw [← z]; exact m))
  refine ⟨rfl, no, hD, ⟨⟨[], by simp [Ow.hide]⟩, ex, fun a od u e => by rw [upd_ne (ne_of_none e hD)]; exact e⟩, fun a m => upd_ne (hne a m), ?_, upd_same, rfl⟩
  refine ⟨rh.nd, fun a m z => ?_, fun a m => ?_, rh.len, fun n a ob e1 e2 => ?_, tabs_upd rh.tab (.inl hD)⟩
  · rcases List.mem_cons.mp z with z | z
    · exact no (.inl (by rw [← z]; exact m))
    · exact rh.dis a m z
  · rcases List.mem_cons.mp m with z | m
    · rw [z]; exact ⟨_, upd_same, (fun vs z => nomatch z), True.intro⟩
    · obtain ⟨o, q, z⟩ := rh.hd a m
      exact ⟨o, by rw [upd_ne (hne a m)]; exact q, z⟩
  · obtain ⟨ho, q, z⟩ := rh.ob n a ob e1 e2
    exact ⟨ho, by rw [upd_ne (ne_of_none q hD)]; exact q, RpO.mono (φ := φ1) (φ' := φ1.hide L) (fun _ _ z => z) ex z⟩
theorem LcW.le (w : LcW K φ1 H1 L φ H h acc accT) (l : Le φ H φ' H') (rh : RelH K φ' H' h') : LcW K φ1 H1 L φ' H' h' acc accT := by
  have md : L ∈ φ.hid := by rw [w.hid]; exact List.mem_cons_self ..
  exact ⟨l.hid.trans w.hid, w.no, w.d1, w.ge.trans l.ge, fun a m => (l.hk a (by rw [w.hid]; exact List.mem_cons_of_mem _ m)).trans (w.hk a m), rh, (l.hk L md).trans w.hD, w.rp.le l⟩
theorem LcW.push {y : T} {v : V} (w : LcW K φ1 H1 L φ H h acc accT) (q : Rp K φ (Fz φ H) y v) : LcW K φ1 H1 L φ (upd H L (.lst (acc ++ [v]))) h (acc ++ [v]) (accT ++ [y]) ∧ Ge φ H φ (upd H L (.lst (acc ++ [v]))) := by
  have md : L ∈ φ.hid := by rw [w.hid]; exact List.mem_cons_self ..
  have ex : Ex (Fz φ H) (Fz φ (upd H L (.lst (acc ++ [v])))) := fun a o e => by
    obtain ⟨h1, h2⟩ := Fz.of e
    have ne : a ≠ L := fun z => h1 (.inr (by rw [z]; exact md))
    exact Fz.mk h1 (by rw [upd_ne ne]; exact h2) (Fz.nt e)
  have ge : Ge φ H φ (upd H L (.lst (acc ++ [v]))) := ⟨⟨[], by simp⟩, ex, fun a od u e => by
    have ne : a ≠ L := fun z => by rw [z, w.hD] at e; cases e
    rw [upd_ne ne]; exact e⟩
  refine ⟨⟨w.hid, w.no, w.d1, w.ge.trans ge, fun a m => ?_, ?_, upd_same, ?_⟩, ge⟩
  · have ne : a ≠ L := fun z => w.no (.inr (by rw [← z]; exact m))
    rw [upd_ne ne]; exact w.hk a m
  · refine ⟨w.rh.nd, w.rh.dis, fun a m => ?_, w.rh.len, fun n a ob e1 e2 => ?_, tabs_upd w.rh.tab (.inr ⟨_, w.hD, True.intro⟩)⟩
    · by_cases ha : a = L
      · subst ha
        exact ⟨_, upd_same, (fun vs z => nomatch z), True.intro⟩
      · obtain ⟨o, q, z⟩ := w.rh.hd a m
        exact ⟨o, by rw [upd_ne ha]; exact q, z⟩
    · obtain ⟨ho, q, z⟩ := w.rh.ob n a ob e1 e2
      have ne : a ≠ L := fun z => w.rh.dis a (List.mem_of_getElem? e1) (by rw [z]; exact md)
      exact ⟨ho, by rw [upd_ne ne]; exact q, z.mono (fun _ _ z => z) ex⟩
  · exact (w.rp.append ⟨v, [], rfl, q, rfl⟩ : RpL K φ (Fz φ H) (accT ++ [y]) (acc ++ [v])) |> RpL.mono (fun _ _ z => z) ex _ _
theorem LcW.fin (w : LcW K φ1 H1 L φ H h acc accT) (f : Fin K mg (wV K Q) E φ1 H1 (lstR ow accT h)) : Q (.ref L) H := by
  have md : L ∈ φ.hid := by rw [w.hid]; exact List.mem_cons_self ..
  have nd : L ∉ φ.own := fun z => w.rh.dis L z md
  have ndh : L ∉ φ1.hid := fun z => w.no (.inr z)
  have ex1 : Ex (Fz φ H) (Fz ⟨φ.own, φ1.hid⟩ H) := fun a o e => by
    obtain ⟨h1, h2⟩ := Fz.of e
    refine Fz.mk (fun z => h1 ?_) h2 (Fz.nt e)
    rcases z with z | z
    · exact .inl z
    · exact .inr (by rw [w.hid]; exact List.mem_cons_of_mem _ z)
  have hd1 : ∀ a, a ∈ φ1.hid → ∃ o, H a = some o ∧ (∀ vs, o ≠ .tup vs) ∧ Plain o := fun a m => w.rh.hd a (by rw [w.hid]; exact List.mem_cons_of_mem _ m)
  have dis1 : ∀ a, a ∈ φ.own → a ∉ φ1.hid := fun a m z => w.rh.dis a m (by rw [w.hid]; exact List.mem_cons_of_mem _ z)
  unfold lstR at f
  split at f
  · cases ow with
    | true =>
      simp only [if_true, Z.own] at f
      have ex2 : Ex (Fz φ H) (Fz ⟨φ.own ++ [L], φ1.hid⟩ H) := fun a o e => by
        obtain ⟨h1, h2⟩ := Fz.of e
        refine Fz.mk (fun z => h1 ?_) h2 (Fz.nt e)
        rcases z with z | z
        · rcases List.mem_append.mp z with z | z
          · exact .inl z
          · have : a = L := by simpa using z
            rw [this]; exact .inr md
        · exact .inr (by rw [w.hid]; exact List.mem_cons_of_mem _ z)
      have pre : ∀ (n : Nat) a, φ.own[n]? = some a → (φ.own ++ [L])[n]? = some a := fun n a e => by rw [List.getElem?_append_left (List.getElem?_eq_some_iff.mp e).1]; exact e
      refine f ⟨φ.own ++ [L], φ1.hid⟩ H ⟨?_, rfl, ?_, w.ge.fz, w.hk⟩ ⟨?_, fun a m z => ?_, hd1, ?_, fun n a ob e1 e2 => ?_, w.rh.tab⟩ _ ⟨L, ?_, rfl⟩
      · obtain ⟨ψ, p⟩ := w.ge.pre
        exact ⟨ψ ++ [L], by show φ.own ++ [L] = _; rw [p, List.append_assoc]⟩
      · exact w.ge.ex.trans ex2
      · rw [List.nodup_append]
        refine ⟨w.rh.nd, by simp, fun x hx y hy z => ?_⟩
        simp at hy
        subst hy z
        exact nd hx
      · rcases List.mem_append.mp m with m | m
        · exact dis1 a m z
        · have : a = L := by simpa using m
          rw [this] at z; exact ndh z
      · simp [w.rh.len]
      · have e1 : (φ.own ++ [L])[n]? = some a := e1
        by_cases hm : n < φ.own.length
        · rw [List.getElem?_append_left hm] at e1
          rw [List.getElem?_append_left (by rw [← w.rh.len]; exact hm)] at e2
          obtain ⟨ho, q, z⟩ := w.rh.ob n a ob e1 e2
          exact ⟨ho, q, z.mono pre ex2⟩
        · have hm2 : n = φ.own.length := by
            have := (List.getElem?_eq_some_iff.mp e1).1
            simp at this; omega
          subst hm2
          rw [List.getElem?_append_right (Nat.le_refl _)] at e1
          rw [List.getElem?_append_right (by rw [w.rh.len]; exact Nat.le_refl _)] at e2
          simp [w.rh.len] at e1 e2
          subst e1 e2
          exact ⟨_, w.hD, acc, rfl, RpL.mono pre ex2 _ _ w.rp⟩
      · show (φ.own ++ [L])[h.length]? = some L
        rw [← w.rh.len]; simp
    | false =>
      simp only [Bool.false_eq_true, if_false, ret] at f
      refine f ⟨φ.own, φ1.hid⟩ H ⟨w.ge.pre, rfl, w.ge.ex.trans ex1, w.ge.fz, w.hk⟩ ⟨w.rh.nd, dis1, hd1, w.rh.len, fun n a ob e1 e2 => ?_, w.rh.tab⟩ _ ⟨L, acc, rfl, Fz.mk (fun z => ?_) w.hD, RpL.mono (φ := φ) (φ' := ⟨φ.own, φ1.hid⟩) (fun _ _ z => z) ex1 _ _ w.rp⟩
      · obtain ⟨ho, q, z⟩ := w.rh.ob n a ob e1 e2
        exact ⟨ho, q, RpO.mono (φ := φ) (φ' := ⟨φ.own, φ1.hid⟩) (fun _ _ z => z) ex1 z⟩
      · rcases z with z | z
        · exact nd z
        · exact ndh z
  · exact f.elim
theorem bnd_ok {α β : Type} {m : M α} {k : α → M β} {b : β} (e : bnd m k h = some (.ok b, h'')) : ∃ a h', m h = some (.ok a, h') ∧ k a h' = some (.ok b, h'') := by
  unfold bnd at e
  cases q : m h with
  | none => rw [q] at e; cases e
  | some p =>
    obtain ⟨r, h'⟩ := p
    rw [q] at e
    cases r with
    | ok a => exact ⟨a, h', rfl, e⟩
    | exc c => cases e
theorem ret_ok {α : Type} {a b : α} (e : ret a h = some (.ok b, h')) : b = a ∧ h' = h := by
  unfold ret at e
  injection e with e
  injection e with e1 e2
  injection e1 with e1
  exact ⟨e1.symm, e2.symm⟩
theorem lcT_ok {t : T} {ys : List T} (e : lcT g tt te sl t h = some (.ok ys, h')) : ∃ sl', setTg g t sl = some sl' ∧ ∃ k h4, tt sl' h = some (.ok k, h4) ∧ ((k = false ∧ ys = [] ∧ h' = h4) ∨ (k = true ∧ ∃ y, te sl' h4 = some (.ok y, h') ∧ ys = [y])) := by
  unfold lcT at e
  cases q : setTg g t sl with
  | none => rw [q] at e; cases e
  | some sl' =>
    rw [q] at e
    obtain ⟨k, h4, e1, e2⟩ := bnd_ok e
    refine ⟨sl', rfl, k, h4, e1, ?_⟩
    cases k with
    | false =>
      obtain ⟨q1, q2⟩ := ret_ok e2
      exact .inl ⟨rfl, q1, q2⟩
    | true =>
      obtain ⟨y, h5, e3, e4⟩ := bnd_ok e2
      obtain ⟨q1, q2⟩ := ret_ok e4
      subst q2
      exact .inr ⟨rfl, y, e3, q1⟩
/-- one clause's loop, from a world on -/
theorem lc_loop {f : Nat} {P : Hp → Prop} {φs : Ow} {Hs : Hp} (w : LcW K φ1 H1 L φ H h acc accT) (rs : RelS K φ H sl σ) (ok : SrOk K φs Hs J s) (gs : Ge φs Hs φ H) (hv : ∀ i ∈ idTg g, i ∈ vs) (run : lcIx s (lcT g tt te (wipS sl vs)) f 0 h = some (.ok r, h'')) (hb : (accT ++ r).length ≤ lim)
    (fin : ∀ φ' H' acc', LcW K φ1 H1 L φ' H' h'' acc' (accT ++ r) → Ge φ H φ' H' → P H') :
    ∃ W : Nat → Nat → Hp → Prop, (∃ m, W 0 m H) ∧ ∀ i m H, W i m H → (J.stop i H ∧ P H) ∨ (J.go i H ∧ ∃ Nx : Hp → Prop, (∀ H', Nx H' → ∃ m', m' < m ∧ W (i + 1) m' H') ∧ ∀ x H', J.yld i H x H' →
      tGo K g x (L2.wipe σ vs) H' fun σ2 H2 => L2.wipe σ2 vs = L2.wipe σ vs ∧ tT K mg E tt σ2 H2 fun b H3 => if b = true then tD K mg E te σ2 H3 fun y H4 => ∃ acc, H4 L = some (.lst acc) ∧ acc.length < sizeLine ∧ Nx (upd H4 L (.lst (acc ++ [y]))) else Nx H3) := by
  refine ⟨fun i m H' => ∃ φ' h' acc' accT' r', LcW K φ1 H1 L φ' H' h' acc' accT' ∧ Ge φ H φ' H' ∧ lcIx s (lcT g tt te (wipS sl vs)) m i h' = some (.ok r', h'') ∧ accT' ++ r' = accT ++ r, ⟨f, φ, h, acc, accT, r, w, (Le.refl _ _).ge, run, rfl⟩, ?_⟩
  rintro i m H2 ⟨φ2, h2, acc2, accT2, r2, w2, ge2, run2, tot2⟩
  cases m with
  | zero => cases run2
  | succ m =>
    simp only [lcIx] at run2
    cases e : srAt s h2 with
    | none => rw [e] at run2; cases run2
    | some xs =>
      obtain ⟨o1, o2⟩ := ok φ2 H2 h2 xs (gs.trans ge2) w2.rh e i
      simp only [e] at run2
      cases e2 : xs[i]? with
      | none =>
        simp only [e2] at run2
        have hh : h2 = h'' := by injection run2 with z; exact (Prod.mk.inj z).2
        have hr : r2 = [] := by injection run2 with z; have := (Prod.mk.inj z).1; injection this with z; exact z.symm
        subst hh hr
        rw [List.append_nil] at tot2
        subst tot2
        exact .inl ⟨o1 (List.getElem?_eq_none_iff.mp e2), fin φ2 H2 acc2 w2 ge2⟩
      | some t =>
        obtain ⟨g1, g2⟩ := o2 t e2
        simp only [e2] at run2
        obtain ⟨ys, h5, run3, run4⟩ := bnd_ok run2
        obtain ⟨r5, h6, run5, run6⟩ := bnd_ok run4
        obtain ⟨q1, q2⟩ := ret_ok run6
        subst q1 q2
        obtain ⟨sl', e3, k, h4, e4, alt⟩ := lcT_ok run3
        refine .inr ⟨g1, fun H' => ∃ φ' h' acc' accT' r', LcW K φ1 H1 L φ' H' h' acc' accT' ∧ Ge φ H φ' H' ∧ lcIx s (lcT g tt te (wipS sl vs)) m (i + 1) h' = some (.ok r', h'') ∧ accT' ++ r' = accT ++ r, fun H' w => ⟨m, Nat.lt_succ_self _, w⟩, fun x H3 y => ?_⟩
        obtain ⟨l3, rh3, rx⟩ := g2 x H3 y
        have w3 := w2.le l3 rh3
        have ge3 := ge2.trans l3.ge
        refine ⟨φ2, wipS sl vs, h2, t, sl', ⟨(rs.ge ge3).wipe vs, rh3⟩, rx, e3, fun σ2 a4 but => ⟨(wipe_but but hv).trans (wipe_wipe σ vs), φ2, sl', h2, a4, ?_⟩⟩
        rw [e4]
        intro φ4 H4 l4 rh4
        have w4 := w3.le l4 rh4
        have ge4 := ge3.trans l4.ge
        rcases alt with ⟨rfl, rfl, rfl⟩ | ⟨rfl, y5, e5, rfl⟩
        · simp only [wB, Bool.false_eq_true, if_false]
          exact ⟨φ4, _, acc2, accT2, r5, w4, ge4, run5, tot2⟩
        · simp only [wB, if_true]
          refine ⟨φ4, sl', h4, a4.le l4 rh4, ?_⟩
          rw [e5]
          intro φ5 H5 l5 rh5 v rv
          have w5 := w4.le l5 rh5
          have ge5 := ge4.trans l5.ge
          obtain ⟨w6, ge6⟩ := w5.push rv
          refine ⟨acc2, w5.hD, ?_, φ5, _, _, accT2 ++ [y5], r5, w6, ge5.trans ge6, run5, by rw [← tot2, List.append_assoc]⟩
          have hlen : accT2.length = acc2.length := w2.rp.length
          rw [← tot2, List.length_append, List.length_append] at hb
          have := lim_le
          simp at hb
          omega
end
section
variable {X : Cx} {E : XK} {elt tg iter : Expr} {ifs : List Expr} {scope : Scope} {own : List (Str × Nat)} {pos : Pos} {d : DR} {g : Tg} {tt : DB} {te : D}
abbrev PTD (X : Cx) (E : XK) (ifs : List Expr) (t : DB) : Prop := PTs X ifs (tT X.K X.mg E t)
theorem PTs.imp {X : Cx} {e : List Expr} {t t' : TT} (h : PTs X e t) (i : ∀ σ H Q, t' σ H Q → t σ H Q) : PTs X e t' := ⟨fun pins s σ H Q I w => h.run pins s σ H Q I (i σ H Q w)⟩
theorem ptd_nil : PTD X E [] dYes := PTs.imp pts_nil fun σ H Q ⟨φ, sl, h, at_, f⟩ => f.now at_.h
theorem ptd_one {c : Expr} {t : DB} (h : PDB X E c t) : PTD X E [c] t := pts_one h
theorem lc_imp {K : PySem.W.Frag} {mg : Str → Option Value} {ow : Bool} {vs : List Nat} (hv : ∀ i ∈ idTg g, i ∈ vs) (σ : L2.St) (H : Hp) (Q : VK) (w : tD K mg E (dLc ow vs d g tt te) σ H Q) : tLc (tI K mg E d) (tGo K g) (tT K mg E tt) (tD K mg E te) vs σ H Q := by
  obtain ⟨φ, sl, h, at_, fin⟩ := w
  refine ⟨φ, sl, h, at_, fin.bnd.imp fun φ1 H1 s ⟨h1, rh1, l1, f1⟩ J ok L hL => ?_⟩
  have w0 := LcW.start rh1 hL
  unfold nox at f1
  cases q : lcS (lcT g tt te (wipS sl vs)) s h1 with
  | none => simp only [bnd, q] at f1; exact f1.elim
  | some p =>
    obtain ⟨r, h''⟩ := p
    cases r with
    | exc c => simp only [bnd, q] at f1; exact f1.elim
    | ok r =>
      simp only [bnd, q] at f1
      obtain ⟨f, hf⟩ := lcS_ix (lcT g tt te (wipS sl vs)) s
      have hb : ([] ++ r).length ≤ lim := by
        unfold lstR at f1
        split at f1
        · assumption
        · exact f1.elim
      exact lc_loop w0 ((at_.s.le l1).ge w0.ge) ok w0.ge hv (by rw [hf]; exact q) hb fun φ' H' acc' w' _ => w'.fin f1
theorem pd_lc (ow : Bool) (own : List (Str × Nat)) (hc : X.calm = true) (hN : X.N.Nodup) (hi : PID X E tg iter d) (ok : blkC X.N X.env.scope scope own = true)
    (hg : ∀ (s : Shared) (H : Hp) (C : Addr) (cl : List (Str × Addr)) (fp : List Addr), PGD (X.blk s H scope (compEnvC scope cl C X.env) fp) tg g)
    (ht : ∀ (s : Shared) (H : Hp) (C : Addr) (cl : List (Str × Addr)) (fp : List Addr), PTD (X.blk s H scope (compEnvC scope cl C X.env) fp) E ifs tt)
    (he : ∀ (s : Shared) (H : Hp) (C : Addr) (cl : List (Str × Addr)) (fp : List Addr), PD (X.blk s H scope (compEnvC scope cl C X.env) fp) E elt te)
    (hv : ∀ i ∈ idTg g, i ∈ own.map (·.2) := by decide) (hs : ∀ x, foldedSetIterable iter X.env x = pure x := by intro _; rfl) :
    PD X E (.ListComp elt [⟨tg, iter, ifs, 0⟩] scope pos) (dLc ow (own.map (·.2)) d g tt te) :=
  PE.imp (pe_lc hc hN hi (blkOk_by ok) hg ht he hs) (lc_imp hv)
theorem pds_setLc (ow : Bool) (own : List (Str × Nat)) (i : Nat) {y : Str} {py spos : Pos} (hc : X.calm = true) (hN : X.N.Nodup) (hsw : swapsWith (.ListComp elt [⟨tg, iter, ifs, 0⟩] scope pos) (some (.Name y py)) spos.line X.env = pure true)
    (hi : PID X E tg iter d) (ok : blkC X.N X.env.scope scope own = true)
    (hg : ∀ (s : Shared) (H : Hp) (C : Addr) (cl : List (Str × Addr)) (fp : List Addr), PGD (X.blk s H scope (compEnvC scope cl C X.env) fp) tg g)
    (ht : ∀ (s : Shared) (H : Hp) (C : Addr) (cl : List (Str × Addr)) (fp : List Addr), PTD (X.blk s H scope (compEnvC scope cl C X.env) fp) E ifs tt)
    (he : ∀ (s : Shared) (H : Hp) (C : Addr) (cl : List (Str × Addr)) (fp : List Addr), PD (X.blk s H scope (compEnvC scope cl C X.env) fp) E elt te)
    (hv : ∀ i ∈ idTg g, i ∈ own.map (·.2) := by decide) (hy : X.N[i]? = some y := by rfl) (hyl : X.env.scope.names.lookup y = some .local := by rfl) (hs : ∀ x, foldedSetIterable iter X.env x = pure x := by intro _; rfl) :
    PDS X E (.Assign [.Name y py] (.ListComp elt [⟨tg, iter, ifs, 0⟩] scope pos) spos) (dAsg (.nm i) (dLc ow (own.map (·.2)) d g tt te)) :=
  PS.imp (ps_setLc hc hN hy hyl hsw hi (blkOk_by ok) hg ht he hs) fun De σ H ⟨φ, sl, h, at_, f⟩ => by
    show tLc _ _ _ _ _ σ H fun x H1 => gName i x σ H1 De.nx
    refine lc_imp (ow := ow) hv σ H _ (seqS at_ f fun φ1 H1 t v h1 l1 a1 r1 f1 => f1.nx ⟨a1.s.set r1 i, a1.h⟩)
end
end Z

/-! Lay7: comprehensions of two clauses, defs. -/
namespace Z
open PySem L2

def lcT2 (g : Tg) (tt : DB) (d1 : DR) (g1 : Tg) (tt1 : DB) (te : D) (vs1 : List Nat) (sl : Sl) (t : T) : M (List T) := match setTg g t sl with
  | none => bot
  | some sl' => bnd (tt sl') fun k => if k then bnd (d1 sl') fun s1 => lcS (lcT g1 tt1 te (wipS sl' vs1)) s1 else ret []
def dLc2 (ow : Bool) (vs vs1 : List Nat) (d : DR) (g : Tg) (tt : DB) (d1 : DR) (g1 : Tg) (tt1 : DB) (te : D) : D := fun sl => bnd (d sl) fun s => bnd (nox (lcS (lcT2 g tt d1 g1 tt1 te vs1 (wipS sl vs)) s)) (lstR ow)
section
variable {K : PySem.W.Frag} {mg : Str → Option Value} {E : XK} {φ1 φ φ' : Ow} {H1 H H' : Hp} {L : Addr} {h h' h'' h1 : Hv} {acc : List V} {accT r : List T} {Q : VK} {ow : Bool} {J : It} {s : Sr} {sl : Sl} {σ : L2.St} {vs vs1 : List Nat} {g g1 : Tg} {tt tt1 : DB} {te : D} {d1 : DR}
theorem lcT2_ok {t : T} {ys : List T} (e : lcT2 g tt d1 g1 tt1 te vs1 sl t h = some (.ok ys, h')) : ∃ sl', setTg g t sl = some sl' ∧ ∃ k h4, tt sl' h = some (.ok k, h4) ∧
    ((k = false ∧ ys = [] ∧ h' = h4) ∨ (k = true ∧ ∃ s1 h5, d1 sl' h4 = some (.ok s1, h5) ∧ lcS (lcT g1 tt1 te (wipS sl' vs1)) s1 h5 = some (.ok ys, h'))) := by
  unfold lcT2 at e
  cases q : setTg g t sl with
  | none => rw [q] at e; cases e
  | some sl' =>
    rw [q] at e
    obtain ⟨k, h4, e1, e2⟩ := bnd_ok e
    refine ⟨sl', rfl, k, h4, e1, ?_⟩
    cases k with
    | false =>
      obtain ⟨q1, q2⟩ := ret_ok e2
      exact .inl ⟨rfl, q1, q2⟩
    | true =>
      obtain ⟨y, h5, e3, e4⟩ := bnd_ok e2
      exact .inr ⟨rfl, y, h5, e3, e4⟩
theorem lc_loop2 {f : Nat} {P : Hp → Prop} {φs : Ow} {Hs : Hp} (w : LcW K φ1 H1 L φ H h acc accT) (rs : RelS K φ H sl σ) (ok : SrOk K φs Hs J s) (gs : Ge φs Hs φ H) (hv : ∀ i ∈ idTg g, i ∈ vs) (hv1 : ∀ i ∈ idTg g1, i ∈ vs1) (run : lcIx s (lcT2 g tt d1 g1 tt1 te vs1 (wipS sl vs)) f 0 h = some (.ok r, h'')) (hb : (accT ++ r).length ≤ lim)
    (fin : ∀ φ' H' acc', LcW K φ1 H1 L φ' H' h'' acc' (accT ++ r) → P H') :
    ∃ W : Nat → Nat → Hp → Prop, (∃ m, W 0 m H) ∧ ∀ i m H, W i m H → (J.stop i H ∧ P H) ∨ (J.go i H ∧ ∃ Nx : Hp → Prop, (∀ H', Nx H' → ∃ m', m' < m ∧ W (i + 1) m' H') ∧ ∀ x H', J.yld i H x H' →
      tGo K g x (L2.wipe σ vs) H' fun σ2 H2 => L2.wipe σ2 vs = L2.wipe σ vs ∧ tT K mg E tt σ2 H2 fun b H3 => if b = true then tI K mg E d1 σ2 H3 fun J1 H4 => ∃ W1 : Nat → Nat → Hp → Prop, (∃ m, W1 0 m H4) ∧ ∀ j k H, W1 j k H →
        (J1.stop j H ∧ Nx H) ∨ (J1.go j H ∧ ∃ Nx1 : Hp → Prop, (∀ H', Nx1 H' → ∃ k', k' < k ∧ W1 (j + 1) k' H') ∧ ∀ x H', J1.yld j H x H' → tGo K g1 x (L2.wipe σ2 vs1) H' fun σ3 H5 => L2.wipe σ3 vs1 = L2.wipe σ2 vs1 ∧ tT K mg E tt1 σ3 H5 fun b H6 =>
          if b = true then tD K mg E te σ3 H6 fun y H7 => ∃ acc, H7 L = some (.lst acc) ∧ acc.length < sizeLine ∧ Nx1 (upd H7 L (.lst (acc ++ [y]))) else Nx1 H6)
      else Nx H3) := by
  refine ⟨fun i m H' => ∃ φ' h' acc' accT' r', LcW K φ1 H1 L φ' H' h' acc' accT' ∧ Ge φ H φ' H' ∧ lcIx s (lcT2 g tt d1 g1 tt1 te vs1 (wipS sl vs)) m i h' = some (.ok r', h'') ∧ accT' ++ r' = accT ++ r, ⟨f, φ, h, acc, accT, r, w, (Le.refl _ _).ge, run, rfl⟩, ?_⟩
  rintro i m H2 ⟨φ2, h2, acc2, accT2, r2, w2, ge2, run2, tot2⟩
  cases m with
  | zero => cases run2
  | succ m =>
    simp only [lcIx] at run2
    cases e : srAt s h2 with
    | none => rw [e] at run2; cases run2
    | some xs =>
      obtain ⟨o1, o2⟩ := ok φ2 H2 h2 xs (gs.trans ge2) w2.rh e i
      simp only [e] at run2
      cases e2 : xs[i]? with
      | none =>
        simp only [e2] at run2
        have hh : h2 = h'' := by injection run2 with z; exact (Prod.mk.inj z).2
        have hr : r2 = [] := by injection run2 with z; have := (Prod.mk.inj z).1; injection this with z; exact z.symm
        subst hh hr
        rw [List.append_nil] at tot2
        subst tot2
        exact .inl ⟨o1 (List.getElem?_eq_none_iff.mp e2), fin φ2 H2 acc2 w2⟩
      | some t =>
        obtain ⟨g1', g2⟩ := o2 t e2
        simp only [e2] at run2
        obtain ⟨ys, h5, run3, run4⟩ := bnd_ok run2
        obtain ⟨r5, h6, run5, run6⟩ := bnd_ok run4
        obtain ⟨q1, q2⟩ := ret_ok run6
        subst q1 q2
        obtain ⟨sl', e3, k, h4, e4, alt⟩ := lcT2_ok run3
        refine .inr ⟨g1', fun H' => ∃ φ' h' acc' accT' r', LcW K φ1 H1 L φ' H' h' acc' accT' ∧ Ge φ H φ' H' ∧ lcIx s (lcT2 g tt d1 g1 tt1 te vs1 (wipS sl vs)) m (i + 1) h' = some (.ok r', h'') ∧ accT' ++ r' = accT ++ r, fun H' w => ⟨m, Nat.lt_succ_self _, w⟩, fun x H3 y => ?_⟩
        obtain ⟨l3, rh3, rx⟩ := g2 x H3 y
        have w3 := w2.le l3 rh3
        have ge3 := ge2.trans l3.ge
        refine ⟨φ2, wipS sl vs, h2, t, sl', ⟨(rs.ge ge3).wipe vs, rh3⟩, rx, e3, fun σ2 a4 but => ⟨(wipe_but but hv).trans (wipe_wipe σ vs), φ2, sl', h2, a4, ?_⟩⟩
        rw [e4]
        intro φ4 H4 l4 rh4
        have w4 := w3.le l4 rh4
        have ge4 := ge3.trans l4.ge
        rcases alt with ⟨rfl, rfl, rfl⟩ | ⟨rfl, s1, h7, e5, e6⟩
        · simp only [wB, Bool.false_eq_true, if_false]
          exact ⟨φ4, _, acc2, accT2, r5, w4, ge4, run5, tot2⟩
        · simp only [wB, if_true]
          refine ⟨φ4, sl', h4, a4.le l4 rh4, ?_⟩
          rw [e5]
          intro φ5 H5 l5 rh5 J1 ok1
          have w5 := w4.le l5 rh5
          have ge5 := ge4.trans l5.ge
          obtain ⟨f1, hf1⟩ := lcS_ix (lcT g1 tt1 te (wipS sl' vs1)) s1
          refine lc_loop w5 (a4.s.le (l4.trans l5)) ok1 (Le.refl _ _).ge hv1 (by rw [hf1]; exact e6) ?_ fun φ6 H6 acc6 w6 ge6 => ⟨φ6, _, acc6, accT2 ++ ys, r5, w6, ge5.trans ge6, run5, by rw [← tot2, List.append_assoc]⟩
          rw [← tot2, List.length_append, List.length_append] at hb
          rw [List.length_append]
          omega
end
section
variable {X : Cx} {E : XK} {elt tg iter tg1 iter1 : Expr} {ifs ifs1 : List Expr} {scope : Scope} {own : List (Str × Nat)} {pos : Pos} {d d1 : DR} {g g1 : Tg} {tt tt1 : DB} {te : D} {vs1 : List Nat}
theorem lc_imp2 {K : PySem.W.Frag} {mg : Str → Option Value} {ow : Bool} {vs : List Nat} (hv : ∀ i ∈ idTg g, i ∈ vs) (hv1 : ∀ i ∈ idTg g1, i ∈ vs1) (σ : L2.St) (H : Hp) (Q : VK) (w : tD K mg E (dLc2 ow vs vs1 d g tt d1 g1 tt1 te) σ H Q) :
    tLc2 (tI K mg E d) (tGo K g) (tT K mg E tt) (tI K mg E d1) (tGo K g1) (tT K mg E tt1) (tD K mg E te) vs vs1 σ H Q := by
  obtain ⟨φ, sl, h, at_, fin⟩ := w
  refine ⟨φ, sl, h, at_, fin.bnd.imp fun φ1 H1 s ⟨h1, rh1, l1, f1⟩ J ok L hL => ?_⟩
  have w0 := LcW.start rh1 hL
  unfold nox at f1
  cases q : lcS (lcT2 g tt d1 g1 tt1 te vs1 (wipS sl vs)) s h1 with
  | none => simp only [bnd, q] at f1; exact f1.elim
  | some p =>
    obtain ⟨r, h''⟩ := p
    cases r with
    | exc c => simp only [bnd, q] at f1; exact f1.elim
    | ok r =>
      simp only [bnd, q] at f1
      obtain ⟨f, hf⟩ := lcS_ix (lcT2 g tt d1 g1 tt1 te vs1 (wipS sl vs)) s
      have hb : ([] ++ r).length ≤ lim := by
        unfold lstR at f1
        split at f1
        · assumption
        · exact f1.elim
      exact lc_loop2 w0 ((at_.s.le l1).ge w0.ge) ok w0.ge hv hv1 (by rw [hf]; exact q) hb fun φ' H' acc' w' => w'.fin f1
theorem pd_lc2 (ow : Bool) (own : List (Str × Nat)) (vs1 : List Nat) (hc : X.calm = true) (hN : X.N.Nodup) (hi : PID X E tg iter d) (ok : blkC X.N X.env.scope scope own = true)
    (hg : ∀ (s : Shared) (H : Hp) (C : Addr) (cl : List (Str × Addr)) (fp : List Addr), PGD (X.blk s H scope (compEnvC scope cl C X.env) fp) tg g)
    (ht : ∀ (s : Shared) (H : Hp) (C : Addr) (cl : List (Str × Addr)) (fp : List Addr), PTD (X.blk s H scope (compEnvC scope cl C X.env) fp) E ifs tt)
    (hi1 : ∀ (s : Shared) (H : Hp) (C : Addr) (cl : List (Str × Addr)) (fp : List Addr), PID (X.blk s H scope (compEnvC scope cl C X.env) fp) E tg1 iter1 d1)
    (hg1 : ∀ (s : Shared) (H : Hp) (C : Addr) (cl : List (Str × Addr)) (fp : List Addr), PGD (X.blk s H scope (compEnvC scope cl C X.env) fp) tg1 g1)
    (ht1 : ∀ (s : Shared) (H : Hp) (C : Addr) (cl : List (Str × Addr)) (fp : List Addr), PTD (X.blk s H scope (compEnvC scope cl C X.env) fp) E ifs1 tt1)
    (he : ∀ (s : Shared) (H : Hp) (C : Addr) (cl : List (Str × Addr)) (fp : List Addr), PD (X.blk s H scope (compEnvC scope cl C X.env) fp) E elt te)
    (hv : ∀ i ∈ idTg g, i ∈ own.map (·.2) := by decide) (hv1 : ∀ i ∈ idTg g1, i ∈ vs1 := by decide) (hv2 : ∀ i ∈ vs1, i ∈ own.map (·.2) := by decide) (hs : ∀ x, foldedSetIterable iter X.env x = pure x := by intro _; rfl) (hs1 : ∀ env x, foldedSetIterable iter1 env x = pure x := by intro _ _; rfl) :
    PD X E (.ListComp elt [⟨tg, iter, ifs, 0⟩, ⟨tg1, iter1, ifs1, 0⟩] scope pos) (dLc2 ow (own.map (·.2)) vs1 d g tt d1 g1 tt1 te) :=
  PE.imp (pe_lc2 hc hN hi (blkOk_by ok) hv2 hg ht hi1 hg1 ht1 he hs hs1) (lc_imp2 hv hv1)
theorem pds_setLc2 (ow : Bool) (own : List (Str × Nat)) (vs1 : List Nat) (i : Nat) {y : Str} {py spos : Pos} (hc : X.calm = true) (hN : X.N.Nodup) (hsw : swapsWith (.ListComp elt [⟨tg, iter, ifs, 0⟩, ⟨tg1, iter1, ifs1, 0⟩] scope pos) (some (.Name y py)) spos.line X.env = pure true)
    (hi : PID X E tg iter d) (ok : blkC X.N X.env.scope scope own = true)
    (hg : ∀ (s : Shared) (H : Hp) (C : Addr) (cl : List (Str × Addr)) (fp : List Addr), PGD (X.blk s H scope (compEnvC scope cl C X.env) fp) tg g)
    (ht : ∀ (s : Shared) (H : Hp) (C : Addr) (cl : List (Str × Addr)) (fp : List Addr), PTD (X.blk s H scope (compEnvC scope cl C X.env) fp) E ifs tt)
    (hi1 : ∀ (s : Shared) (H : Hp) (C : Addr) (cl : List (Str × Addr)) (fp : List Addr), PID (X.blk s H scope (compEnvC scope cl C X.env) fp) E tg1 iter1 d1)
    (hg1 : ∀ (s : Shared) (H : Hp) (C : Addr) (cl : List (Str × Addr)) (fp : List Addr), PGD (X.blk s H scope (compEnvC scope cl C X.env) fp) tg1 g1)
    (ht1 : ∀ (s : Shared) (H : Hp) (C : Addr) (cl : List (Str × Addr)) (fp : List Addr), PTD (X.blk s H scope (compEnvC scope cl C X.env) fp) E ifs1 tt1)
    (he : ∀ (s : Shared) (H : Hp) (C : Addr) (cl : List (Str × Addr)) (fp : List Addr), PD (X.blk s H scope (compEnvC scope cl C X.env) fp) E elt te)
    (hv : ∀ i ∈ idTg g, i ∈ own.map (·.2) := by decide) (hv1 : ∀ i ∈ idTg g1, i ∈ vs1 := by decide) (hv2 : ∀ i ∈ vs1, i ∈ own.map (·.2) := by decide) (hy : X.N[i]? = some y := by rfl) (hyl : X.env.scope.names.lookup y = some .local := by rfl) (hs : ∀ x, foldedSetIterable iter X.env x = pure x := by intro _; rfl) (hs1 : ∀ env x, foldedSetIterable iter1 env x = pure x := by intro _ _; rfl) :
    PDS X E (.Assign [.Name y py] (.ListComp elt [⟨tg, iter, ifs, 0⟩, ⟨tg1, iter1, ifs1, 0⟩] scope pos) spos) (dAsg (.nm i) (dLc2 ow (own.map (·.2)) vs1 d g tt d1 g1 tt1 te)) :=
  PS.imp (ps_setLc2 hc hN hy hyl hsw hi (blkOk_by ok) hv2 hg ht hi1 hg1 ht1 he hs hs1) fun De σ H ⟨φ, sl, h, at_, f⟩ => by
    show tLc2 _ _ _ _ _ _ _ _ _ σ H fun x H1 => gName i x σ H1 De.nx
    refine lc_imp2 (ow := ow) hv hv1 σ H _ (seqS at_ f fun φ1 H1 t v h1 l1 a1 r1 f1 => f1.nx ⟨a1.s.set r1 i, a1.h⟩)
end

/-! ### defs -/
mutual
/-- all its own objects are below n -/
def T.low (n : Nat) : T → Bool
  | .tup xs => T.lows n xs
  | .lst xs => T.lows n xs
  | .arg xs => T.lows n xs
  | .dk _ xs => T.lows n xs
  | .dt _ xs => T.lows n xs
  | .ref k => decide (k < n)
  | _ => true
def T.lows (n : Nat) : List T → Bool
  | [] => true
  | x :: xs => x.low n && T.lows n xs
end
def O.low (n : Nat) : O → Bool
  | .lst xs => T.lows n xs
  | .dk _ _ xs => T.lows n xs
  | .dt _ _ xs => T.lows n xs
/-- what is told of a value that a def gives back: an own list, an own dict of the def as it stands -/
def frT (n : Nat) (h : Hv) : T → T
  | .ref k => if k < n then .ref k else match h[k]? with
    | some (.lst xs) => .lst xs
    | some (.dk false ks vs) => .dk ks vs
    | some (.dt false ks vs) => .dt ks vs
    | _ => .ref k
  | t => t
/-- how a def ends: kp: what it gives back stays owned -/
def endD (kp : Bool) (n : Nat) (t : T) (h : Hv) : Option (R T × Hv) :=
  if kp then some (.ok t, h) else if (frT n h t).low n && (h.take n).all (O.low n) then some (.ok (frT n h t), h.take n) else none
def dDef (kp : Bool) (np nl : Nat) (b : DS) : List T → M T := fun ts h => if ts.length = np then match b (ts.map some ++ List.replicate (nl - ts.length) none) h with
  | some (.nx, _, h') => endD kp h.length .non h'
  | some (.rt t, _, h') => endD kp h.length t h'
  | some (.exc c, _, h') => some (.exc c, h')
  | _ => none
  else none
section
variable {K : PySem.W.Frag} {mg : Str → Option Value} {E : XK} {φ φ' : Ow} {H H' : Hp} {h h' : Hv}
mutual
theorem Rp.lower {F : Hp} {n : Nat} (hn : ∀ k a, k < n → φ'.own[k]? = some a → φ.own[k]? = some a) : ∀ (t : T) (v : V), t.low n = true → Rp K φ' F t v → Rp K φ F t v
  | .non, v, _, h => h
  | .bl _, v, _, h => h
  | .int _, v, _, h => h
  | .str _, v, _, h => h
  | .tup xs, v, c, ⟨a, vs, e1, s, r⟩ => ⟨a, vs, e1, s, RpL.lower hn xs vs c r⟩
  | .lst xs, v, c, ⟨a, vs, e1, s, r⟩ => ⟨a, vs, e1, s, RpL.lower hn xs vs c r⟩
  | .arg xs, v, c, ⟨a, vs, e1, s, r⟩ => ⟨a, vs, e1, s, RpL.lower hn xs vs c r⟩
  | .dk ks xs, v, c, ⟨a, vs, e1, s, k, r⟩ => ⟨a, vs, e1, s, k, RpL.lower hn xs _ c r⟩
  | .dt ks xs, v, c, ⟨a, vs, e1, s, k, r⟩ => ⟨a, vs, e1, s, k, RpL.lower hn xs _ c r⟩
  | .ref k, v, c, ⟨a, e1, e2⟩ => ⟨a, hn k a (of_decide_eq_true c) e1, e2⟩
theorem RpL.lower {F : Hp} {n : Nat} (hn : ∀ k a, k < n → φ'.own[k]? = some a → φ.own[k]? = some a) : ∀ (t : List T) (v : List V), T.lows n t = true → RpL K φ' F t v → RpL K φ F t v
  | [], v, _, h => h
  | x :: xs, v, c, ⟨w, r, e1, h1, h2⟩ => by
    obtain ⟨c1, c2⟩ := Bool.and_eq_true_iff.mp (show (x.low n && T.lows n xs) = true from c)
    exact ⟨w, r, e1, Rp.lower hn x w c1 h1, RpL.lower hn xs r c2 h2⟩
end
theorem RpO.lower {F : Hp} {n : Nat} (hn : ∀ k a, k < n → φ'.own[k]? = some a → φ.own[k]? = some a) {o : O} {ho : HO} (c : o.low n = true) (r : RpO K φ' F o ho) : RpO K φ F o ho := by
  cases o with
  | lst xs => obtain ⟨vs, e, r⟩ := r; exact ⟨vs, e, RpL.lower hn _ _ c r⟩
  | dk lk ks xs => obtain ⟨vs, e, k, r⟩ := r; exact ⟨vs, e, k, RpL.lower hn _ _ c r⟩
  | dt lk ks xs => obtain ⟨vs, e, k, r⟩ := r; exact ⟨vs, e, k, RpL.lower hn _ _ c r⟩
/-- the end of a def's body is the end of the call -/
theorem endD_ok {kp : Bool} {t : T} {v : V} {Q : VK} (rh0 : RelH K φ H h) (f : Fin K mg (wV K Q) E φ H (endD kp h.length t h')) (l : Le φ H φ' H') (rh : RelH K φ' H' h') (r : Rp K φ' (Fz φ' H') t v) : Q v H' := by
  unfold endD at f
  split at f
  · exact f φ' H' l rh v r
  · split at f
    · rename_i hl
      obtain ⟨hl1, hl2⟩ := Bool.and_eq_true_iff.mp hl
      obtain ⟨ψ, p⟩ := l.pre
      have hn : ∀ k a, k < h.length → φ'.own[k]? = some a → φ.own[k]? = some a := fun k a hk e => by
        rw [p, List.getElem?_append_left (by rw [rh0.len]; exact hk)] at e
        exact e
      have hn' : ∀ k a, φ.own[k]? = some a → φ'.own[k]? = some a := fun k a e => l.at e
      have sub : ∀ a, φ.has a → φ'.has a := fun a m => by
        rcases m with m | m
        · exact .inl (by rw [p]; exact List.mem_append_left _ m)
        · exact .inr (by rw [l.hid]; exact m)
      have ex : Ex (Fz φ' H') (Fz φ H') := fun a o e => by
        obtain ⟨h1, h2⟩ := Fz.of e
        exact Fz.mk (fun m => h1 (sub a m)) h2 (Fz.nt e)
      have l2 : Le φ H φ H' := ⟨⟨[], by simp⟩, rfl, l.ex.trans ex, l.fz, l.hk⟩
      have nd := rh.nd
      rw [p] at nd
      have rh2 : RelH K φ H' (h'.take h.length) := by
        refine ⟨rh0.nd, rh0.dis, fun a m => rh.hd a (by rw [l.hid]; exact m), ?_, fun k a o e1 e2 => ?_, rh.tab⟩
        · have := rh.len
          rw [p, List.length_append] at this
          rw [List.length_take, rh0.len]
          have := rh0.len
          omega
        · rw [List.getElem?_take] at e2
          split at e2
          · rename_i hk
            obtain ⟨ho, q1, q2⟩ := rh.ob k a o (hn' k a e1) e2
            have c : o.low h.length = true := List.all_eq_true.mp hl2 o (List.mem_of_getElem? (i := k) (by rw [List.getElem?_take, if_pos hk]; exact e2))
            exact ⟨ho, q1, (RpO.lower hn c q2).mono (fun _ _ z => z) ex⟩
          · cases e2
      refine f φ H' l2 rh2 v ?_
      have fr : Rp K φ' (Fz φ' H') t v → ∃ F, Rp K φ' F (frT h.length h' t) v ∧ Ex F (Fz φ H') := fun r => by
        cases t with
        | ref k =>
          simp only [frT]
          split
          · exact ⟨_, r, ex⟩
          · rename_i hk
            obtain ⟨a, e1, rfl⟩ := id r
            have na : ¬ φ.has a := fun m => by
              rcases m with m | m
              · rw [p, List.getElem?_append_right (by rw [rh0.len]; omega)] at e1
                have := List.mem_of_getElem? e1
                exact (List.nodup_append.mp nd).2.2 a m a this rfl
              · exact rh.dis a (List.mem_of_getElem? e1) (by rw [l.hid]; exact m)
            split
            · rename_i xs hx
              obtain ⟨b, ho, q1, q2, vs, rfl, q3⟩ := rh.at hx
              rw [e1] at q1; cases q1
              exact ⟨Fz φ H', ⟨a, vs, rfl, Fz.mk na q2, RpL.mono (fun _ _ z => z) ex _ _ q3⟩, Ex.refl _⟩
            · rename_i ks xs hx
              obtain ⟨b, ho, q1, q2, kvs, q4, q5, q3⟩ := rh.at hx
              rw [e1] at q1; cases q1
              have q4 : ho = .dK kvs := q4
              subst q4
              exact ⟨Fz φ H', ⟨a, kvs, rfl, Fz.mk na q2, q5, RpL.mono (fun _ _ z => z) ex _ _ q3⟩, Ex.refl _⟩
            · rename_i ks xs hx
              obtain ⟨b, ho, q1, q2, kvs, q4, q5, q3⟩ := rh.at hx
              rw [e1] at q1; cases q1
              have q4 : ho = .dT kvs := q4
              subst q4
              exact ⟨Fz φ H', ⟨a, kvs, rfl, Fz.mk na q2, q5, RpL.mono (fun _ _ z => z) ex _ _ q3⟩, Ex.refl _⟩
            · exact ⟨_, r, ex⟩
        | _ => exact ⟨_, r, ex⟩
      obtain ⟨F, r1, e1⟩ := fr r
      exact Rp.mono (fun _ _ z => z) e1 _ _ (Rp.lower hn _ _ hl1 r1)
    · exact f.elim
/-- a def's reading -/
theorem def_read {N : List Str} {np : Nat} {kp : Bool} {b : DS} {vs : List V} {Q : VK} (sp : spD K mg np (dDef kp np N.length b) vs H Q E) : tS K mg E b { nx := fun _ H' => Q .non H', rt := Q } (L2.start N vs) H := by
  obtain ⟨hl, φ, h, ts, rh, rs, f⟩ := sp
  have hts : ts.length = np := rs.length.trans hl
  simp only [dDef, hts, if_true] at f
  have rel : RelS K φ H (ts.map some ++ List.replicate (N.length - np) none) (L2.start N vs) := by
    have hlen := rs.length
    refine ⟨by simp [L2.start, hlen, hl], fun i t e => ?_⟩
    by_cases hi : i < ts.length
    · rw [List.getElem?_append_left (by simpa using hi), List.getElem?_map] at e
      obtain ⟨u, e1, e2⟩ := Option.map_eq_some_iff.mp e
      cases e2
      obtain ⟨v, e3, e4⟩ := rs.get' e1
      refine ⟨v, ?_, e4⟩
      unfold L2.start
      rw [List.getElem?_append_left (by simpa [← hlen] using hi), List.getElem?_map, e3]
      rfl
    · rw [List.getElem?_append_right (by simpa using hi)] at e
      rw [List.getElem?_replicate] at e
      split at e <;> cases e
  refine ⟨φ, _, h, ⟨rel, rh⟩, ?_⟩
  cases q : b (ts.map some ++ List.replicate (N.length - np) none) h with
  | none => rw [q] at f; exact f.elim
  | some p =>
    obtain ⟨fl, sl', h'⟩ := p
    rw [q] at f
    cases fl with
    | nx => exact fun φ' H' σ' l a => endD_ok (v := .non) rh f l a.h rfl
    | rt t => exact fun φ' H' v l rh' r => endD_ok rh f l rh' r
    | exc c => exact f
    | bk => exact f.elim
    | ct => exact f.elim
end
end Z

/-! Lay8: enumerate, zip. -/
namespace Z
open PySem L2 PyProof.Rows RZ

section
variable {prog : Program} {w : World} {A : Around} {E : Value → Shared → Prop} {s : Shared}
/-- enumerate(v) begins, v by what its iterator is -/
theorem enumNew {v : Value} {o : Obj} {B : Heap → Prop} (b : Begins v o B) : Meets (Builtin.«enumerate.__new__» ⟨[.type "enumerate", v], []⟩) (fun _ R s => B s.heap ∧
    R (.ok (.ret (.ref (s.heap.push o).objs.size))) { s with heap := (s.heap.push o).push { cls := .type "enumerate", data := .fields #[.none, .bool false, .ref s.heap.objs.size, rawInt 0, .none, .none] } }) :=
  .of_wp fun prog w A R s h => by
    obtain ⟨hp, g, d, tk, os⟩ := s; obtain ⟨hb, h⟩ := h
    have hsub := sub_enumerate
    have it : ∀ {A' : Around} {E : Value → Shared → Prop} {Q : Value → Shared → Prop}, Q (.ref hp.objs.size) ⟨hp.push o, g, d, tk, os⟩ → wpAny (model prog w) A' (pyIter v) Q E ⟨hp, g, d, tk, os⟩ := fun q => b.iter prog w _ _ ⟨hp, g, d, tk, os⟩ _ hb q
    wp_walk using it
    refine wpAny_stack_any fun st => wpAny_pure ?_
    split
    · rename_i c _ _ _ _ _
      cases (c == Value.type "enumerate") <;> (wp_walk using it; exact ⟨_, rfl, h⟩)
    · wp_walk using it
      exact ⟨_, rfl, h⟩
theorem enumCall {v : Value} {o : Obj} {B : Heap → Prop} {Q : Value → Shared → Prop} (b : Begins v o B) (hb : B s.heap)
    (h : ∀ h', IsEnum h' (s.heap.objs.size + 1) s.heap.objs.size 0 .none → h'.get? s.heap.objs.size = some o → (∀ a u, s.heap.get? a = some u → h'.get? a = some u) → Q (.ref (s.heap.objs.size + 1)) { s with heap := h' }) :
    wpAny (model prog w) A (call (.type "enumerate") [v]) Q E s := by
  refine callType_new F.called_enumerate (by decide) (F.typeCall_enumerate_1 _) (F.newCall_enumerate_1 _) (fun obj => F.args_object_init_2 obj _) F.entry_enumerate_new (enumNew b) ⟨hb, ?_⟩
  have hz : (s.heap.push o).objs.size = s.heap.objs.size + 1 := Heap.size_push ..
  show _ ∧ _
  rw [hz]
  have he : ((s.heap.push o).push { cls := .type "enumerate", data := .fields #[.none, .bool false, .ref s.heap.objs.size, rawInt 0, .none, .none] }).get? (s.heap.objs.size + 1) = some { cls := .type "enumerate", data := .fields #[.none, .bool false, .ref s.heap.objs.size, rawInt 0, .none, .none] } := by
    rw [← hz]
    exact Heap.get?_push_size _ rfl
  exact ⟨⟨_, he, rfl⟩, h _ he (Heap.get?_push_of_some _ (Heap.get?_push_size _ b.free)) fun a u x => Heap.get?_push_of_some _ (Heap.get?_push_of_some _ x)⟩
end
/-- the tuple at a, each item in a new pair -/
def IteT (K : PySem.W.Frag) (a : Addr) (n : Nat) : It :=
  ⟨fun i H => ∃ (xs : List V) (x : V), SqT K H a xs ∧ xs[i]? = some x ∧ xs.length = n, fun i H v H' => ∃ T x, v = .ref T ∧ H T = none ∧ H' = upd H T (.tup [.int (i : Nat), x]) ∧ ∀ xs, SqT K H a xs → xs[i]? = some x, fun i H => ∃ xs : List V, SqT K H a xs ∧ xs.length = n ∧ n ≤ i⟩
theorem turn_enumT {P : Program} {w : World} {K : PySem.W.Frag} {elts : List Expr} {kk : Nat} {tpos : Pos} (a e it : Addr) (n : Nat) :
    Turn P w K (.Tuple elts kk tpos) (IteT K a n) [e, it] e (fun i h => (∃ old, IsEnum h e it ((i : Nat) : Int) old) ∧ h.IsTupleIter it a i ∧ e ≠ it ∧ a ≠ it ∧ e ≠ a ∧ i ≤ n) where
  mem := by simp
  obj := fun i h st b hb => by
    obtain ⟨⟨old, he⟩, ⟨o, ho, hc, hd⟩, _⟩ := st
    rcases (show b = e ∨ b = it by simpa using hb) with rfl | rfl
    · exact ⟨_, he, fun v q => nomatch q⟩
    · exact ⟨o, ho, fun v q => by rw [hd] at q; cases q⟩
  keep := fun i h h' st k => let ⟨⟨old, he⟩, hi, r⟩ := st; ⟨⟨old, k e (by simp) _ he⟩, hi.at fun o q => k it (by simp) o q, r⟩
  item := by
    intro X hP hw hK hc i pins s σ H E I hf st hg
    subst hP hw hK
    obtain ⟨⟨old, he⟩, hit, hne, hai, hea, hin⟩ := st
    obtain ⟨xs, x, hq, hx, hn⟩ := hg
    obtain ⟨its, rv, p, hz⟩ := I.tuple hq
    obtain ⟨u, hu, ru⟩ := rv.get hx
    have el : e < s.heap.objs.size := Heap.lt_size he
    have il : it < s.heap.objs.size := by obtain ⟨_, q, _⟩ := hit; exact Heap.lt_size q
    have hlt : i < its.toArray.size := by simpa using (List.getElem?_eq_some_iff.mp hu).1
    have dr := Draws.tuple (prog := X.prog) (w := X.w) (A := X.A.in1) (I.ok.hd hc) it a hai its.toArray
    refine wpAny_pyNext_enum_itemD dr he ⟨hit, p⟩ hlt hne (by simp [hne, hea]) fun y h' tk hy ho hit' hT hsz hk => ?_
    have hyu : y = u := by
      have : its[i]? = some y := by simpa using hy
      rw [hu] at this
      exact (Option.some.inj this).symm
    subst hyu
    refine ⟨_, rfl, wpAny_letOwnedTupleGo_enum (s := { s with heap := h', toks := tk + 1 }) ho fun h'' he' sb => ?_⟩
    have hT2 : h''.get? s.heap.objs.size = some { cls := .type "tuple", data := .seq #[.int i tk, y] } := (sb.2 _ (Nat.ne_of_gt el)).trans hT
    have new : ObjOk X.prog X.w (upd H s.heap.objs.size (.tup [.int (i : Nat), x])) h'' s.heap.objs.size (.tup [.int (i : Nat), x]) :=
      ⟨by show 2 ≤ sizeLine; decide, [.int i tk, y], .cons ⟨_, rfl⟩ (.cons ru .nil), ⟨_, hT2, rfl, _, rfl⟩⟩
    have I1 : Inv X pins σ (upd H s.heap.objs.size (.tup [.int (i : Nat), x])) { s with heap := h'', toks := tk + 1 } :=
      I.turnedNew (ch := [e, it]) (fun b ob hb q => (sb.2 b (fun z => hb (by simp [z]))).trans (hk b ob (fun z => hb (by simp [z])) (fun z => hb (by simp [z])) q)) hf (Nat.le_refl _) new
    refine ⟨.ref s.heap.objs.size, _, I1, rfl, ⟨_, x, rfl, I.hok.fresh (Nat.le_refl _), rfl, fun ys hy => by rw [I.tuple_inj hy hq]; exact hx⟩, ⟨⟨y, ?_⟩, hit'.1.at fun o q => (sb.2 it (Ne.symm hne)).trans q, hne, hai, hea, by have := (List.getElem?_eq_some_iff.mp hx).1; omega⟩, fun b hb => ?_⟩
    · rw [show ((i + 1 : Nat) : Int) = (i : Int) + 1 by omega]; exact he'
    · have hb' : b < s.heap.objs.size := by
        rcases (show b = e ∨ b = it by simpa using hb) with rfl | rfl
        · exact el
        · exact il
      rw [upd_ne (Nat.ne_of_lt hb')]
      exact (hf b hb).1
  done := by
    intro X hP hw hK hc i pins s σ H E I hf st hg
    subst hP hw hK
    obtain ⟨⟨old, he⟩, hit, hne, hai, hea, hin⟩ := st
    obtain ⟨xs, hq, hn, hx⟩ := hg
    obtain ⟨its, rv, p, hz⟩ := I.tuple hq
    obtain ⟨f0, f1, f2, f3, f4, f5⟩ := hf it (by simp)
    have e : i = its.toArray.size := by have := rv.length; simp; omega
    subst e
    exact wpAny_pyNext_enum_endD (Draws.tuple (prog := X.prog) (w := X.w) (A := X.A.in1) (I.ok.hd hc) it a hai its.toArray) he ⟨hit, p⟩ fun h' eb => ⟨rfl, I.turned (t' := s.toks) (fun b o hb q => eb b o hb q) f0 f1 f3 f4 f5⟩
  self := fun A i s Q E st h => let ⟨⟨_, he⟩, _⟩ := st; wpAny_pyIter_enum he h

def iEnA (K : PySem.W.Frag) (ta : TA) : TI := fun σ H R => ta σ H fun vs H1 => ∃ a xs, vs = [.ref a] ∧ ((SqL K H1 a xs ∧ R (Ite K a) H1) ∨ (SqT K H1 a xs ∧ R (IteT K a xs.length) H1))
theorem pi_enA {X : Cx} {e : Expr} {ta : TA} {p pos tpos : Pos} {elts : List Expr} {kk : Nat} (hg : Gl X "enumerate") (hm : X.mg "enumerate" = none) (ha : PA X [e] ta) (hs : starEach [e] X.env = [(false, eval e X.env)] := by rfl) :
    PI X (.Tuple elts kk tpos) (.Call (.Name "enumerate" p) [e] [] pos) (iEnA X.K ta) := by
  refine ⟨fun pins s σ H R I h => ?_⟩
  refine Call_ (ld_blt I hg hm boot_enumerate (callWith_type1 (thn (ha.run pos pins s σ H _ I h) fun us s1 ⟨vs, H1, I1, r1, a, xs, ex, q1⟩ => ?_) hs rfl))
  subst ex
  obtain ⟨u, rfl, ru⟩ := vals1 r1
  cases ru
  have key : ∀ {o : Obj} {B : Heap → Prop} {J : It} {tn : Nat → Heap → Prop}, Begins (.ref a) o B → B s1.heap → Turn X.prog X.w X.K (.Tuple elts kk tpos) J [s1.heap.objs.size + 1, s1.heap.objs.size] (s1.heap.objs.size + 1) tn →
      (∀ h', IsEnum h' (s1.heap.objs.size + 1) s1.heap.objs.size 0 .none → h'.get? s1.heap.objs.size = some o → tn 0 h') → R J H1 → wpAny (model X.prog X.w) X.A (call (.type "enumerate") [.ref a]) (fun v s' => wpAny (model X.prog X.w) X.A (pyIter v) (PIE X pins σ (.Tuple elts kk tpos) R) X.xe s') X.xe s1 := by
    intro o B J tn b hb T st q
    refine enumCall b hb fun h' he ho hk => wpAny_pyIter_enum he ?_
    refine ⟨s1.heap.objs.size + 1, [s1.heap.objs.size + 1, s1.heap.objs.size], tn, J, H1, rfl, I1.kept (t' := s1.toks) hk, T, st h' he ho, fun c hcm => ?_, q⟩
    have hle : s1.heap.objs.size ≤ c := by
      rcases (show c = s1.heap.objs.size + 1 ∨ c = s1.heap.objs.size by simpa using hcm) with z | z
      · rw [z]; exact Nat.le_add_right _ _
      · rw [z]; exact Nat.le_refl _
    exact I1.fpOk hle (I1.hok.fresh hle)
  rcases q1 with ⟨hq, q⟩ | ⟨hq, q⟩
  · obtain ⟨its, rv, p', hz⟩ := I1.list hq
    exact key (begins_list a its.toArray) p'.isList (turn_enum a _ _) (fun h' he ho => ⟨⟨.none, he⟩, ⟨_, ho, rfl, rfl⟩, Nat.succ_ne_self _⟩) q
  · obtain ⟨its, rv, p', hz⟩ := I1.tuple hq
    have la : a < s1.heap.objs.size := by obtain ⟨_, q, _⟩ := p'; exact Heap.lt_size q
    exact key (begins_tuple a its.toArray) p' (turn_enumT a _ _ xs.length) (fun h' he ho => ⟨⟨.none, he⟩, ⟨_, ho, rfl, rfl⟩, Nat.succ_ne_self _, Nat.ne_of_lt la, fun z => absurd la (by rw [← z]; exact Nat.not_lt.mpr (Nat.le_add_right _ _)), Nat.zero_le _⟩) q

/-! ### as sources -/
theorem enumT_at (xs : List T) : ∀ (k i : Nat), (enumT k xs)[i]? = (xs[i]?).map fun x => .tup [.int ((k + i : Nat) : Int), x] := by
  induction xs with
  | nil => intro k i; simp [enumT]
  | cons x xs ih =>
    intro k i
    cases i with
    | zero => simp [enumT]
    | succ i =>
      simp only [enumT, List.getElem?_cons_succ]
      rw [ih]
      congr 2
      funext x
      rw [show k + 1 + i = k + (i + 1) by omega]
theorem enumT_len (xs : List T) : ∀ k, (enumT k xs).length = xs.length := by
  induction xs with
  | nil => intro k; rfl
  | cons x xs ih => intro k; simp [enumT, ih]
section
variable {K : PySem.W.Frag} {φ φ' : Ow} {H H' : Hp} {h h' : Hv} {a b : Addr} {xs ys : List T} {vs ws : List V} {n : Nat}
/-- a new pair -/
theorem newPair (rh : RelH K φ H h) {p : Addr} {us : List V} {ts : List T} (hp : H p = none) (r : RpL K φ (Fz φ H) ts us) : Le φ H φ (upd H p (.tup us)) ∧ RelH K φ (upd H p (.tup us)) h ∧ Rp K φ (Fz φ (upd H p (.tup us))) (.tup ts) (.ref p) :=
  ⟨Le.new hp (rh.free hp), rh.new hp, p, us, rfl, Fz.mk (rh.free hp) upd_same, r.le (Le.new hp (rh.free hp))⟩
theorem srEnum (hl : ∀ φ' H', Ge φ H φ' H' → SqL K H' a vs) (r : RpL K φ (Fz φ H) xs vs) : SrOk K φ H (Ite K a) (.fix (enumT 0 xs)) := by
  intro φ' H' h' zs g rh e i
  cases e
  refine ⟨fun hi => ⟨vs, hl _ _ g, by rw [enumT_len, r.length] at hi; exact hi⟩, fun t ht => ?_⟩
  rw [enumT_at] at ht
  obtain ⟨x, hx, rfl⟩ := Option.map_eq_some_iff.mp ht
  obtain ⟨v, hv, rv⟩ := r.get' hx
  refine ⟨⟨vs, v, hl _ _ g, hv⟩, fun y H'' ⟨p, x', e1, e2, e3, e4⟩ => ?_⟩
  have := e4 vs (hl _ _ g)
  rw [hv] at this
  cases this
  subst e1 e3
  exact newPair rh e2 ⟨_, _, rfl, by simp [Rp], v, [], rfl, rv.ge g, rfl⟩
theorem srEnumT (hl : ∀ φ' H', Ge φ H φ' H' → SqT K H' a vs) (r : RpL K φ (Fz φ H) xs vs) : SrOk K φ H (IteT K a vs.length) (.fix (enumT 0 xs)) := by
  intro φ' H' h' zs g rh e i
  cases e
  refine ⟨fun hi => ⟨vs, hl _ _ g, rfl, by rw [enumT_len, r.length] at hi; exact hi⟩, fun t ht => ?_⟩
  rw [enumT_at] at ht
  obtain ⟨x, hx, rfl⟩ := Option.map_eq_some_iff.mp ht
  obtain ⟨v, hv, rv⟩ := r.get' hx
  refine ⟨⟨vs, v, hl _ _ g, hv, rfl⟩, fun y H'' ⟨p, x', e1, e2, e3, e4⟩ => ?_⟩
  have := e4 vs (hl _ _ g)
  rw [hv] at this
  cases this
  subst e1 e3
  exact newPair rh e2 ⟨_, _, rfl, by simp [Rp], v, [], rfl, rv.ge g, rfl⟩
theorem srLiveE (ha : φ.own[n]? = some a) : SrOk K φ H (Ite K a) (.liveE n) := by
  intro φ' H' h' zs g rh e i
  simp only [srAt] at e
  split at e
  · rename_i xs hx
    cases e
    obtain ⟨b, ho, h1, h2, vs, rfl, r⟩ := rh.at hx
    have := g.at ha
    rw [h1] at this; cases this
    refine ⟨fun hi => ⟨vs, SqL.of h2, by rw [enumT_len, r.length] at hi; exact hi⟩, fun t ht => ?_⟩
    rw [enumT_at] at ht
    obtain ⟨x, hx, rfl⟩ := Option.map_eq_some_iff.mp ht
    obtain ⟨v, hv, rv⟩ := r.get' hx
    refine ⟨⟨vs, v, SqL.of h2, hv⟩, fun y H'' ⟨p, x', e1, e2, e3, e4⟩ => ?_⟩
    have := e4 vs (SqL.of h2)
    rw [hv] at this
    cases this
    subst e1 e3
    exact newPair rh e2 ⟨_, _, rfl, by simp [Rp], v, [], rfl, rv, rfl⟩
  · cases e
def zipT : List T → List T → List T
  | x :: xs, y :: ys => .tup [x, y] :: zipT xs ys
  | _, _ => []
theorem zipT_at : ∀ (xs ys : List T) (i : Nat) (t : T), (zipT xs ys)[i]? = some t → ∃ x y, xs[i]? = some x ∧ ys[i]? = some y ∧ t = .tup [x, y]
  | [], ys, i, t, e => by simp [zipT] at e
  | x :: xs, [], i, t, e => by simp [zipT] at e
  | x :: xs, y :: ys, 0, t, e => by simp [zipT] at e; exact ⟨x, y, rfl, rfl, e.symm⟩
  | x :: xs, y :: ys, i + 1, t, e => by
    simp [zipT] at e
    obtain ⟨x', y', h1, h2, h3⟩ := zipT_at xs ys i t e
    exact ⟨x', y', by simpa using h1, by simpa using h2, h3⟩
theorem zipT_len : ∀ (xs ys : List T), (zipT xs ys).length = min xs.length ys.length
  | [], ys => by simp [zipT]
  | x :: xs, [] => by simp [zipT]
  | x :: xs, y :: ys => by simp [zipT, zipT_len xs ys]
theorem srZip (hl : ∀ φ' H', Ge φ H φ' H' → SqL K H' a vs) (r : RpL K φ (Fz φ H) xs vs) (hl2 : ∀ φ' H', Ge φ H φ' H' → SqL K H' b ws) (r2 : RpL K φ (Fz φ H) ys ws) : SrOk K φ H (Itz K a b) (.fix (zipT xs ys)) := by
  intro φ' H' h' zs g rh e i
  cases e
  refine ⟨fun hi => ⟨vs, ws, hl _ _ g, hl2 _ _ g, by rw [zipT_len, r.length, r2.length] at hi; omega⟩, fun t ht => ?_⟩
  obtain ⟨x, y, hx, hy, rfl⟩ := zipT_at _ _ _ _ ht
  obtain ⟨v, hv, rv⟩ := r.get' hx
  obtain ⟨w, hw, rw'⟩ := r2.get' hy
  refine ⟨⟨vs, ws, v, w, hl _ _ g, hl2 _ _ g, hv, hw⟩, fun z H'' ⟨p, x', y', e1, e2, e3, e4, e5⟩ => ?_⟩
  have q1 := e4 vs (hl _ _ g)
  have q2 := e5 ws (hl2 _ _ g)
  rw [hv] at q1
  rw [hw] at q2
  cases q1
  cases q2
  subst e1 e3
  exact newPair rh e2 ⟨_, _, rfl, rv.ge g, w, [], rfl, rw'.ge g, rfl⟩
theorem srZipT (hl : ∀ φ' H', Ge φ H φ' H' → SqT K H' a vs) (r : RpL K φ (Fz φ H) xs vs) (hl2 : ∀ φ' H', Ge φ H φ' H' → SqT K H' b ws) (r2 : RpL K φ (Fz φ H) ys ws) : SrOk K φ H (ItzT K a b) (.fix (zipT xs ys)) := by
  intro φ' H' h' zs g rh e i
  cases e
  refine ⟨fun hi => ⟨vs, ws, hl _ _ g, hl2 _ _ g, by rw [zipT_len, r.length, r2.length] at hi; omega⟩, fun t ht => ?_⟩
  obtain ⟨x, y, hx, hy, rfl⟩ := zipT_at _ _ _ _ ht
  obtain ⟨v, hv, rv⟩ := r.get' hx
  obtain ⟨w, hw, rw'⟩ := r2.get' hy
  refine ⟨⟨vs, ws, v, w, hl _ _ g, hl2 _ _ g, hv, hw⟩, fun z H'' ⟨p, x', y', e1, e2, e3, e4, e5⟩ => ?_⟩
  have q1 := e4 vs (hl _ _ g)
  have q2 := e5 ws (hl2 _ _ g)
  rw [hv] at q1
  rw [hw] at q2
  cases q1
  cases q2
  subst e1 e3
  exact newPair rh e2 ⟨_, _, rfl, rv.ge g, w, [], rfl, rw'.ge g, rfl⟩
end
def dEnum (da : DA) : DR := fun sl => bnd (da sl) fun ts => match ts with
  | [.tup xs] => ret (.fix (enumT 0 xs))
  | [.lst xs] => ret (.fix (enumT 0 xs))
  | [.arg xs] => ret (.fix (enumT 0 xs))
  | [.ref n] => fun h => match h[n]? with
    | some (.lst _) => some (.ok (.liveE n), h)
    | _ => none
  | _ => bot
/-- the items of a list that stays -/
def fzQ : T → Option (List T)
  | .lst xs => some xs
  | .arg xs => some xs
  | _ => none
def dZip (da : DA) : DR := fun sl => bnd (da sl) fun ts => match ts with
  | [.tup xs, .tup ys] => ret (.fix (zipT xs ys))
  | [x, y] => fun h => match fzQ x, fzQ y with
    | some xs, some ys => some (.ok (.fix (zipT xs ys)), h)
    | _, _ => none
  | _ => bot
section
variable {X : Cx} {E : XK} {e a b : Expr} {da : DA} {p pos tpos : Pos} {elts : List Expr} {kk : Nat}
theorem fzQ_rp {K : PySem.W.Frag} {φ : Ow} {F : Hp} {t : T} {v : V} {xs : List T} (r : Rp K φ F t v) (e : fzQ t = some xs) : ∃ a vs, v = .ref a ∧ SqL K F a vs ∧ RpL K φ F xs vs := by
  cases t with
  | lst ys =>
    cases e
    obtain ⟨a, vs, h1, h2, h3⟩ := r
    exact ⟨a, vs, h1, SqL.of h2, h3⟩
  | arg ys =>
    cases e
    obtain ⟨a, vs, h1, h2, h3⟩ := r
    exact ⟨a, vs, h1, h2, h3⟩
  | _ => cases e
theorem pid_enum (hg : Gl X "enumerate") (hm : X.mg "enumerate" = none) (ha : PDA X E [e] da) (hs : starEach [e] X.env = [(false, eval e X.env)] := by rfl) : PID X E (.Tuple elts kk tpos) (.Call (.Name "enumerate" p) [e] [] pos) (dEnum da) :=
  PI.imp (pi_enA hg hm ha hs) fun σ H R ⟨φ, sl, h, at_, fin⟩ => seqA at_ fin fun φ1 H1 ts vs h1 l1 a1 r1 f1 => by
    split at f1
    · obtain ⟨v, rfl, r⟩ := r1.one
      obtain ⟨a, us, rfl, q1, q2⟩ := r
      exact ⟨a, us, rfl, .inr ⟨SqT.of (Fz.of q1).2, f1.now a1.h _ (srEnumT (fun _ _ g => Fz.ex.t (g.ex.t (SqT.of q1))) q2)⟩⟩
    · obtain ⟨v, rfl, r⟩ := r1.one
      obtain ⟨a, us, rfl, q1, q2⟩ := r
      exact ⟨a, us, rfl, .inl ⟨SqL.of (Fz.of q1).2, f1.now a1.h _ (srEnum (fun _ _ g => Fz.ex.l (g.ex.l (SqL.of q1))) q2)⟩⟩
    · obtain ⟨v, rfl, r⟩ := r1.one
      obtain ⟨a, us, rfl, q1, q2⟩ := r
      exact ⟨a, us, rfl, .inl ⟨Fz.ex.l q1, f1.now a1.h _ (srEnum (fun _ _ g => Fz.ex.l (g.ex.l q1)) q2)⟩⟩
    · rename_i n
      obtain ⟨v, rfl, r⟩ := r1.one
      obtain ⟨b, q1, rfl⟩ := r
      split at f1
      · rename_i xs hx
        obtain ⟨c, ho, g1, g2, us, rfl, g3⟩ := a1.h.at hx
        rw [g1] at q1; cases q1
        exact ⟨b, us, rfl, .inl ⟨SqL.of g2, f1 φ1 H1 (Le.refl _ _) a1.h _ (srLiveE g1)⟩⟩
      · exact f1.elim
    · exact f1.elim
theorem pid_zip (hg : Gl X "zip") (hm : X.mg "zip" = none) (ha : PDA X E [a, b] da) (hs : starEach [a, b] X.env = (false, eval a X.env) :: starEach [b] X.env := by rfl) (hpl : (backTo pos (starEach [b] X.env)).any (·.1) = false := by rfl) : PID X E (.Tuple elts kk tpos) (.Call (.Name "zip" p) [a, b] [] pos) (dZip da) :=
  PI.imp (pi_zipA hg hm ha hs hpl) fun σ H R ⟨φ, sl, h, at_, fin⟩ => seqA at_ fin fun φ1 H1 ts vs h1 l1 a1 r1 f1 => by
    split at f1
    · obtain ⟨v, w, rfl, r, r'⟩ := r1.two
      obtain ⟨a, us, rfl, q1, q2⟩ := r
      obtain ⟨b, ws, rfl, q3, q4⟩ := r'
      exact ⟨a, b, us, ws, rfl, .inr ⟨SqT.of (Fz.of q1).2, SqT.of (Fz.of q3).2, f1.now a1.h _ (srZipT (fun _ _ g => Fz.ex.t (g.ex.t (SqT.of q1))) q2 (fun _ _ g => Fz.ex.t (g.ex.t (SqT.of q3))) q4)⟩⟩
    · split at f1
      · rename_i xs ys e1 e2
        obtain ⟨v, w, rfl, r, r'⟩ := r1.two
        obtain ⟨a, us, rfl, q1, q2⟩ := fzQ_rp r e1
        obtain ⟨b, ws, rfl, q3, q4⟩ := fzQ_rp r' e2
        exact ⟨a, b, us, ws, rfl, .inl ⟨Fz.ex.l q1, Fz.ex.l q3, f1.now a1.h _ (srZip (fun _ _ g => Fz.ex.l (g.ex.l q1)) q2 (fun _ _ g => Fz.ex.l (g.ex.l q3)) q4)⟩⟩
      · exact f1.elim
    · exact f1.elim
end
end Z

/-! Lay9: small things for the printed terms. -/
namespace Z
open PySem L2
theorem hu64 {k : Nat} {A : Around} (r : Room k A) : A.units + 64 < cLine := by have := r.un; omega
theorem hu65 {k : Nat} {A : Around} (r : Room k A) : A.units + 65 < cLine := by have := r.un; omega
theorem hu66 {k : Nat} {A : Around} (r : Room k A) : A.units + 70 < cLine := by have := r.un; omega
theorem bt_len : bootBuiltins "len" = some (.builtin "len") := by decide +kernel
theorem bt_all : bootBuiltins "all" = some (.builtin "all") := by decide +kernel
theorem bt_any : bootBuiltins "any" = some (.builtin "any") := by decide +kernel
theorem bt_sum : bootBuiltins "sum" = some (.builtin "sum") := by decide +kernel
theorem bt_min : bootBuiltins "min" = some (.builtin "min") := by decide +kernel
theorem bt_max : bootBuiltins "max" = some (.builtin "max") := by decide +kernel
theorem bt_abs : bootBuiltins "abs" = some (.builtin "abs") := by decide +kernel
theorem bt_sorted : bootBuiltins "sorted" = some (.builtin "sorted") := by decide +kernel
theorem bt_int : bootBuiltins "int" = some (.type "int") := by decide +kernel
theorem bt_tuple : bootBuiltins "tuple" = some (.type "tuple") := by decide +kernel
theorem bt_list : bootBuiltins "list" = some (.type "list") := by decide +kernel
theorem pass0 {X : Cx} {E : XK} : Passes CX0 X E := fun _ _ _ _ _ _ _ h => h.elim
/-- += of ints -/
def fAddI : T → T → M T
  | .int i, .int j => ret (.int (i + j))
  | _, _ => bot
def fSubI : T → T → M T
  | .int i, .int j => ret (.int (i - j))
  | _, _ => bot
theorem o2_addI {X : Cx} {E : XK} : Op2 X E fAddI (rI0 fun i j => .int (i + j)) := by
  intro φ H h tx ty x y Q rh rx ry f
  cases tx with
  | int i =>
    cases ty with
    | int j =>
      rw [show x = _ from rx, show y = _ from ry]
      exact ⟨i, j, rfl, rfl, f.val rh rfl⟩
    | _ => exact f.elim
  | _ => exact f.elim
theorem o2_subI {X : Cx} {E : XK} : Op2 X E fSubI (rI0 fun i j => .int (i - j)) := o2_sub
end Z

/-! Lay10: sorted, of data that are alike: tuples of any lengths too. -/
namespace Z
open PySem L2 PyProof.Rows PySem.W PySem.SeqAt
section
variable {prog : Program} {w : World} {A : Around} {E : Value → Shared → Prop} {s : Shared}
theorem tupLt {Q : Value → Shared → Prop} {l b : Addr} {items items2 : Array Value} {e r : Nat → Bool} (hl : s.heap.IsTuple l items) (hb : s.heap.IsTuple b items2)
    (he : ∀ j (h1 : j < items.size) (h2 : j < items2.size), EqAt A.in1 s items[j] items2[j] (e j)) (hr : ∀ j (h1 : j < items.size) (h2 : j < items2.size), e j = false → RcLt A.in1 s items[j] items2[j] (r j))
    (h : Q (.bool (firstLt e r (decide (items.size < items2.size)) (List.range (min items.size items2.size)))) s) : wpAny (model prog w) A (call (.builtin "tuple.__lt__") [.ref l, .ref b]) Q E s := by
  obtain ⟨⟨_, dd, _, sl⟩, ho, hc, n, hd⟩ := id hl
  obtain ⟨⟨_, dd2, _, sl2⟩, ho2, hc2, n2, hd2⟩ := id hb
  simp only at hc hd hc2 hd2
  subst hc hd hc2 hd2
  exact call_meets F.slot_tuple_lt ⟨_, ho, rfl⟩ F.entry_tuple_lt (F.args_tuple_lt_2 _ _) (tuple_ltAt l b items items2 n n2 dd dd2 sl sl2 e r) ⟨ho, ho2, he, hr, h⟩
/-- one key against another, tuples too -/
theorem oneLtAny {f : Bool} {da db : PyData} {a b : Value} {as bs : List Addr} {Q : Bool → Shared → Prop} (ra : Reads s.heap a da as) (rb : Reads s.heap b db bs) (h : alike da db = true) (hn : da ≠ .none) (hu : A.units + min da.depth db.depth < cLine) (hq : Q (dataLt da db) s) :
    wpAny (model prog w) A (oneLt' f a b) Q E s := by
  by_cases ht : ∃ xs, da = .tuple xs
  · obtain ⟨xs, rfl⟩ := ht
    cases f with
    | false => exact oneLt_alike (fun z => nomatch z) ra rb h hn hu hq
    | true =>
      cases db with
      | tuple ys =>
        have hal : alikeAll xs ys = true := by simpa [alike] using h
        cases ra with
        | @tuple l o vs n _ _ h1 h2 h3 h4 =>
          cases rb with
          | @tuple l' o' vs' n' _ _ k1 k2 k3 k4 =>
            have n1 : vs.size = xs.length := by simpa using ReadsAll.length _ _ _ h4
            have n2 : vs'.size = ys.length := by simpa using ReadsAll.length _ _ _ k4
            rw [dataLt_tuple, ← firstLt_toks xs ys hal, ← n1, ← n2] at hq
            rw [oneLt'_eq]
            simp only [if_true]
            refine wpAny_bind (wpAny_cRoomFor (room_here hu) ?_)
            refine wpAny_bind (wpAny_callSpecialIfBound?_slot (T := "tuple") ⟨_, h1, h2⟩ F.slot_tuple_lt (tupLt (e := pairEq xs ys) (r := fun j => dataLt (xs.getD j .none) (ys.getD j .none)) ⟨_, h1, h2, _, h3⟩ ⟨_, k1, k2, _, k3⟩ (fun j j1 j2 => ?_) (fun j j1 j2 hj => ?_) ?_))
            · have := eqAt_alikeAll xs ys A.in1 s vs.toList vs'.toList _ _ h4 k4 hal (room_in hu) j (by simpa using j1) (by simpa using j2)
              simpa using this
            · have := rcLt_alikeAll xs ys A.in1 s vs.toList vs'.toList _ _ h4 k4 hal (room_in hu) j (by simpa using j1) (by simpa using j2) hj
              simpa using this
            · exact wpAny_truthy_bool hq
      | _ => exact absurd h (by simp [alike])
  · exact oneLt_alike (fun _ xs z => ht ⟨xs, z⟩) ra rb h hn hu hq
theorem mapM_each {α β : Type} {M : Model} {f : α → Sem β} {g : α → β} : ∀ (l : List α) {Q : List β → Shared → Prop}, (∀ v ∈ l, ∀ (Q' : β → Shared → Prop), Q' (g v) s → wpAny M A (f v) Q' E s) → Q (l.map g) s → wpAny M A (l.mapM f) Q E s
  | [], _, _, h => by rw [List.mapM_nil]; exact wpAny_pure h
  | x :: l, Q, hf, h => by
    rw [List.mapM_cons]
    exact wpAny_bind (hf x (.head _) _ (wpAny_bind (mapM_each l (Q := fun bs s' => wpAny M A (pure (g x :: bs)) Q E s') (fun v hv => hf v (.tail _ hv)) (wpAny_pure h))))
theorem eachR {α β : Type} {R : α → β → Prop} : ∀ {as : List α} {bs : List β}, EachIs R as bs → ∀ b, b ∈ bs → ∃ a, a ∈ as ∧ R a b
  | _, _, .nil, b, h => absurd h (by simp)
  | _, _, .cons r t, b, h => by
    rcases List.mem_cons.mp h with rfl | h
    · exact ⟨_, List.mem_cons_self .., r⟩
    · obtain ⟨a, m, r⟩ := eachR t b h
      exact ⟨a, List.mem_cons_of_mem _ m, r⟩
open Classical in
/-- the first item of a tuple that stands in a heap -/
noncomputable def headOf (h : Heap) (v : Value) : Option Value := if q : ∃ xs, ∃ a, v = .ref a ∧ h.IsTuple a xs then q.choose[0]? else none
theorem headOf_eq {h : Heap} {a : Addr} {xs : Array Value} (t : h.IsTuple a xs) : headOf h (.ref a) = xs[0]? := by
  have q : ∃ xs, ∃ b, (Value.ref a) = .ref b ∧ h.IsTuple b xs := ⟨xs, a, rfl, t⟩
  unfold headOf
  rw [dif_pos q]
  obtain ⟨b, e, t2⟩ := q.choose_spec
  cases e
  obtain ⟨o, h1, _, n, h2⟩ := t
  obtain ⟨o', k1, _, n', k2⟩ := t2
  rw [h1] at k1; cases k1
  rw [h2] at k2
  injection k2 with k2 _
  rw [← k2]
/-- data that can be sorted: none of them None; all of them tuples, or none -/
def Srt (ds : List PyData) : Prop := (∀ d, d ∈ ds → ∃ xs, d = .tuple xs) ∨ ∀ d, d ∈ ds → d ≠ .none ∧ ∀ xs, d ≠ .tuple xs
theorem sortsAny {vs : List Value} {ds : List PyData} (e : EachIs (fun v d => ∃ as, Reads s.heap v d as) vs ds) (hal : AllAlike ds) (hk : Srt ds) (hu : ∀ d, d ∈ ds → A.units + d.depth < cLine) : SortsAt prog w A s (dataKind s.heap ds) vs := by
  rcases hk with ht | hn
  · by_cases hall : ∀ d, d ∈ ds → ∃ x r, d = .tuple (x :: r)
    · exact SortsAt.data e hal (.inl hall) hu
    · have room : ∀ {d d' : PyData}, d ∈ ds → A.units + min d.depth d'.depth < cLine := fun {d d'} hd => Nat.lt_of_le_of_lt (Nat.add_le_add_left (Nat.min_le_left _ _) _) (hu d hd)
      have each : ∀ v ∈ vs, ∃ a xs, v = .ref a ∧ s.heap.IsTuple a xs := fun v hv => by
        obtain ⟨d, hd, as, r⟩ := e.left v hv
        obtain ⟨xs, rfl⟩ := ht d hd
        cases r with
        | tuple h1 h2 h3 h4 => exact ⟨_, _, rfl, _, h1, h2, _, h3⟩
      have first : ∀ v ∈ vs, ∀ (M : Model) (A' : Around) (E' : Value → Shared → Prop) (Q' : Option Value → Shared → Prop), Q' (headOf s.heap v) s → wpAny M A' (firstOfTuple' v) Q' E' s := fun v hv M A' E' Q' hq => by
        obtain ⟨a, xs, rfl, t⟩ := each v hv
        rw [headOf_eq t] at hq
        obtain ⟨o, h1, h2, n, h3⟩ := t
        rw [kas_first_eq]
        refine wpAny_bind (Looks.here (show Looks M s.heap (typeOf (.ref a)) o.cls from (Looks.ld h1).andThen .now) ?_)
        rw [h2, if_neg (by first | decide | simp)]
        exact wpAny_bind (listItems_at h1 h3 (wpAny_pure hq))
      have cls : ∀ v ∈ vs, ∀ (M : Model) (A' : Around) (E' : Value → Shared → Prop) (Q' : Value → Shared → Prop), Q' (.type "tuple") s → wpAny M A' (typeOf v) Q' E' s := fun v hv M A' E' Q' hq => by
        obtain ⟨a, xs, rfl, o, h1, h2, n, h3⟩ := each v hv
        refine Looks.here (show Looks M s.heap (typeOf (.ref a)) o.cls from (Looks.ld h1).andThen .now) ?_
        rw [h2]; exact hq
      have nall : ((vs.map (headOf s.heap)).toArray.all fun x => x.isSome) = false := by
        cases hb : ((vs.map (headOf s.heap)).toArray.all fun x => x.isSome) with
        | false => rfl
        | true =>
          refine absurd (fun d hd => ?_) hall
          obtain ⟨v, hv, as, r⟩ := eachR e d hd
          obtain ⟨xs, rfl⟩ := ht d hd
          cases r with
          | @tuple a o its n _ _ h1 h2 h3 h4 =>
            have hh : (headOf s.heap (.ref a)).isSome = true := by
              rw [List.all_toArray, List.all_map, List.all_eq_true] at hb
              exact hb _ hv
            rw [headOf_eq ⟨o, h1, h2, n, h3⟩] at hh
            cases xs with
            | cons x r => exact ⟨x, r, rfl⟩
            | nil =>
              have := ReadsAll.length _ _ _ h4
              simp at this
              subst this
              cases hh
      have lt : ∀ (kd : SortKind), (∃ f, ∀ x y, keyLt' kd x y = oneLt' f x y) → H.LtAt prog w A s (dataKind s.heap ds) kd := fun kd ⟨f, hf⟩ => by
        intro E x y a b Q ha hb hq
        obtain ⟨d, as, hd, ra, rfl⟩ := dataKind_inv ha
        obtain ⟨d', as', hd', rb, rfl⟩ := dataKind_inv hb
        rw [hf]
        exact oneLtAny ra rb (hal d hd d' hd') (by obtain ⟨xs, rfl⟩ := ht d hd; simp) (room hd) hq
      refine ⟨fun v hv => ?_, ?_⟩
      · obtain ⟨d, hd, as, r⟩ := e.left v hv
        exact ⟨_, dataKind_some hal hd r⟩
      · by_cases hf : ((vs.map (headOf s.heap)).toArray[0]?.bind id).isSome = true
        · refine ⟨general', lt general' ⟨false, fun _ _ => rfl⟩, fun h2 E Q hq => ?_⟩
          rw [keyKind'_eq, List.mapM_toArray, map_eq_pure_bind]
          refine wpAny_bind (wpAny_bind (mapM_each (g := headOf s.heap) _ (fun v hv Q' => first v hv _ _ _ Q') (wpAny_pure ?_)))
          rw [if_neg (by rw [nall]; exact Bool.false_ne_true), if_pos hf]
          exact wpAny_pure hq
        · refine ⟨oneType', lt oneType' ⟨true, fun _ _ => rfl⟩, fun h2 E Q hq => ?_⟩
          rw [keyKind'_eq, List.mapM_toArray, map_eq_pure_bind]
          refine wpAny_bind (wpAny_bind (mapM_each (g := headOf s.heap) _ (fun v hv Q' => first v hv _ _ _ Q') (wpAny_pure ?_)))
          rw [if_neg (by rw [nall]; exact Bool.false_ne_true), if_neg hf]
          rw [oneTypeOnly'_eq, List.mapM_toArray, map_eq_pure_bind]
          refine wpAny_bind (wpAny_bind (wpAny_bind (mapM_each (g := fun _ => Value.type "tuple") _ (fun v hv Q' => cls v hv _ _ _ Q') (wpAny_pure ?_))))
          have h0 : (List.map (fun _ => Value.type "tuple") vs).toArray[0]? = some (Value.type "tuple") := by
            match vs, h2 with
            | v :: r, _ => simp
          have hall2 : ((List.map (fun _ => Value.type "tuple") vs).toArray.all fun x => x == Value.type "tuple") = true := by
            simp only [List.all_toArray, List.all_map, List.all_eq_true]
            intro _ _
            rfl
          rw [h0]
          simp only [hall2, if_true]
          exact wpAny_pure (wpAny_pure hq)
  · exact SortsAt.data e hal (.inr hn) hu

theorem colTup {l : Addr} {vs : List Value} {Q : List Value → Shared → Prop} (hl : s.heap.IsTuple l vs.toArray) (hsz : vs.length ≤ sizeLine)
    (h : Q vs { s with heap := (s.heap.push (seqObj "list" #[] 0)).update s.heap.objs.size (Obj.mapSeq (· ++ vs.toArray)) }) : wpAny (model prog w) A (collect (.ref l)) Q E s := by
  obtain ⟨o, ho, hc, n, hd⟩ := id hl
  unfold collect
  refine wpAny_bind (wpAny_runValue (codeAny_builtin entry_proto_collect' ?_))
  show wpAny _ _ (newList [] >>= fun x => again (.builtin "list.__iadd__" ⟨[x, .ref l], []⟩)) _ _ s
  refine wpAny_bind (wpAny_newList (wpAny_pure ⟨Code.quiet_builtin _ (by decide +kernel), codeAny_builtin entry_list_iadd' ?_⟩))
  show wpAny _ _ (Builtin.List.listExtendWith (.ref s.heap.objs.size) (.ref l) (.ref s.heap.objs.size)) _ _ { s with heap := s.heap.push (seqObj "list" #[] 0) }
  unfold Builtin.List.listExtendWith
  have new := Heap.get?_push_size s.heap (o := seqObj "list" #[] 0) rfl
  have old : (s.heap.push (seqObj "list" #[] 0)).get? l = some o := Heap.get?_push_of_some _ ho
  refine wpAny_bind (wpAny_typeOf (T := "tuple") ⟨o, old, hc⟩ ?_)
  rw [if_pos (by first | rfl | decide | simp)]
  refine wpAny_bind (listItems_at old hd (wpAny_bind (listItems_at (xs := #[]) (n := 0) new rfl ?_)))
  rw [if_neg (by simp)]
  refine wpAny_bind (listUpdate_at (xs := #[]) (n := 0) new rfl (wpAny_pure ?_) (Nat.zero_le _) (by show (#[] ++ vs.toArray).size ≤ sizeLine + 1; simp only [Array.size_append, List.size_toArray, List.length_nil]; omega))
  refine wpAny_bind (m := load _) (wpAny_load (get?_update_seq new _) ?_)
  show wpAny _ _ (pure ((#[] : Array Value) ++ vs.toArray).toList) Q E _
  rw [show ((#[] : Array Value) ++ vs.toArray).toList = vs by simp]
  exact wpAny_pure h
end
/-- the values sorted by what they read as -/
def sortV (vs : List V) (ds : List PyData) : List V := ((vs.zip ds).mergeSort (dataLe false (·.2))).map (·.1)
section
variable {X : Cx} {pins : List (Addr × Obj)} {σ : L2.St} {H : Hp} {s s1 : Shared} {Q : VK}
/-- what is asked of the data -/
structure SOk (ds : List PyData) : Prop where
  al : AllAlike ds
  sr : Srt ds
  dp : ∀ d, d ∈ ds → d.depth ≤ 64
/-- x is walked: its items as a list -/
def Col (K : PySem.W.Frag) (x : V) (H : Hp) (P : List V → Prop) : Prop := (∃ a vs, x = .ref a ∧ (SqL K H a vs ∨ SqT K H a vs) ∧ P vs) ∨ (∃ a kvs, x = .ref a ∧ H a = some (.dK kvs) ∧ P (kvs.map fun kv => kV kv.1)) ∨
  ∃ a kvs, x = .ref a ∧ H a = some (.dT kvs) ∧ ∀ bs, IsKeys H kvs bs → P (bs.map V.ref)
def rSortA (K : PySem.W.Frag) : List V → Hp → VK → Prop := fun xs H Q => ∃ x ds, xs = [x] ∧ SOk ds ∧ Col K x H fun vs => DpAll K H vs ds ∧ ∀ p, H p = none → Q (.ref p) (upd H p (.lst (sortV vs ds)))
theorem dpLen {K : PySem.W.Frag} {H : Hp} : ∀ {vs : List V} {ds : List PyData}, DpAll K H vs ds → vs.length = ds.length
  | _, _, .nil => rfl
  | _, _, .cons _ t => by simp [dpLen t]
theorem zipEach : ∀ {vs : List V} {us : List Value} {ds : List PyData}, Vals vs us → vs.length = ds.length → EachIs (fun u (b : V × PyData) => RelV b.1 u) us (vs.zip ds)
  | _, _, [], .nil, _ => .nil
  | _, _, d :: ds, .cons r t, h => .cons r (zipEach t (by simpa using h))
  | _, _, [], .cons _ _, h => by simp at h
  | _, _, _ :: _, .nil, h => by simp at h
theorem zipReads {h : Heap} : ∀ {vs : List V} {us : List Value} {ds : List PyData}, EachIs (fun v d => ∃ as, Reads h v d as) us ds → vs.length = ds.length → EachIs (fun u (b : V × PyData) => ∃ as, Reads h u b.2 as) us (vs.zip ds)
  | [], _, _, .nil, _ => .nil
  | v :: vs, _, _, .cons r t, h => .cons r (zipReads t (by simpa using h))
  | _ :: _, _, _, .nil, h => by simp at h
  | [], _, _, .cons _ _, h => by simp at h
theorem zipSnd : ∀ {vs : List V} {ds : List PyData}, vs.length = ds.length → (vs.zip ds).map (·.2) = ds
  | [], [], _ => rfl
  | v :: vs, d :: ds, h => by simp [zipSnd (vs := vs) (ds := ds) (by simpa using h)]
  | [], _ :: _, h => by simp at h
  | _ :: _, [], h => by simp at h
theorem eachVals : ∀ {us : List Value} {bs : List (V × PyData)}, EachIs (fun u b => RelV b.1 u) us bs → Vals (bs.map (·.1)) us
  | _, _, .nil => .nil
  | _, _, .cons r t => .cons r (eachVals t)
/-- behind the collecting -/
theorem sortRest {B : Around} {us : List Value} {vs : List V} {ds : List PyData} {P : Value → Shared → Prop} {E : Value → Shared → Prop} (I : Inv X pins σ H s1) (rv : Vals vs us) (dp : DpAll X.K H vs ds) (ok : SOk ds) (hz : us.length ≤ sizeLine) (hu : B.in1.units + 64 < cLine)
    (q : ∀ p s2, H p = none → Inv X pins σ (upd H p (.lst (sortV vs ds))) s2 → P (.ref p) s2) :
    wpAny (model X.prog X.w) B (do let l ← newList us; let _ ← holding [l] (call (.builtin "list.sort") [l] []); PySem.ret l) (fun fin s' => ∃ r, fin = PySem.Fin.done (.ret r) ∧ P r s') E s1 := by
  refine wpAny_bind (wpAny_newList ?_ hz)
  generalize hp : s1.heap.objs.size = p
  have ho : (s1.heap.push (seqObj "list" us.toArray 0)).get? p = some (seqObj "list" us.toArray 0) := by rw [← hp]; exact Heap.get?_push_size _ rfl
  have keep : ∀ b o, s1.heap.get? b = some o → (sortingHeap (s1.heap.push (seqObj "list" us.toArray 0)) p us).get? b = some o := fun b o e => sortingHeap_old (by rw [← hp]; exact Nat.ne_of_lt (Heap.lt_size e)) (Heap.get?_push_of_some _ e)
  obtain ⟨as, rd⟩ := Dp.readsAll I ds vs us dp rv
  have rd' : ReadsAll s1.heap us (ds.map id) as := by rw [List.map_id]; exact rd
  have each : EachIs (fun v d => ∃ as, Reads (sortingHeap (s1.heap.push (seqObj "list" us.toArray 0)) p us) v d as) us ds := by
    have := (readsAll_each id rd').mono (R' := fun v d => ∃ as, Reads (sortingHeap (s1.heap.push (seqObj "list" us.toArray 0)) p us) v d as) fun v b ⟨as, r⟩ => ⟨as, PyProof.Rows.Reads.keeps keep r⟩
    simpa using this
  have hl := dpLen dp
  have srt := sortsAny (prog := X.prog) (w := X.w) (A := B.in1) (s := { s1 with heap := sortingHeap (s1.heap.push (seqObj "list" us.toArray 0)) p us }) each ok.al ok.sr (fun d hd => by have := ok.dp d hd; omega)
  refine wpAny_bind (wpAny_holding (wpAny_call_entry slot_list_sort ⟨_, ho, rfl⟩ entry_list_sort (list_sort_vals (s := { s1 with heap := s1.heap.push (seqObj "list" us.toArray 0) }) ho srt hz ⟨_, rfl, ?_⟩) (args_list_sort _)))
  have out := sortVals_data (enc := fun b : V × PyData => b.2) (h' := sortingHeap (s1.heap.push (seqObj "list" us.toArray 0)) p us) false (zipEach rv hl) (zipReads each hl) (by rw [zipSnd hl]; exact ok.al)
  rw [zipSnd hl] at out
  have hv := eachVals out
  obtain ⟨e', he'⟩ := PyProof.Rows.sortedHeap_at (vs := us) (out := (sortVals (dataKind (sortingHeap (s1.heap.push (seqObj "list" us.toArray 0)) p us) ds) false us us).toArray) ho
  have hfree : H p = none := I.hok.fresh (Nat.le_of_eq hp)
  refine wpAny_pure ⟨_, rfl, q p _ hfree (I.laid (t' := s1.toks) (fun b u e => ?_) (Nat.le_of_eq hp) (show ObjOk X.prog X.w _ _ _ (.lst (sortV vs ds)) from ⟨?_, _, e', hv, he'⟩))⟩
  · rw [PyProof.Rows.sortedHeap_old (by rw [← hp]; exact Nat.ne_of_lt (Heap.lt_size e)) (by rw [size_push']; exact Nat.lt_succ_of_lt (Heap.lt_size e))]
    exact Heap.get?_push_of_some _ e
  · show (((vs.zip ds).mergeSort (dataLe false (·.2))).map (·.1)).length ≤ sizeLine
    rw [List.length_map, (List.mergeSort_perm _ _).length_eq, List.length_zip, ← hl, Nat.min_self, rv.length]
    exact hz

theorem valsAt : ∀ {xs : List V} {us : List Value}, xs.length = us.length → (∀ (j : Nat) x w, xs[j]? = some x → us[j]? = some w → RelV x w) → Vals xs us
  | [], [], _, _ => .nil
  | x :: xs, u :: us, hl, h => .cons (h 0 x u rfl rfl) (valsAt (by simpa using hl) fun j a b e1 e2 => h (j + 1) a b (by simpa using e1) (by simpa using e2))
  | [], _ :: _, hl, _ => by simp at hl
  | _ :: _, [], hl, _ => by simp at hl
/-- the items of what is walked -/
theorem colRun {A : Around} (hh : A.handled = none) {x : V} {u : Value} {P : List V → Prop} {R : List Value → Shared → Prop} {E : Value → Shared → Prop} (I : Inv X pins σ H s) (rx : RelV x u) (c : Col X.K x H P) (h : ∀ vs us s', P vs → Vals vs us → us.length ≤ sizeLine → Inv X pins σ H s' → R us s') :
    wpAny (model X.prog X.w) A (collect u) R E s := by
  rcases c with ⟨a, vs, rfl, hq | hq, p⟩ | ⟨a, kvs, rfl, hd, p⟩ | ⟨a, kvs, rfl, hd, p⟩
  · cases rx
    obtain ⟨its, rv, pl, hz⟩ := I.list hq
    have hl := rv.length
    exact collect_list pl.isList (h vs its _ p rv (by omega) (I.kept (t' := s.toks) fun b o e => by
      have ne : b ≠ s.heap.objs.size := Nat.ne_of_lt (Heap.lt_size e)
      rw [Heap.get?_update_ne _ _ _ _ ne]
      exact Heap.get?_push_of_some _ e)) (by omega)
  · cases rx
    obtain ⟨its, rv, pl, hz⟩ := I.tuple hq
    have hl := rv.length
    exact colTup pl (by omega) (h vs its _ p rv (by omega) (I.kept (t' := s.toks) fun b o e => by
      have ne : b ≠ s.heap.objs.size := Nat.ne_of_lt (Heap.lt_size e)
      rw [Heap.get?_update_ne _ _ _ _ ne]
      exact Heap.get?_push_of_some _ e))
  · obtain rfl : u = Value.ref a := rx
    obtain ⟨z, lo, vs, rel, dd⟩ := dk_of I.hok hd
    obtain ⟨ep, hat⟩ := dd.dictAt
    have hl : kvs.length = vs.length := rel.length
    refine PySem.W.kdu_collect (PySem.W.kdl_dict (knd := mixKind X.prog X.w) (kvs := vs) (ep := ep) lo) hh hat (by omega) fun h' tk acc hk hacc => ?_
    have hal : acc.toList.length = vs.length := by rw [Array.length_toList]; exact hacc.1
    refine h _ _ _ p (valsAt (by rw [List.length_map, hal, hl]) fun j x w h1 h2 => ?_) (by omega) (I.kept hk)
    obtain ⟨k, y, e1, e2⟩ := hacc.2 j w (by rw [← Array.getElem?_toList]; exact h2)
    have e3 : (kvs.map (·.1))[j]? = some k := by rw [rel.keys, List.getElem?_map, e1]; rfl
    have e4 : (kvs.map fun kv => kV kv.1)[j]? = some (kV k) := by
      rw [show (kvs.map fun kv => kV kv.1) = (kvs.map (·.1)).map kV by rw [List.map_map]; rfl, List.getElem?_map, e3]; rfl
    rw [e4] at h1
    cases h1
    exact relV_key e2
  · obtain rfl : u = Value.ref a := rx
    obtain ⟨z, hs, ks, pr, o, es, ep, ho, hx, hdt, he, hn⟩ := dt_of I.hok hd
    have l1 : es.size = ks.length := size_of_entries he
    have l2 : kvs.length = ks.length := Paired.length pr
    refine PySem.W.kdu_collect (kdl_raw hs hx hdt) hh ho (by omega) fun h' tk acc hk hacc => ?_
    have hal : acc.toList.length = es.size := by rw [Array.length_toList]; exact hacc.1
    refine h _ _ _ (p _ (isKeys_of pr)) (valsAt (by rw [List.length_map, List.length_map, hal, l1]) fun j x w h1 h2 => ?_) (by omega) (I.kept hk)
    obtain ⟨en, hen, hv⟩ := hacc.2 j w (by rw [← Array.getElem?_toList]; exact h2)
    have qe := entry_at he j
    rw [hen] at qe
    rw [List.getElem?_map, List.getElem?_map] at h1
    cases hb : ks[j]? with
    | none => rw [hb] at h1; cases h1
    | some b =>
      rw [hb] at h1 qe
      cases h1
      have e2 : en = entryOfKey (tupleKind (mixKind X.prog X.w)) b := Option.some.inj qe
      rw [hv, e2]
      rfl
theorem cr_sortedA (hc : X.calm = true) (hu : X.A.units + 70 < cLine) : CallR X (.builtin "sorted") (rSortA X.K) := by
  intro pins s σ H xs us Q I r h
  obtain ⟨x, ds, rfl, ok, c⟩ := h
  obtain ⟨u, rfl, rx⟩ := vals1 r
  refine Calls.call_function_entry kind_sorted plain_sorted entry_sorted (args_sorted1 _) ?_
  unfold Builtin.«sorted»
  refine wpAny_bind (m := checkCount "sorted" 1 1 _) (wpAny_pure ?_)
  refine wpAny_bind (colRun (A := X.A.in1) (show X.A.in1.handled = none from I.ok.hd hc) I rx c fun vs us s' ⟨dp, q⟩ rv hz I' => ?_)
  refine sortRest I' rv dp ok hz (show X.A.units + 1 + 1 + 64 < cLine by omega) fun p s2 hp I2 => ⟨.ref p, _, I2, rfl, q p hp⟩
end

/-! ### on trees -/
def leT (a b : T) : Bool := dataLe false T.py a b
def sortT (ts : List T) : List T := ts.mergeSort leT
def isTup : PyData → Bool
  | .tuple _ => true
  | _ => false
def noTup : PyData → Bool
  | .tuple _ => false
  | .none => false
  | _ => true
def sOkQ (ts : List T) : Bool := (ts.all fun a => SeqAt.shaped a.py && ts.all fun b => PySem.W.alike a.py b.py) && ((ts.all fun a => isTup a.py) || ts.all fun a => noTup a.py)
/-- the items of what is walked, dicts too -/
def itQ (h : Hv) (x : T) : Option (List T) := match dr h x with
  | .lst xs => some xs
  | .arg xs => some xs
  | .tup xs => some xs
  | .dk ks _ => some (ks.map keyT)
  | .dt ks _ => some (ks.map fun k => .tup (k.map keyT))
  | .ref n => match h[n]? with
    | some (.dk false ks _) => some (ks.map keyT)
    | some (.dt false ks _) => some (ks.map fun k => .tup (k.map keyT))
    | _ => none
  | _ => none
def fSorted (ow : Bool) : List T → M T
  | [x] => fun h => match itQ h x with
    | some ts => if sOkQ ts then (if ow then own (.lst (sortT ts)) h else some (.ok (.lst (sortT ts)), h)) else none
    | none => none
  | _ => bot
section
variable {X : Cx} {E : XK} {K : PySem.W.Frag} {φ : Ow} {H : Hp} {h : Hv} {t : T} {v : V} {ts : List T}
theorem pys_map : ∀ ts : List T, T.pys ts = ts.map T.py
  | [] => rfl
  | t :: ts => by rw [T.pys, pys_map ts]; rfl
theorem sOkQ_ok (e : sOkQ ts = true) : SOk (T.pys ts) ∧ PyData.canLayAll0 (T.pys ts) = true := by
  unfold sOkQ at e
  obtain ⟨e1, e2⟩ := Bool.and_eq_true_iff.mp e
  rw [pys_map]
  have each : ∀ a ∈ ts, SeqAt.shaped a.py = true ∧ ∀ b ∈ ts, PySem.W.alike a.py b.py = true := fun a ha => by
    obtain ⟨h1, h2⟩ := Bool.and_eq_true_iff.mp (List.all_eq_true.mp e1 a ha)
    exact ⟨h1, fun b hb => List.all_eq_true.mp h2 b hb⟩
  refine ⟨⟨fun d hd d' hd' => ?_, ?_, fun d hd => ?_⟩, ?_⟩
  · obtain ⟨a, ha, rfl⟩ := List.mem_map.mp hd
    obtain ⟨b, hb, rfl⟩ := List.mem_map.mp hd'
    exact (each a ha).2 b hb
  · rcases Bool.or_eq_true_iff.mp e2 with e2 | e2
    · refine .inl fun d hd => ?_
      obtain ⟨a, ha, rfl⟩ := List.mem_map.mp hd
      have := List.all_eq_true.mp e2 a ha
      cases q : a.py with
      | tuple xs => exact ⟨xs, rfl⟩
      | _ => rw [q] at this; cases this
    · refine .inr fun d hd => ?_
      obtain ⟨a, ha, rfl⟩ := List.mem_map.mp hd
      have := List.all_eq_true.mp e2 a ha
      cases q : a.py with
      | tuple xs => rw [q] at this; cases this
      | none => rw [q] at this; cases this
      | _ => exact ⟨by simp, by simp⟩
  · obtain ⟨a, ha, rfl⟩ := List.mem_map.mp hd
    have := (Bool.and_eq_true_iff.mp (show (a.py.canLay0 && decide (a.py.depth ≤ 64)) = true from (each a ha).1)).2
    exact of_decide_eq_true this
  · have gen : ∀ l : List T, (∀ a ∈ l, a.py.canLay0 = true) → PyData.canLayAll0 (l.map T.py) = true := by
      intro l
      induction l with
      | nil => intro _; rfl
      | cons a l ih =>
        intro hl
        rw [List.map_cons, PyData.canLayAll0, hl a (List.mem_cons_self ..), ih fun b hb => hl b (List.mem_cons_of_mem _ hb)]
        rfl
    exact gen ts fun a ha => SeqAt.canLay_of_shaped (each a ha).1
/-- the two sortings go together -/
theorem sort_rp {F : Hp} {vs : List V} (r : RpL K φ F ts vs) : RpL K φ F (sortT ts) (sortV vs (T.pys ts)) := by
  have hl := r.length
  let zs := ts.zip vs
  have z1 : zs.map (·.1) = ts := by
    have : ∀ {ts : List T} {vs : List V}, ts.length = vs.length → (ts.zip vs).map (·.1) = ts := by
      intro ts
      induction ts with
      | nil => intro vs _; rfl
      | cons t ts ih => intro vs h; cases vs with
        | nil => simp at h
        | cons v vs => simp [ih (vs := vs) (by simpa using h)]
    exact this hl
  have z2 : zs.map (fun z => (z.2, z.1.py)) = vs.zip (T.pys ts) := by
    have : ∀ {ts : List T} {vs : List V}, ts.length = vs.length → (ts.zip vs).map (fun z => (z.2, z.1.py)) = vs.zip (T.pys ts) := by
      intro ts
      induction ts with
      | nil => intro vs h; cases vs with
        | nil => rfl
        | cons => simp at h
      | cons t ts ih => intro vs h; cases vs with
        | nil => simp at h
        | cons v vs => simp [T.pys, ih (vs := vs) (by simpa using h)]
    exact this hl
  have s1 : sortT ts = (zs.mergeSort fun a b => leT a.1 b.1).map (·.1) := by
    rw [List.map_mergeSort (s := leT) (fun a _ b _ => rfl), z1]
    rfl
  have s2 : sortV vs (T.pys ts) = (zs.mergeSort fun a b => leT a.1 b.1).map (·.2) := by
    unfold sortV
    rw [← z2, ← List.map_mergeSort (r := fun a b : T × V => leT a.1 b.1) (s := dataLe false fun x : V × PyData => x.2) (f := fun z : T × V => (z.2, z.1.py)) (fun a _ b _ => rfl), List.map_map]
    rfl
  rw [s1, s2]
  have mem : ∀ z ∈ zs, Rp K φ F z.1 z.2 := by
    have : ∀ {ts : List T} {vs : List V}, RpL K φ F ts vs → ∀ z ∈ ts.zip vs, Rp K φ F z.1 z.2 := by
      intro ts
      induction ts with
      | nil => intro vs _ z hz; simp at hz
      | cons t ts ih =>
        intro vs r z hz
        obtain ⟨v, w, rfl, r1, r2⟩ := r
        rw [List.zip_cons_cons] at hz
        rcases List.mem_cons.mp hz with rfl | hz
        · exact r1
        · exact ih r2 z hz
    exact this r
  have gen : ∀ l : List (T × V), (∀ z ∈ l, Rp K φ F z.1 z.2) → RpL K φ F (l.map (·.1)) (l.map (·.2)) := by
    intro l
    induction l with
    | nil => intro _; rfl
    | cons z l ih => intro h; exact ⟨z.2, _, rfl, h z (List.mem_cons_self ..), ih fun y hy => h y (List.mem_cons_of_mem _ hy)⟩
  exact gen _ fun z hz => mem z ((List.mergeSort_perm _ _).mem_iff.mp hz)
theorem keysRp (rh : RelH K φ H h) : ∀ {kvs : List (List Key × V)} {bs : List Addr}, IsKeys H kvs bs → RpL K φ (Fz φ H) ((kvs.map (·.1)).map fun k => .tup (k.map keyT)) (bs.map V.ref)
  | _, _, .nil => rfl
  | _, _, .cons e t => ⟨_, _, rfl, ⟨_, _, rfl, Fz.mk (rh.tupNo e) e, rpKeys _⟩, keysRp rh t⟩
theorem itQ_col {P : List V → Prop} (rh : RelH K φ H h) (r : Rp K φ (Fz φ H) t v) (e : itQ h t = some ts) (p : ∀ vs, RpL K φ (Fz φ H) ts vs → P vs) : Col K v H P := by
  by_cases hq : ∃ xs, sqQ h t = some xs
  · obtain ⟨xs, hq⟩ := hq
    have : ts = xs := by
      unfold itQ at e
      unfold sqQ at hq
      split at hq <;> rename_i q <;> first | (rw [q] at e; cases e; cases hq; rfl) | cases hq
    subst this
    obtain ⟨a, vs, rfl, h1, h2⟩ := sqQ_rp rh r hq
    exact .inl ⟨a, vs, rfl, h1, p vs h2⟩
  · unfold itQ at e
    split at e
    · rename_i xs q; exact absurd ⟨xs, by unfold sqQ; rw [q]⟩ hq
    · rename_i xs q; exact absurd ⟨xs, by unfold sqQ; rw [q]⟩ hq
    · rename_i xs q; exact absurd ⟨xs, by unfold sqQ; rw [q]⟩ hq
    · rename_i ks us q
      cases e
      have : t = .dk ks us := by
        cases t with
        | ref n => simp only [dr] at q; split at q <;> cases q
        | _ => exact q
      subst this
      obtain ⟨a, kvs, rfl, h1, rfl, h3⟩ := r
      refine .inr (.inl ⟨a, kvs, rfl, (Fz.of h1).2, p _ ?_⟩)
      have := rpKeys (K := K) (φ := φ) (F := Fz φ H) (kvs.map (·.1))
      rw [List.map_map (g := kV)] at this
      exact this
    · rename_i ks us q
      cases e
      have : t = .dt ks us := by
        cases t with
        | ref n => simp only [dr] at q; split at q <;> cases q
        | _ => exact q
      subst this
      obtain ⟨a, kvs, rfl, h1, rfl, h3⟩ := r
      exact .inr (.inr ⟨a, kvs, rfl, (Fz.of h1).2, fun bs hb => p _ (keysRp rh hb)⟩)
    · rename_i n q
      have := dr_not q
      subst this
      split at e
      · rename_i ks us hn
        cases e
        obtain ⟨a, ho, h1, h2, kvs, h3, rfl, h4⟩ := rh.at hn
        obtain ⟨b, q1, rfl⟩ := r
        rw [h1] at q1; cases q1
        have h3 : ho = .dK kvs := h3
        subst h3
        refine .inr (.inl ⟨_, kvs, rfl, h2, p _ ?_⟩)
        have := rpKeys (K := K) (φ := φ) (F := Fz φ H) (kvs.map (·.1))
        rw [List.map_map (g := kV)] at this
        exact this
      · rename_i ks us hn
        cases e
        obtain ⟨a, ho, h1, h2, kvs, h3, rfl, h4⟩ := rh.at hn
        obtain ⟨b, q1, rfl⟩ := r
        rw [h1] at q1; cases q1
        have h3 : ho = .dT kvs := h3
        subst h3
        exact .inr (.inr ⟨_, kvs, rfl, h2, fun bs hb => p _ (keysRp rh hb)⟩)
      · cases e
    · cases e
theorem b_sorted {ow : Bool} : B1 X E (fSorted ow) (rSortA X.K) := fun φ H h ts vs Q rh r f => by
  match ts, f with
  | [t], f =>
    obtain ⟨v, rfl, rv⟩ := r.one
    simp only [fSorted] at f
    split at f
    · rename_i xs e
      split at f
      · rename_i ok
        obtain ⟨o1, o2⟩ := sOkQ_ok ok
        refine ⟨v, T.pys xs, rfl, o1, itQ_col rh rv e fun us ru => ⟨RpL.dp Fz.ex xs us o2 ru, fun p hp => ?_⟩⟩
        cases ow with
        | true => exact f.own rh hp ⟨_, rfl, sort_rp ru⟩
        | false => exact f.newLst rh (sort_rp ru) hp
      · exact f.elim
    · exact f.elim
  | [], f => exact f.elim
  | _ :: _ :: _, f => exact f.elim
end
end Z

/-! Lay11: dict comprehensions of one clause and of two, keys ints, texts or tuples of these. -/
namespace Z
open PySem L2 PyProof.Rows PySem.Spec

/-- d[k] = v within a comprehension -/
theorem dictSetP {X : Cx} {pins : List (Addr × Obj)} {σ : L2.St} {H H' : Hp} {s : Shared} {E : Value → Shared → Prop} {D : Addr} {y v : V} {u r : Value} {Q : Unit → Shared → Prop} (hu : X.A.units < cLine) (I : Inv X pins σ H s) (g : DPut H D y v H')
    (ry : RelV y u) (rv : RelV v r) (h : ∀ s', Inv X pins σ H' s' → Q () s') : wpAny (model X.prog X.w) X.A (dictSet D u r) Q E s := by
  rcases g with ⟨kvs, k, hD, rfl, hz, rfl⟩ | ⟨kvs, k, b, hD, rfl, eb, hz, rfl⟩
  · exact d_dictSet I hD hz ry rv h
  · cases (show u = Value.ref b from ry)
    obtain ⟨z, hd, xs, rel, dd⟩ := dt_of I.hok hD
    have hl : (putK kvs k v).length ≤ sizeLine := by have := length_putK kvs k v; omega
    refine wpAny_dictSet_heap (hsz := by rw [← Paired.length rel]; exact z) (knd := tupleKind (mixKind X.prog X.w)) hu (key_of I.hok eb) dd fun h' dd' hs => h _ ?_
    obtain ⟨q, es, ep, hq, h2, h3, h4, _, h5⟩ := dd'
    refine d_write I (by rw [hD]; exact True.intro) hs ⟨q, hq⟩ ⟨hl, hd, _, (rel.put k eb rv).keeps fun c ys ec => ?_, q, es, ep, hq, h2, h3, h4, h5⟩
    rw [upd_ne (ne_of ec hD (fun z => nomatch z))]
    exact ec

/-! ### the text's own turns, two clauses -/
section
variable {prog : Program} {w : World} {A : Around} {R : Result → Shared → Prop} {s : Shared} {kx vx t0 i0 t1 i1 : Expr} {ifs0 ifs1 : List Expr} {scope : Scope} {pos : Pos} {it : Value} {D : Addr} {env : Env}
abbrev dc2 (kx vx t0 i0 t1 i1 : Expr) (ifs0 ifs1 : List Expr) (scope : Scope) (pos : Pos) : Expr := .DictComp kx vx [⟨t0, i0, ifs0, 0⟩, ⟨t1, i1, ifs1, 0⟩] scope pos
theorem turnOut : compTurn (dc2 kx vx t0 i0 t1 i1 ifs0 ifs1 scope pos) 0 it (.ref D) env = (do
    standAt i0.pos
    match ← pyNext it with
    | none => pure (.done .next)
    | some v =>
      letOwnedTupleGo t0 it v
      assign t0 env v
      let mut ok := true
      for c in ifs0 do
        if ok then ok ← isTrue c env (eval c env)
      if ok then
        let x ← eval i1 env
        standAt i1.pos
        let x ← foldedSetIterable i1 env x
        let _ ← runOwn (.compStart (dc2 kx vx t0 i0 t1 i1 ifs0 ifs1 scope pos) 1 (← holding [x] (pyIter x)) (.ref D) env) env
      again (.compLoop (dc2 kx vx t0 i0 t1 i1 ifs0 ifs1 scope pos) 0 it (.ref D) env)) := by rfl
theorem turnIn : compTurn (dc2 kx vx t0 i0 t1 i1 ifs0 ifs1 scope pos) 1 it (.ref D) env = (do
    standAt i1.pos
    match ← pyNext it with
    | none => pure (.done .next)
    | some v =>
      letOwnedTupleGo t1 it v
      assign t1 env v
      let mut ok := true
      for c in ifs1 do
        if ok then ok ← isTrue c env (eval c env)
      if ok then
        (do
          let kv ← eval kx env
          let vv ← holding [kv] (eval vx env)
          standAt { kx.pos with endLine := vx.pos.endLine, endCol := vx.pos.endCol }
          holding [kv, vv] (dictSet D kv vv))
      again (.compLoop (dc2 kx vx t0 i0 t1 i1 ifs0 ifs1 scope pos) 1 it (.ref D) env)) := by rfl
/-- where an exception of the block goes -/
abbrev nb (prog : Program) (w : World) (A : Around) (env : Env) (R : Result → Shared → Prop) : Value → Shared → Prop := notedBy (model prog w) A env fun e s' => R (.error e) s'
theorem loopOut (hs : ∀ x, foldedSetIterable i1 env x = pure x) (I : Nat → Shared → Prop)
    (turn : ∀ n s, I n s → wpAny (model prog w) A (pyNext it) (fun r s₁ => match r with
      | none => R (.ok .next) s₁
      | some v => wpAny (model prog w) A (letOwnedTupleGo t0 it v) (fun _ s₁' => wpAny (model prog w) A (assign t0 env v) (fun _ s₂ =>
          wpAny (model prog w) A (forIn ifs0 true fun c r => if r = true then do let ok ← isTrue c env (eval c env); pure (ForInStep.yield ok) else pure (ForInStep.yield r)) (fun ok s₃ =>
            if ok = true then wpAny (model prog w) A (eval i1 env) (fun x s₄ => wpAny (model prog w) A (pyIter x) (fun it1 s₅ =>
              codeAny (model prog w) A (.compStart (dc2 kx vx t0 i0 t1 i1 ifs0 ifs1 scope pos) 1 it1 (.ref D) env) (fun r s' => match r with
                | .ok _ => ∃ m, m < n ∧ I m s'
                | .error _ => False) s₅) (nb prog w A env R) s₄) (nb prog w A env R) s₃
            else ∃ m, m < n ∧ I m s₃) (nb prog w A env R) s₂) (nb prog w A env R) s₁') (nb prog w A env R) s₁) (nb prog w A env R) s)
    (n : Nat) (h : I n s) : codeAny (model prog w) A (.compLoop (dc2 kx vx t0 i0 t1 i1 ifs0 ifs1 scope pos) 0 it (.ref D) env) R s := by
  refine codeAny_loop rfl I (fun n s hI => ?_) n h
  show wpAny _ A ((compTurn (dc2 kx vx t0 i0 t1 i1 ifs0 ifs1 scope pos) 0 it (.ref D) env).onRaise (fun x => do noteFrame x env; theTreesLotGoes x)) _ _ s
  refine wpAny_noted ?_
  rw [turnOut]
  refine wpAny_bind (wpAny_standAt (wpAny_bind (wpAny_mono (turn n s hI) (fun r s₁ h₁ => ?_) fun _ _ z => z)))
  cases r with
  | none => exact wpAny_pure h₁
  | some v =>
    refine wpAny_bind (wpAny_mono h₁ (fun _ _ h₁' => wpAny_bind (wpAny_mono h₁' (fun _ _ h₂ => wpAny_bind (wpAny_mono h₂ (fun ok s₃ h₃ => ?_) fun _ _ z => z)) fun _ _ z => z)) fun _ _ z => z)
    cases ok with
    | false => exact wpAny_pure ⟨rfl, h₃⟩
    | true =>
      refine wpAny_bind (wpAny_mono h₃ (fun x s₄ h₄ => ?_) fun _ _ z => z)
      refine wpAny_bind (wpAny_standAt (wpAny_bind (wpAny_of_eq (hs x) (wpAny_bind (wpAny_holding (wpAny_mono h₄ (fun it1 s₅ h₅ => ?_) fun _ _ z => z))))))
      refine wpAny_bind (wpAny_runOwn ?_)
      rw [Around.mark_none]
      refine codeAny_mono h₅ fun r s' hr => ?_
      cases r with
      | error e => exact hr.elim
      | ok f => first | exact wpAny_pure ⟨rfl, hr⟩ | exact wpAny_bind (wpAny_pure (wpAny_pure ⟨rfl, hr⟩))
theorem loopIn (I : Nat → Shared → Prop)
    (turn : ∀ n s, I n s → wpAny (model prog w) A (pyNext it) (fun r s₁ => match r with
      | none => R (.ok .next) s₁
      | some v => wpAny (model prog w) A (letOwnedTupleGo t1 it v) (fun _ s₁' => wpAny (model prog w) A (assign t1 env v) (fun _ s₂ =>
          wpAny (model prog w) A (forIn ifs1 true fun c r => if r = true then do let ok ← isTrue c env (eval c env); pure (ForInStep.yield ok) else pure (ForInStep.yield r)) (fun ok s₃ =>
            if ok = true then wpAny (model prog w) A (eval kx env) (fun kv s₄ => wpAny (model prog w) A (eval vx env) (fun vv s₅ =>
              wpAny (model prog w) A (dictSet D kv vv) (fun _ s₆ => ∃ m, m < n ∧ I m s₆) (nb prog w A env R) s₅) (nb prog w A env R) s₄) (nb prog w A env R) s₃
            else ∃ m, m < n ∧ I m s₃) (nb prog w A env R) s₂) (nb prog w A env R) s₁') (nb prog w A env R) s₁) (nb prog w A env R) s)
    (n : Nat) (h : I n s) : codeAny (model prog w) A (.compLoop (dc2 kx vx t0 i0 t1 i1 ifs0 ifs1 scope pos) 1 it (.ref D) env) R s := by
  refine codeAny_loop rfl I (fun n s hI => ?_) n h
  show wpAny _ A ((compTurn (dc2 kx vx t0 i0 t1 i1 ifs0 ifs1 scope pos) 1 it (.ref D) env).onRaise (fun x => do noteFrame x env; theTreesLotGoes x)) _ _ s
  refine wpAny_noted ?_
  rw [turnIn]
  refine wpAny_bind (wpAny_standAt (wpAny_bind (wpAny_mono (turn n s hI) (fun r s₁ h₁ => ?_) fun _ _ z => z)))
  cases r with
  | none => exact wpAny_pure h₁
  | some v =>
    refine wpAny_bind (wpAny_mono h₁ (fun _ _ h₁' => wpAny_bind (wpAny_mono h₁' (fun _ _ h₂ => wpAny_bind (wpAny_mono h₂ (fun ok s₃ h₃ => ?_) fun _ _ z => z)) fun _ _ z => z)) fun _ _ z => z)
    cases ok with
    | false => exact wpAny_pure ⟨rfl, h₃⟩
    | true =>
      exact wpAny_bind (wpAny_bind (wpAny_mono h₃ (fun kv s₄ h₄ => wpAny_bind (wpAny_holding (wpAny_mono h₄ (fun vv s₅ h₅ => wpAny_bind (wpAny_standAt (wpAny_holding (wpAny_mono h₅ (fun _ s₆ h₆ => wpAny_pure ⟨rfl, h₆⟩) fun _ _ z => z)))) fun _ _ z => z))) fun _ _ z => z))
theorem startIn (h0 : codeAny (model prog w) A (.compLoop (dc2 kx vx t0 i0 t1 i1 ifs0 ifs1 scope pos) 1 it (.ref D) env) R s)
    (h : wpAny (model prog w) A (pyIter it) (fun it' s' => codeAny (model prog w) A (.compLoop (dc2 kx vx t0 i0 t1 i1 ifs0 ifs1 scope pos) 1 it' (.ref D) env) R s') (nb prog w A env R) s) :
    codeAny (model prog w) A (.compStart (dc2 kx vx t0 i0 t1 i1 ifs0 ifs1 scope pos) 1 it (.ref D) env) R s := by
  refine codeAny_of_tree ?_
  show wpAny _ _ ((compStart (dc2 kx vx t0 i0 t1 i1 ifs0 ifs1 scope pos) 1 it (.ref D) env).onRaise (fun x => do noteFrame x env; standAt theWindowsPlace)) _ _ s
  refine wpAny_notedAt ?_
  unfold compStart
  show wpAny _ _ (ask >>= _) _ _ s
  refine wpAny_bind (wpAny_askSetting (wpAny_ite ?_))
  split
  · first
      | exact wpAny_bind (wpAny_pure (wpAny_pure (And.intro rfl h0)))
      | exact wpAny_pure (And.intro rfl h0)
  · first
      | exact wpAny_bind (wpAny_rule (wpAny_bind (wpAny_standAt (wpAny_bind (wpAny_mono h (fun a b z => wpAny_pure (And.intro rfl z)) fun _ _ z => z)))))
      | (refine wpAny_bind (wpAny_rule ?_); show wpAny _ _ (standAt i1.pos >>= _) _ _ s; exact wpAny_bind (wpAny_standAt (wpAny_bind (wpAny_mono h (fun a b z => wpAny_pure (And.intro rfl z)) fun _ _ z => z))))
end

/-! ### the block, from its iterator on -/
/-- one clause; e0: the empty dict as it is told (keys ints and texts, or tuples) -/
def tDcP (e0 : HO) (wi : TI) (g : TG) (tt : TT) (tk tv : TE) (vs : List Nat) : TE := fun σ H Q => wi σ H fun J H1 => ∀ D, H1 D = none → ∃ W : Nat → Nat → Hp → Prop, (∃ m, W 0 m (upd H1 D e0)) ∧ ∀ i m H, W i m H →
  (J.stop i H ∧ Q (.ref D) H) ∨ (J.go i H ∧ ∃ Nx : Hp → Prop, (∀ H', Nx H' → ∃ m', m' < m ∧ W (i + 1) m' H') ∧ ∀ x H', J.yld i H x H' → g x (wipe σ vs) H' fun σ2 H2 => wipe σ2 vs = wipe σ vs ∧ tt σ2 H2 fun b H3 =>
    if b = true then tk σ2 H3 fun y H4 => tv σ2 H4 fun z H5 => ∃ H6, DPut H5 D y z H6 ∧ Nx H6 else Nx H3)
/-- two clauses -/
def tDcP2 (e0 : HO) (wi : TI) (g : TG) (tt : TT) (wi1 : TI) (g1 : TG) (tt1 : TT) (tk tv : TE) (vs vs1 : List Nat) : TE := fun σ H Q => wi σ H fun J H1 => ∀ D, H1 D = none → ∃ W : Nat → Nat → Hp → Prop, (∃ m, W 0 m (upd H1 D e0)) ∧ ∀ i m H, W i m H →
  (J.stop i H ∧ Q (.ref D) H) ∨ (J.go i H ∧ ∃ Nx : Hp → Prop, (∀ H', Nx H' → ∃ m', m' < m ∧ W (i + 1) m' H') ∧ ∀ x H', J.yld i H x H' → g x (wipe σ vs) H' fun σ2 H2 => wipe σ2 vs = wipe σ vs ∧ tt σ2 H2 fun b H3 =>
    if b = true then wi1 σ2 H3 fun J1 H4 => ∃ W1 : Nat → Nat → Hp → Prop, (∃ m, W1 0 m H4) ∧ ∀ j k H, W1 j k H →
      (J1.stop j H ∧ Nx H) ∨ (J1.go j H ∧ ∃ Nx1 : Hp → Prop, (∀ H', Nx1 H' → ∃ k', k' < k ∧ W1 (j + 1) k' H') ∧ ∀ x H', J1.yld j H x H' → g1 x (wipe σ2 vs1) H' fun σ3 H5 => wipe σ3 vs1 = wipe σ2 vs1 ∧ tt1 σ3 H5 fun b H6 =>
        if b = true then tk σ3 H6 fun y H7 => tv σ3 H7 fun z H8 => ∃ H9, DPut H8 D y z H9 ∧ Nx1 H9 else Nx1 H6)
    else Nx H3)
section
variable {X : Cx} {pins : List (Addr × Obj)} {σ : L2.St} {H : Hp} {s : Shared}
/-- what the context is behind the block's start: BX its context, H3 the heap, s4 the state; and the way back -/
structure Blk (X : Cx) (pins : List (Addr × Obj)) (σ : L2.St) (scope : Scope) (vs : List Nat) (Post : Result → Shared → Prop) (Q : VK) (D : Addr) (fp : List Addr) (tn : Nat → Heap → Prop) (H3 : Hp) (s3 : Shared) (ce : Env) (s4 : Shared) : Prop where
  st : Inv (X.blk s3 H3 scope ce fp) [] (wipe σ vs) H3 s4
  tn : tn 0 s4.heap
  nf : ∀ b ∈ fp, H3 b = none
  back : ∀ H5 s6, Inv (X.blk s3 H3 scope ce fp) [] (wipe σ vs) H5 s6 → Q (.ref D) H5 → Post (.ok .next) s6
  stat : ∀ (σ' : L2.St) (H' : Hp) (s' : Shared), Inv (X.blk s3 H3 scope ce fp) [] σ' H' s' → (∀ b ∈ fp, H' b = none) → ∀ b ∈ fp, FpOk (X.blk s3 H3 scope ce fp) [] H' b
theorem dc_open {Q : VK} {expr tg iter : Expr} {ifs : List Expr} {rest : List Comprehension} {scope : Scope} {own : List (Str × Nat)} {pos' : Pos} {wi : TI} {use : Option (Value → Sem Unit)} {Qf : Value → Shared → Prop} {e0 : HO} {R : It → Hp → Prop}
    (kx vx : Expr) (pos : Pos) (hexpr : expr = .DictComp kx vx (⟨tg, iter, ifs, 0⟩ :: rest) scope pos) (he0 : e0 = .dK [] ∨ e0 = .dT []) (hN : X.N.Nodup) (I : Inv X pins σ H s) (hi : PI X tg iter wi) (ok : BlkOk X.N X.env.scope scope own) (hs : ∀ x, foldedSetIterable iter X.env x = pure x) (h : wi σ H R)
    (hRR : ∀ D C s' m H', Inv X pins σ H' s' → Q (.ref D) H' → s'.heap.Ns C m → FpOk X pins H' C → compPost (model X.prog X.w) X.A X.xe use Qf (.ref D) C (.ok .next) s')
    (go : ∀ (D : Addr) (H1 : Hp) (J : It) (it : Addr) (fp : List Addr) (tn : Nat → Heap → Prop) (s3 s4 : Shared) (C : Addr) (cl : List (Str × Addr)) (Post : Result → Shared → Prop), H1 D = none → R J H1 → Turn X.prog X.w X.K tg J fp it tn →
      Blk X pins σ scope (own.map (·.2)) Post Q D fp tn (upd H1 D e0) s3 (compEnvC scope cl C X.env) s4 →
      codeAny (model X.prog X.w) X.A (.compLoop expr 0 (.ref it) (.ref D) (compEnvC scope cl C X.env)) Post s4) :
    wpAny (model X.prog X.w) X.A (comprehension expr scope X.env pos' newDict false (eval iter X.env) use) Qf X.xe s := by
  subst hexpr
  have hfree : ∀ y ∈ scope.names, y.2 = .free → ∃ c, X.env.cells.lookup y.1 = some c := fun y hy e => (ok.free y hy e).elim (fun k => I.ok.has _ (.inl k)) fun k => I.ok.has _ (.inr k)
  refine wpAny_comprehension_free (use := use) rfl hs (closure_ok hfree) ok.kind (fun y hy e => by rw [ok.uniq y hy, e])
    (thn (hi.run pins s σ H _ I h) fun xv s1 hx => thn hx fun itv s2 ⟨it, fp, tn, J, H2, e, I2, T, st2, f2, q⟩ => ?_)
  subst e
  refine wpAny_newObj_type (newEnv_comp ?_)
  generalize hD : s2.heap.objs.size = D
  have hDn : H2 D = none := I2.hok.fresh (Nat.le_of_eq hD)
  generalize hs3 : ({ s2 with heap := s2.heap.push { cls := .type "dict", data := .dict #[] } } : Shared) = s3
  have I3 : Inv X pins σ (upd H2 D e0) s3 := by
    rw [← hs3]
    refine I2.laid (t' := s2.toks) (fun b o e => Heap.get?_push_of_some _ e) (Nat.le_of_eq hD) ?_
    rw [← hD]
    rcases he0 with rfl | rfl
    · exact dk_empty s2.heap I2.big
    · exact dt_empty s2.heap I2.big
  have h3 : s3.heap = s2.heap.push { cls := .type "dict", data := .dict #[] } := by rw [← hs3]
  have f3 : ∀ b ∈ fp, FpOk X pins (upd H2 D e0) b ∧ b < s3.heap.objs.size := fun b hb => by
    obtain ⟨o, eo, _⟩ := T.obj _ _ st2 b hb
    have hlt := Heap.lt_size eo
    exact ⟨⟨by rw [upd_ne (by rw [← hD]; exact Nat.ne_of_lt hlt)]; exact (f2 b hb).1, (f2 b hb).2⟩, by rw [h3, Heap.size_push]; exact Nat.lt_succ_of_lt hlt⟩
  have st3 : tn 0 s3.heap := T.keep _ _ _ st2 fun b _ o e => by rw [h3]; exact Heap.get?_push_of_some _ e
  have I4 := block_start I3 ok hN f3
  show codeAny _ _ (.compStart (.DictComp kx vx (⟨tg, iter, ifs, 0⟩ :: rest) scope pos) 0 (.ref it) (.ref D) (compEnvC scope (cellsFrom (s3.heap.objs.size + 1) scope.names (cloFrom X.env.cells scope.names [])) s3.heap.objs.size X.env)) (compPost (model X.prog X.w) X.A X.xe use Qf (.ref D) s3.heap.objs.size) { s3 with heap := pushCells (s3.heap.push { cls := .type "dict", data := .dict #[] }) scope.names }
  generalize hcl : cellsFrom (s3.heap.objs.size + 1) scope.names (cloFrom X.env.cells scope.names []) = cl at I4 ⊢
  generalize hs4 : ({ s3 with heap := pushCells (s3.heap.push { cls := .type "dict", data := .dict #[] }) scope.names } : Shared) = s4 at I4 ⊢
  have st4 : tn 0 s4.heap := T.keep _ _ _ st3 fun b _ o e => by rw [← hs4]; exact pushCells_keeps _ _ _ _ (Heap.get?_push_of_some _ e)
  have blk : Blk X pins σ scope (own.map (·.2)) (compPost (model X.prog X.w) X.A X.xe use Qf (.ref D) s3.heap.objs.size) Q D fp tn (upd H2 D e0) s3 (compEnvC scope cl s3.heap.objs.size X.env) s4 := by
    refine ⟨I4, st4, fun b hb => (f3 b hb).1.1, fun H5 s6 I6 qq => ?_, fun σ' H' s' I' hn b hb => ⟨hn b hb, (I'.ok.exf b hb).1, I'.ok.exfs b hb, .inl hb, fun x c e => (I'.ok.exf b hb).2 x c e, fun p hp => absurd (show p ∈ ([] : List (Addr × Obj)) ++ [] from hp) (by simp)⟩⟩
    have I7 : Inv X pins σ H5 s6 := I3.call' (ch := fp) I6.os I6.base I6.hok I6.bare fun b hb => ⟨(f3 b hb).1.2.2.2.1, (f3 b hb).1.2.1, (f3 b hb).1.2.2.2.2.1, (f3 b hb).1.2.2.2.2.2⟩
    obtain ⟨m, hn, _⟩ := I6.loc
    exact hRR D s3.heap.objs.size s6 m H5 I7 qq hn (I3.fpOk (Nat.le_refl _) I6.free)
  have loop := go D H2 J it fp tn s3 s4 s3.heap.objs.size cl _ hDn q T blk
  exact codeAny_compStart_dict loop (T.self X.A 0 _ _ _ st4 loop)

/-- behind one turn: back to the block's own slots -/
theorem turn_back {BX : Cx} {vs : List Nat} {σ8 : L2.St} {fp : List Addr} {tn : Nat → Heap → Prop} {J : It} {tg : Expr} {it : Addr} {P : Program} {w : World} {K : PySem.W.Frag} (T : Turn P w K tg J fp it tn) {s7 s' : Shared} {H' : Hp} {i : Nat} (st7 : tn (i + 1) s7.heap)
    (I' : Inv BX ([] ++ pinsAt fp s7.heap) σ8 H' s') (hl : (wipe σ vs).length = σ8.length) (hk : ∀ (j : Nat) v, (wipe σ vs)[j]? = some (some v) → σ8[j]? = some (some v)) : Inv BX [] (wipe σ vs) H' s' ∧ tn (i + 1) s'.heap ∧ ∀ b ∈ fp, H' b = none := by
  have pin' : ∀ b ∈ fp, ∀ o, s7.heap.get? b = some o → s'.heap.get? b = some o ∧ H' b = none := fun b hb o e =>
    let z := I'.pin (b, o) (List.mem_append_right _ (List.mem_append_right _ (mem_pinsAt hb e)))
    ⟨z.1, z.2.1⟩
  refine ⟨(I'.unpinned (pins := [])).weak hl hk, T.keep _ _ _ st7 fun b hb o e => (pin' b hb o e).1, fun b hb => ?_⟩
  obtain ⟨o, e, _⟩ := T.obj _ _ st7 b hb
  exact (pin' b hb o e).2
theorem wiped {vs : List Nat} {σ8 : L2.St} (hw : wipe σ8 vs = wipe σ vs) : (wipe σ vs).length = σ8.length ∧ ∀ (j : Nat) v, (wipe σ vs)[j]? = some (some v) → σ8[j]? = some (some v) :=
  ⟨by rw [← hw, wipe_length], fun j v e => by rw [← hw] at e; exact (wipe_some e).1⟩
theorem dcp_core {Q : VK} {kx vx tg iter : Expr} {ifs : List Expr} {scope : Scope} {own : List (Str × Nat)} {pos pos' : Pos} {wi : TI} {g : TG} {tt : TT} {tk tv : TE} {use : Option (Value → Sem Unit)} {Qf : Value → Shared → Prop} {e0 : HO}
    (he0 : e0 = .dK [] ∨ e0 = .dT []) (hu : X.A.units < cLine) (hc : X.calm = true) (hN : X.N.Nodup) (I : Inv X pins σ H s) (hi : PI X tg iter wi) (ok : BlkOk X.N X.env.scope scope own)
    (hg : ∀ (s : Shared) (H : Hp) (C : Addr) (cl : List (Str × Addr)) (fp : List Addr), PG (X.blk s H scope (compEnvC scope cl C X.env) fp) tg g) (ht : ∀ (s : Shared) (H : Hp) (C : Addr) (cl : List (Str × Addr)) (fp : List Addr), PTs (X.blk s H scope (compEnvC scope cl C X.env) fp) ifs tt)
    (hk : ∀ (s : Shared) (H : Hp) (C : Addr) (cl : List (Str × Addr)) (fp : List Addr), PE (X.blk s H scope (compEnvC scope cl C X.env) fp) kx tk)
    (he : ∀ (s : Shared) (H : Hp) (C : Addr) (cl : List (Str × Addr)) (fp : List Addr), PE (X.blk s H scope (compEnvC scope cl C X.env) fp) vx tv) (hs : ∀ x, foldedSetIterable iter X.env x = pure x)
    (h : tDcP e0 wi g tt tk tv (own.map (·.2)) σ H Q)
    (hRR : ∀ D C s' m H', Inv X pins σ H' s' → Q (.ref D) H' → s'.heap.Ns C m → FpOk X pins H' C → compPost (model X.prog X.w) X.A X.xe use Qf (.ref D) C (.ok .next) s') :
    wpAny (model X.prog X.w) X.A (comprehension (.DictComp kx vx [⟨tg, iter, ifs, 0⟩] scope pos) scope X.env pos' newDict false (eval iter X.env) use) Qf X.xe s := by
  refine dc_open kx vx pos rfl he0 hN I hi ok hs h hRR fun D H1 J it fp tn s3 s4 C cl Post hD q T blk => ?_
  obtain ⟨W, ⟨m0, w0⟩, turn⟩ := q D hD
  refine compLoop_anyD (fun n s' => ∃ i H', Inv (X.blk s3 (upd H1 D e0) scope (compEnvC scope cl C X.env) fp) [] (wipe σ (own.map (·.2))) H' s' ∧ tn i s'.heap ∧ (∀ b ∈ fp, H' b = none) ∧ W i n H') ?_ m0 ⟨0, _, blk.st, blk.tn, blk.nf, w0⟩
  rintro n s5 ⟨i, H5, I5, st5, n5, w5⟩
  rcases turn i n H5 w5 with ⟨stop, qq⟩ | ⟨go, Nx, hNx, step⟩
  · refine thnF (T.done (X.blk s3 (upd H1 D e0) scope (compEnvC scope cl C X.env) fp) rfl rfl rfl hc i [] s5 _ H5 (fun _ _ => False) I5 (blk.stat _ _ _ I5 n5) st5 stop) fun r s6 ⟨hr, I6⟩ => ?_
    subst hr
    exact blk.back H5 s6 I6 qq
  · refine thnF (T.item (X.blk s3 (upd H1 D e0) scope (compEnvC scope cl C X.env) fp) rfl rfl rfl hc i [] s5 _ H5 (fun _ _ => False) I5 (blk.stat _ _ _ I5 n5) st5 go) fun r s6 ⟨u, hr, h6⟩ => ?_
    subst hr
    refine thnF h6 fun _ s7 ⟨x, H7, I7, r7, y7, st7, n7⟩ => ?_
    refine thnF ((hg _ _ _ _ _).run _ s7 _ H7 x u _ (I7.pinned (blk.stat _ _ _ I7 n7) (T.obj _ _ st7)) r7 (step x H7 y7)) fun _ s8 ⟨σ8, H8, I8, hw8, q8⟩ => ?_
    obtain ⟨hl8, hk8⟩ := wiped hw8
    refine thnF ((ht _ _ _ _ _).run _ s8 σ8 H8 _ I8 q8) fun b s9 ⟨H9, I9, q9⟩ => ?_
    have fin : ∀ {s' : Shared} {H' : Hp}, Inv (X.blk s3 (upd H1 D e0) scope (compEnvC scope cl C X.env) fp) ([] ++ pinsAt fp s7.heap) σ8 H' s' → Nx H' → ∃ m, m < n ∧ ∃ i H', Inv (X.blk s3 (upd H1 D e0) scope (compEnvC scope cl C X.env) fp) [] (wipe σ (own.map (·.2))) H' s' ∧ tn i s'.heap ∧ (∀ b ∈ fp, H' b = none) ∧ W i m H' := fun {s' H'} I' nx => by
      obtain ⟨m', hm, w'⟩ := hNx H' nx
      obtain ⟨a1, a2, a3⟩ := turn_back T st7 I' hl8 hk8
      exact ⟨m', hm, i + 1, H', a1, a2, a3, w'⟩
    cases b with
    | false =>
      simp only [Bool.false_eq_true, if_false] at q9 ⊢
      exact fin I9 q9
    | true =>
      simp only [if_true] at q9 ⊢
      refine thnF ((hk _ _ _ _ _).run _ s9 σ8 H9 _ I9 q9) fun z s10 ⟨yk, H10, I10, r10, q10⟩ => ?_
      refine thnF ((he _ _ _ _ _).run _ s10 σ8 H10 _ I10 q10) fun z2 s11 ⟨yv, H11, I11, r11, H12, gp, nx⟩ => ?_
      exact dictSetP (X := X.blk s3 (upd H1 D e0) scope (compEnvC scope cl C X.env) fp) hu I11 gp r10 r11 fun s12 I12 => fin I12 nx
theorem dcp_core2 {Q : VK} {kx vx tg iter tg1 iter1 : Expr} {ifs ifs1 : List Expr} {scope : Scope} {own : List (Str × Nat)} {vs1 : List Nat} {pos pos' : Pos} {wi wi1 : TI} {g g1 : TG} {tt tt1 : TT} {tk tv : TE} {use : Option (Value → Sem Unit)} {Qf : Value → Shared → Prop} {e0 : HO}
    (he0 : e0 = .dK [] ∨ e0 = .dT []) (hu : X.A.units < cLine) (hc : X.calm = true) (hN : X.N.Nodup) (I : Inv X pins σ H s) (hi : PI X tg iter wi) (ok : BlkOk X.N X.env.scope scope own) (hv : ∀ i ∈ vs1, i ∈ own.map (·.2))
    (hg : ∀ (s : Shared) (H : Hp) (C : Addr) (cl : List (Str × Addr)) (fp : List Addr), PG (X.blk s H scope (compEnvC scope cl C X.env) fp) tg g) (ht : ∀ (s : Shared) (H : Hp) (C : Addr) (cl : List (Str × Addr)) (fp : List Addr), PTs (X.blk s H scope (compEnvC scope cl C X.env) fp) ifs tt)
    (hi1 : ∀ (s : Shared) (H : Hp) (C : Addr) (cl : List (Str × Addr)) (fp : List Addr), PI (X.blk s H scope (compEnvC scope cl C X.env) fp) tg1 iter1 wi1)
    (hg1 : ∀ (s : Shared) (H : Hp) (C : Addr) (cl : List (Str × Addr)) (fp : List Addr), PG (X.blk s H scope (compEnvC scope cl C X.env) fp) tg1 g1) (ht1 : ∀ (s : Shared) (H : Hp) (C : Addr) (cl : List (Str × Addr)) (fp : List Addr), PTs (X.blk s H scope (compEnvC scope cl C X.env) fp) ifs1 tt1)
    (hk : ∀ (s : Shared) (H : Hp) (C : Addr) (cl : List (Str × Addr)) (fp : List Addr), PE (X.blk s H scope (compEnvC scope cl C X.env) fp) kx tk)
    (he : ∀ (s : Shared) (H : Hp) (C : Addr) (cl : List (Str × Addr)) (fp : List Addr), PE (X.blk s H scope (compEnvC scope cl C X.env) fp) vx tv) (hs : ∀ x, foldedSetIterable iter X.env x = pure x) (hs1 : ∀ env x, foldedSetIterable iter1 env x = pure x)
    (h : tDcP2 e0 wi g tt wi1 g1 tt1 tk tv (own.map (·.2)) vs1 σ H Q)
    (hRR : ∀ D C s' m H', Inv X pins σ H' s' → Q (.ref D) H' → s'.heap.Ns C m → FpOk X pins H' C → compPost (model X.prog X.w) X.A X.xe use Qf (.ref D) C (.ok .next) s') :
    wpAny (model X.prog X.w) X.A (comprehension (dc2 kx vx tg iter tg1 iter1 ifs ifs1 scope pos) scope X.env pos' newDict false (eval iter X.env) use) Qf X.xe s := by
  refine dc_open kx vx pos rfl he0 hN I hi ok hs h hRR fun D H1 J it fp tn s3 s4 C cl Post hD q T blk => ?_
  obtain ⟨W, ⟨m0, w0⟩, turn⟩ := q D hD
  refine loopOut (hs1 _) (fun n s' => ∃ i H', Inv (X.blk s3 (upd H1 D e0) scope (compEnvC scope cl C X.env) fp) [] (wipe σ (own.map (·.2))) H' s' ∧ tn i s'.heap ∧ (∀ b ∈ fp, H' b = none) ∧ W i n H') ?_ m0 ⟨0, _, blk.st, blk.tn, blk.nf, w0⟩
  rintro n s5 ⟨i, H5, I5, st5, n5, w5⟩
  rcases turn i n H5 w5 with ⟨stop, qq⟩ | ⟨go, Nx, hNx, step⟩
  · refine thnF (T.done (X.blk s3 (upd H1 D e0) scope (compEnvC scope cl C X.env) fp) rfl rfl rfl hc i [] s5 _ H5 (fun _ _ => False) I5 (blk.stat _ _ _ I5 n5) st5 stop) fun r s6 ⟨hr, I6⟩ => ?_
    subst hr
    exact blk.back H5 s6 I6 qq
  · refine thnF (T.item (X.blk s3 (upd H1 D e0) scope (compEnvC scope cl C X.env) fp) rfl rfl rfl hc i [] s5 _ H5 (fun _ _ => False) I5 (blk.stat _ _ _ I5 n5) st5 go) fun r s6 ⟨u, hr, h6⟩ => ?_
    subst hr
    refine thnF h6 fun _ s7 ⟨x, H7, I7, r7, y7, st7, n7⟩ => ?_
    refine thnF ((hg _ _ _ _ _).run _ s7 _ H7 x u _ (I7.pinned (blk.stat _ _ _ I7 n7) (T.obj _ _ st7)) r7 (step x H7 y7)) fun _ s8 ⟨σ8, H8, I8, hw8, q8⟩ => ?_
    obtain ⟨hl8, hk8⟩ := wiped hw8
    refine thnF ((ht _ _ _ _ _).run _ s8 σ8 H8 _ I8 q8) fun b s9 ⟨H9, I9, q9⟩ => ?_
    have fin : ∀ {σ9 : L2.St} {s' : Shared} {H' : Hp}, Inv (X.blk s3 (upd H1 D e0) scope (compEnvC scope cl C X.env) fp) ([] ++ pinsAt fp s7.heap) σ9 H' s' → (wipe σ (own.map (·.2))).length = σ9.length → (∀ (j : Nat) v, (wipe σ (own.map (·.2)))[j]? = some (some v) → σ9[j]? = some (some v)) → Nx H' →
        ∃ m, m < n ∧ ∃ i H', Inv (X.blk s3 (upd H1 D e0) scope (compEnvC scope cl C X.env) fp) [] (wipe σ (own.map (·.2))) H' s' ∧ tn i s'.heap ∧ (∀ b ∈ fp, H' b = none) ∧ W i m H' := fun {σ9 s' H'} I' hl hk nx => by
      obtain ⟨m', hm, w'⟩ := hNx H' nx
      obtain ⟨a1, a2, a3⟩ := turn_back T st7 I' hl hk
      exact ⟨m', hm, i + 1, H', a1, a2, a3, w'⟩
    cases b with
    | false =>
      simp only [Bool.false_eq_true, if_false] at q9 ⊢
      exact fin I9 hl8 hk8 q9
    | true =>
      simp only [if_true] at q9 ⊢
      refine thnF ((hi1 _ _ _ _ _).run _ s9 σ8 H9 _ I9 q9) fun xv s10 hx => thnF hx fun itv s11 ⟨it1, fp1, tn1, J1, H11, e1, I11, T1, st11, f11, W1, ⟨m1, w1⟩, turn1⟩ => ?_
      subst e1
      have hk9 : ∀ (j : Nat) v, (wipe σ (own.map (·.2)))[j]? = some (some v) → (wipe σ8 vs1)[j]? = some (some v) := fun j v e => by
        rw [← hw8] at e
        obtain ⟨e1, e2⟩ := wipe_some e
        rw [wipe_out fun z => e2 (hv j z)]
        exact e1
      have stat1 : ∀ {H' : Hp}, (∀ b ∈ fp1, H' b = none) → ∀ b ∈ fp1, FpOk (X.blk s3 (upd H1 D e0) scope (compEnvC scope cl C X.env) fp) ([] ++ pinsAt fp s7.heap) H' b := fun hn b hb => ⟨hn b hb, (f11 b hb).2⟩
      have loop1 : codeAny (model X.prog X.w) X.A (.compLoop (dc2 kx vx tg iter tg1 iter1 ifs ifs1 scope pos) 1 (.ref it1) (.ref D) (compEnvC scope cl C X.env))
          (fun r s' => match r with
            | .ok _ => ∃ m, m < n ∧ ∃ i H', Inv (X.blk s3 (upd H1 D e0) scope (compEnvC scope cl C X.env) fp) [] (wipe σ (own.map (·.2))) H' s' ∧ tn i s'.heap ∧ (∀ b ∈ fp, H' b = none) ∧ W i m H'
            | .error _ => False) s11 := by
        refine loopIn (fun k s' => ∃ j H', Inv (X.blk s3 (upd H1 D e0) scope (compEnvC scope cl C X.env) fp) ([] ++ pinsAt fp s7.heap) (wipe σ8 vs1) H' s' ∧ tn1 j s'.heap ∧ (∀ b ∈ fp1, H' b = none) ∧ W1 j k H') ?_ m1 ⟨0, H11, I11.weak (wipe_length _ _) (fun j v e => (wipe_some e).1), st11, fun b hb => (f11 b hb).1, w1⟩
        rintro k s12 ⟨j, H12, I12, st12, n12, w12⟩
        rcases turn1 j k H12 w12 with ⟨stop1, nx1⟩ | ⟨go1, Nx1, hNx1, step1⟩
        · refine thnF (T1.done (X.blk s3 (upd H1 D e0) scope (compEnvC scope cl C X.env) fp) rfl rfl rfl hc j _ s12 (wipe σ8 vs1) H12 (fun _ _ => False) I12 (stat1 n12) st12 stop1) fun r s13 ⟨hr, I13⟩ => ?_
          subst hr
          exact fin I13 (hl8.trans (wipe_length σ8 vs1).symm) hk9 nx1
        · refine thnF (T1.item (X.blk s3 (upd H1 D e0) scope (compEnvC scope cl C X.env) fp) rfl rfl rfl hc j _ s12 (wipe σ8 vs1) H12 (fun _ _ => False) I12 (stat1 n12) st12 go1) fun r s13 ⟨u1, hr, h13⟩ => ?_
          subst hr
          refine thnF h13 fun _ s14 ⟨x1, H14, I14, r14, y14, st14, n14⟩ => ?_
          refine thnF ((hg1 _ _ _ _ _).run _ s14 (wipe σ8 vs1) H14 x1 u1 _ (I14.pinned (stat1 n14) (T1.obj _ _ st14)) r14 (step1 x1 H14 y14)) fun _ s15 ⟨σ15, H15, I15, hw15, q15⟩ => ?_
          refine thnF ((ht1 _ _ _ _ _).run _ s15 σ15 H15 _ I15 q15) fun b1 s16 ⟨H16, I16, q16⟩ => ?_
          have fin1 : ∀ {s' : Shared} {H' : Hp}, Inv (X.blk s3 (upd H1 D e0) scope (compEnvC scope cl C X.env) fp) (([] ++ pinsAt fp s7.heap) ++ pinsAt fp1 s14.heap) σ15 H' s' → Nx1 H' → ∃ m, m < k ∧ ∃ j H', Inv (X.blk s3 (upd H1 D e0) scope (compEnvC scope cl C X.env) fp) ([] ++ pinsAt fp s7.heap) (wipe σ8 vs1) H' s' ∧ tn1 j s'.heap ∧ (∀ b ∈ fp1, H' b = none) ∧ W1 j m H' := fun {s' H'} I' nx => by
            obtain ⟨m', hm, w'⟩ := hNx1 H' nx
            have pin' : ∀ b ∈ fp1, ∀ o, s14.heap.get? b = some o → s'.heap.get? b = some o ∧ H' b = none := fun b hb o e =>
              let z := I'.pin (b, o) (List.mem_append_right _ (List.mem_append_right _ (mem_pinsAt hb e)))
              ⟨z.1, z.2.1⟩
            refine ⟨m', hm, j + 1, H', I'.unpinned.weak (by rw [← hw15, wipe_length]) (fun j v e => by rw [← hw15] at e; exact (wipe_some e).1), T1.keep _ _ _ st14 fun b hb o e => (pin' b hb o e).1, fun b hb => ?_, w'⟩
            obtain ⟨o, e, _⟩ := T1.obj _ _ st14 b hb
            exact (pin' b hb o e).2
          cases b1 with
          | false =>
            simp only [Bool.false_eq_true, if_false] at q16 ⊢
            exact fin1 I16 q16
          | true =>
            simp only [if_true] at q16 ⊢
            refine thnF ((hk _ _ _ _ _).run _ s16 σ15 H16 _ I16 q16) fun z s17 ⟨yk, H17, I17, r17, q17⟩ => ?_
            refine thnF ((he _ _ _ _ _).run _ s17 σ15 H17 _ I17 q17) fun z2 s18 ⟨yv, H18, I18, r18, H19, gp, nx⟩ => ?_
            exact dictSetP (X := X.blk s3 (upd H1 D e0) scope (compEnvC scope cl C X.env) fp) hu I18 gp r17 r18 fun s19 I19 => fin1 I19 nx
      exact startIn loop1 (T1.self X.A 0 _ _ _ st11 loop1)
end
end Z

/-! Lay12: dict comprehensions on trees. -/
namespace Z
open PySem L2

def insK : List Key × List T → List (T × T) → Option (List Key × List T)
  | a, [] => some a
  | (ks, vs), (k, v) :: r => match keyOf k with
    | some k => insK (putKs ks k, putV ks vs k v) r
    | none => none
def insT : List (List Key) × List T → List (T × T) → Option (List (List Key) × List T)
  | a, [] => some a
  | (ks, vs), (k, v) :: r => match keysOf k with
    | some k => insT (putKs ks k, putV ks vs k v) r
    | none => none
/-- the dict of pairs -/
def mkD (tk : Bool) (ps : List (T × T)) : Option O := if tk then (insT ([], []) ps).map fun a => .dt false a.1 a.2 else (insK ([], []) ps).map fun a => .dk false a.1 a.2
def dicR (tk : Bool) (ps : List (T × T)) : M T := if ps.length ≤ lim then (match mkD tk ps with
  | some o => own o
  | none => bot) else bot
def dcT (g : Tg) (tt : DB) (dk dv : D) (sl : Sl) (t : T) : M (List (T × T)) := match setTg g t sl with
  | none => bot
  | some sl' => bnd (tt sl') fun k => if k then bnd (dk sl') fun x => bnd (dv sl') fun y => ret [(x, y)] else ret []
def dDc (tk : Bool) (vs : List Nat) (d : DR) (g : Tg) (tt : DB) (dk dv : D) : D := fun sl => bnd (d sl) fun s => bnd (nox (lcS (dcT g tt dk dv (wipS sl vs)) s)) (dicR tk)
def dcT2 (g : Tg) (tt : DB) (d1 : DR) (g1 : Tg) (tt1 : DB) (dk dv : D) (vs1 : List Nat) (sl : Sl) (t : T) : M (List (T × T)) := match setTg g t sl with
  | none => bot
  | some sl' => bnd (tt sl') fun k => if k then bnd (d1 sl') fun s1 => lcS (dcT g1 tt1 dk dv (wipS sl' vs1)) s1 else ret []
def dDc2 (tk : Bool) (vs vs1 : List Nat) (d : DR) (g : Tg) (tt : DB) (d1 : DR) (g1 : Tg) (tt1 : DB) (dk dv : D) : D := fun sl => bnd (d sl) fun s => bnd (nox (lcS (dcT2 g tt d1 g1 tt1 dk dv vs1 (wipS sl vs)) s)) (dicR tk)
theorem insK_app : ∀ (ps rs : List (T × T)) (a : List Key × List T), insK a (ps ++ rs) = (insK a ps).bind fun b => insK b rs
  | [], rs, a => rfl
  | (k, v) :: ps, rs, (ks, vs) => by
    simp only [List.cons_append, insK]
    cases keyOf k with
    | none => rfl
    | some ke => exact insK_app ps rs _
theorem insT_app : ∀ (ps rs : List (T × T)) (a : List (List Key) × List T), insT a (ps ++ rs) = (insT a ps).bind fun b => insT b rs
  | [], rs, a => rfl
  | (k, v) :: ps, rs, (ks, vs) => by
    simp only [List.cons_append, insT]
    cases keysOf k with
    | none => rfl
    | some ke => exact insT_app ps rs _
theorem putKs_len {κ : Type} [DecidableEq κ] (ks : List κ) (j : κ) : (putKs ks j).length ≤ ks.length + 1 := by
  unfold putKs
  split <;> simp
theorem insK_len : ∀ (ps : List (T × T)) (a b : List Key × List T), insK a ps = some b → b.1.length ≤ a.1.length + ps.length
  | [], a, b, e => by cases e; simp
  | (k, v) :: ps, (ks, vs), b, e => by
    simp only [insK] at e
    cases q : keyOf k with
    | none => rw [q] at e; cases e
    | some ke =>
      rw [q] at e
      have := insK_len ps _ b e
      have := putKs_len ks ke
      simp only [List.length_cons] at *
      omega
theorem insT_len : ∀ (ps : List (T × T)) (a b : List (List Key) × List T), insT a ps = some b → b.1.length ≤ a.1.length + ps.length
  | [], a, b, e => by cases e; simp
  | (k, v) :: ps, (ks, vs), b, e => by
    simp only [insT] at e
    cases q : keysOf k with
    | none => rw [q] at e; cases e
    | some ke =>
      rw [q] at e
      have := insT_len ps _ b e
      have := putKs_len ks ke
      simp only [List.length_cons] at *
      omega

/-- within a comprehension: L the object that grows, o as it stands -/
structure LcG (K : PySem.W.Frag) (φ1 : Ow) (H1 : Hp) (L : Addr) (φ : Ow) (H : Hp) (h : Hv) (o : HO) : Prop where
  hid : φ.hid = L :: φ1.hid
  no : ¬ φ1.has L
  d1 : H1 L = none
  ge : Ge φ1 H1 φ H
  hk : ∀ a, a ∈ φ1.hid → H a = H1 a
  rh : RelH K φ H h
  hD : H L = some o
section
variable {K : PySem.W.Frag} {mg : Str → Option Value} {E : XK} {φ1 φ φ' : Ow} {H1 H H' : Hp} {L : Addr} {h h' h'' h1 : Hv} {o o' : HO} {Q : VK}
theorem LcG.start (rh : RelH K φ1 H1 h) (hD : H1 L = none) (ht : ∀ vs, o ≠ .tup vs) (hp : Plain o) : LcG K φ1 H1 L (φ1.hide L) (upd H1 L o) h o := by
  have no := rh.free hD
  have ex : Ex (Fz φ1 H1) (Fz (φ1.hide L) (upd H1 L o)) := fun a u e => by
    obtain ⟨h1, h2⟩ := Fz.of e
    have ne : a ≠ L := ne_of_none h2 hD
    refine Fz.mk (fun z => ?_) (by rw [upd_ne ne]; exact h2) (Fz.nt e)
    rcases z with z | z
    · exact h1 (.inl z)
    · rcases List.mem_cons.mp z with z | z
      · exact ne z
      · exact h1 (.inr z)
  have hne : ∀ a, a ∈ φ1.hid → a ≠ L := fun a m z => no (.inr (by rw [← z]; exact m))
  refine ⟨rfl, no, hD, ⟨⟨[], by simp [Ow.hide]⟩, ex, fun a od u e => by rw [upd_ne (ne_of_none e hD)]; exact e⟩, fun a m => upd_ne (hne a m), ?_, upd_same⟩
  refine ⟨rh.nd, fun a m z => ?_, fun a m => ?_, rh.len, fun n a ob e1 e2 => ?_, tabs_upd rh.tab (.inl hD)⟩
  · rcases List.mem_cons.mp z with z | z
    · exact no (.inl (by rw [← z]; exact m))
    · exact rh.dis a m z
  · rcases List.mem_cons.mp m with z | m
    · rw [z]; exact ⟨_, upd_same, ht, hp⟩
    · obtain ⟨u, q, z⟩ := rh.hd a m
      exact ⟨u, by rw [upd_ne (hne a m)]; exact q, z⟩
  · obtain ⟨ho, q, z⟩ := rh.ob n a ob e1 e2
    exact ⟨ho, by rw [upd_ne (ne_of_none q hD)]; exact q, RpO.mono (φ := φ1) (φ' := φ1.hide L) (fun _ _ z => z) ex z⟩
theorem LcG.le (w : LcG K φ1 H1 L φ H h o) (l : Le φ H φ' H') (rh : RelH K φ' H' h') : LcG K φ1 H1 L φ' H' h' o := by
  have md : L ∈ φ.hid := by rw [w.hid]; exact List.mem_cons_self ..
  exact ⟨l.hid.trans w.hid, w.no, w.d1, w.ge.trans l.ge, fun a m => (l.hk a (by rw [w.hid]; exact List.mem_cons_of_mem _ m)).trans (w.hk a m), rh, (l.hk L md).trans w.hD⟩
theorem LcG.chg (w : LcG K φ1 H1 L φ H h o) (nf : ∀ od u, o ≠ .frz od u) (ht : ∀ vs, o' ≠ .tup vs) (hp0 : Plain o) (hp : Plain o') : LcG K φ1 H1 L φ (upd H L o') h o' ∧ Ge φ H φ (upd H L o') := by
  have md : L ∈ φ.hid := by rw [w.hid]; exact List.mem_cons_self ..
  have ex : Ex (Fz φ H) (Fz φ (upd H L o')) := fun a u e => by
    obtain ⟨h1, h2⟩ := Fz.of e
    have ne : a ≠ L := fun z => h1 (.inr (by rw [z]; exact md))
    exact Fz.mk h1 (by rw [upd_ne ne]; exact h2) (Fz.nt e)
  have ge : Ge φ H φ (upd H L o') := ⟨⟨[], by simp⟩, ex, fun a od u e => by
    have ne : a ≠ L := fun z => by
      rw [z, w.hD] at e
      exact nf od u (Option.some.inj e)
    rw [upd_ne ne]; exact e⟩
  refine ⟨⟨w.hid, w.no, w.d1, w.ge.trans ge, fun a m => ?_, ?_, upd_same⟩, ge⟩
  · have ne : a ≠ L := fun z => w.no (.inr (by rw [← z]; exact m))
    rw [upd_ne ne]; exact w.hk a m
  · refine ⟨w.rh.nd, w.rh.dis, fun a m => ?_, w.rh.len, fun n a ob e1 e2 => ?_, tabs_upd w.rh.tab (.inr ⟨_, w.hD, hp0⟩)⟩
    · by_cases ha : a = L
      · subst ha
        exact ⟨_, upd_same, ht, hp⟩
      · obtain ⟨u, q, z⟩ := w.rh.hd a m
        exact ⟨u, by rw [upd_ne ha]; exact q, z⟩
    · obtain ⟨ho, q, z⟩ := w.rh.ob n a ob e1 e2
      have ne : a ≠ L := fun z => w.rh.dis a (List.mem_of_getElem? e1) (by rw [z]; exact md)
      exact ⟨ho, by rw [upd_ne ne]; exact q, z.mono (fun _ _ z => z) ex⟩
theorem LcG.fin {ob : O} (w : LcG K φ1 H1 L φ H h o) (ro : RpO K φ (Fz φ H) ob o) (f : Fin K mg (wV K Q) E φ1 H1 (Z.own ob h)) : Q (.ref L) H := by
  have md : L ∈ φ.hid := by rw [w.hid]; exact List.mem_cons_self ..
  have nd : L ∉ φ.own := fun z => w.rh.dis L z md
  have ndh : L ∉ φ1.hid := fun z => w.no (.inr z)
  have hd1 : ∀ a, a ∈ φ1.hid → ∃ o, H a = some o ∧ (∀ vs, o ≠ .tup vs) ∧ Plain o := fun a m => w.rh.hd a (by rw [w.hid]; exact List.mem_cons_of_mem _ m)
  have dis1 : ∀ a, a ∈ φ.own → a ∉ φ1.hid := fun a m z => w.rh.dis a m (by rw [w.hid]; exact List.mem_cons_of_mem _ z)
  have ex2 : Ex (Fz φ H) (Fz ⟨φ.own ++ [L], φ1.hid⟩ H) := fun a o e => by
    obtain ⟨h1, h2⟩ := Fz.of e
    refine Fz.mk (fun z => h1 ?_) h2 (Fz.nt e)
    rcases z with z | z
    · rcases List.mem_append.mp z with z | z
      · exact .inl z
      · have : a = L := by simpa using z
        rw [this]; exact .inr md
    · exact .inr (by rw [w.hid]; exact List.mem_cons_of_mem _ z)
  have pre : ∀ (n : Nat) a, φ.own[n]? = some a → (φ.own ++ [L])[n]? = some a := fun n a e => by rw [List.getElem?_append_left (List.getElem?_eq_some_iff.mp e).1]; exact e
  unfold Z.own at f
  refine f ⟨φ.own ++ [L], φ1.hid⟩ H ⟨?_, rfl, ?_, w.ge.fz, w.hk⟩ ⟨?_, fun a m z => ?_, hd1, ?_, fun n a ob e1 e2 => ?_, w.rh.tab⟩ _ ⟨L, ?_, rfl⟩
  · obtain ⟨ψ, p⟩ := w.ge.pre
    exact ⟨ψ ++ [L], by show φ.own ++ [L] = _; rw [p, List.append_assoc]⟩
  · exact w.ge.ex.trans ex2
  · rw [List.nodup_append]
    refine ⟨w.rh.nd, by simp, fun x hx y hy z => ?_⟩
    simp at hy
    subst hy z
    exact nd hx
  · rcases List.mem_append.mp m with m | m
    · exact dis1 a m z
    · have : a = L := by simpa using m
      rw [this] at z; exact ndh z
  · simp [w.rh.len]
  · have e1 : (φ.own ++ [L])[n]? = some a := e1
    by_cases hm : n < φ.own.length
    · rw [List.getElem?_append_left hm] at e1
      rw [List.getElem?_append_left (by rw [← w.rh.len]; exact hm)] at e2
      obtain ⟨ho, q, z⟩ := w.rh.ob n a ob e1 e2
      exact ⟨ho, q, z.mono pre ex2⟩
    · have hm2 : n = φ.own.length := by
        have := (List.getElem?_eq_some_iff.mp e1).1
        simp at this; omega
      subst hm2
      rw [List.getElem?_append_right (Nat.le_refl _)] at e1
      rw [List.getElem?_append_right (by rw [w.rh.len]; exact Nat.le_refl _)] at e2
      simp [w.rh.len] at e1 e2
      subst e1 e2
      exact ⟨_, w.hD, ro.mono pre ex2⟩
  · show (φ.own ++ [L])[h.length]? = some L
    rw [← w.rh.len]; simp
/-- what the growing dict is of, behind the pairs ps -/
def DcC (K : PySem.W.Frag) (tk : Bool) (φ : Ow) (H : Hp) (ps : List (T × T)) (o : HO) : Prop := match tk with
  | false => ∃ kvs a, o = .dK kvs ∧ insK ([], []) ps = some a ∧ kvs.map (·.1) = a.1 ∧ RpL K φ (Fz φ H) a.2 (kvs.map (·.2))
  | true => ∃ kvs a, o = .dT kvs ∧ insT ([], []) ps = some a ∧ kvs.map (·.1) = a.1 ∧ RpL K φ (Fz φ H) a.2 (kvs.map (·.2))
theorem DcC.ge {tk : Bool} {ps : List (T × T)} (c : DcC K tk φ H ps o) (g : Ge φ H φ' H') : DcC K tk φ' H' ps o := by
  cases tk with
  | false => obtain ⟨kvs, a, e1, e2, e3, r⟩ := c; exact ⟨kvs, a, e1, e2, e3, r.ge g⟩
  | true => obtain ⟨kvs, a, e1, e2, e3, r⟩ := c; exact ⟨kvs, a, e1, e2, e3, r.ge g⟩
theorem DcC.mk {tk : Bool} {ps : List (T × T)} {ob : O} (c : DcC K tk φ H ps o) (e : mkD tk ps = some ob) : RpO K φ (Fz φ H) ob o := by
  cases tk with
  | false =>
    obtain ⟨kvs, a, rfl, e2, e3, r⟩ := c
    simp only [mkD, Bool.false_eq_true, if_false, e2, Option.map_some, Option.some.injEq] at e
    subst e
    exact ⟨kvs, rfl, e3, r⟩
  | true =>
    obtain ⟨kvs, a, rfl, e2, e3, r⟩ := c
    simp only [mkD, if_true, e2, Option.map_some, Option.some.injEq] at e
    subst e
    exact ⟨kvs, rfl, e3, r⟩
/-- one pair more -/
theorem DcC.put {tk : Bool} {ps rs : List (T × T)} {k x : T} {y z : V} {ob : O} (w : LcG K φ1 H1 L φ H h o) (c : DcC K tk φ H ps o) (tot : mkD tk (ps ++ (k, x) :: rs) = some ob) (hl : ps.length < lim) (rk : Rp K φ (Fz φ H) k y) (rx : Rp K φ (Fz φ H) x z) :
    ∃ o' H', DPut H L y z H' ∧ LcG K φ1 H1 L φ H' h o' ∧ DcC K tk φ H' (ps ++ [(k, x)]) o' ∧ Ge φ H φ H' := by
  have hlim := lim_le
  cases tk with
  | false =>
    obtain ⟨kvs, a, rfl, e2, e3, r⟩ := c
    simp only [mkD, Bool.false_eq_true, if_false, insK_app, e2, Option.bind_some] at tot
    obtain ⟨b, e4, _⟩ := Option.map_eq_some_iff.mp tot
    simp only [insK] at e4
    cases q : keyOf k with
    | none => rw [q] at e4; cases e4
    | some ke =>
      have hz : kvs.length < sizeLine := by
        have := insK_len ps _ a e2
        rw [← e3, List.length_map] at this
        simp at this
        omega
      obtain ⟨p1, p2⟩ := rpPut ke rx e3 r
      obtain ⟨w', ge⟩ := w.chg (o' := .dK (putK kvs ke z)) (fun _ _ z => nomatch z) (fun _ z => nomatch z) True.intro True.intro
      refine ⟨_, _, .inl ⟨kvs, ke, w.hD, keyOf_rp q rk, hz, rfl⟩, w', ⟨_, (putKs a.1 ke, putV a.1 a.2 ke x), rfl, ?_, p1, p2.ge ge⟩, ge⟩
      rw [insK_app, e2]
      simp [insK, q]
  | true =>
    obtain ⟨kvs, a, rfl, e2, e3, r⟩ := c
    simp only [mkD, if_true, insT_app, e2, Option.bind_some] at tot
    obtain ⟨b, e4, _⟩ := Option.map_eq_some_iff.mp tot
    simp only [insT] at e4
    cases q : keysOf k with
    | none => rw [q] at e4; cases e4
    | some ke =>
      have hz : kvs.length < sizeLine := by
        have := insT_len ps _ a e2
        rw [← e3, List.length_map] at this
        simp at this
        omega
      obtain ⟨p1, p2⟩ := rpPut ke rx e3 r
      obtain ⟨w', ge⟩ := w.chg (o' := .dT (putK kvs ke z)) (fun _ _ z => nomatch z) (fun _ z => nomatch z) True.intro True.intro
      cases k with
      | tup ys =>
        obtain ⟨b', us, rfl, hb, hu⟩ := rk
        have hu := keysL_rp (show keysL ys = some ke from q) hu
        subst hu
        refine ⟨_, _, .inr ⟨kvs, ke, b', w.hD, rfl, (Fz.of hb).2, hz, rfl⟩, w', ⟨_, (putKs a.1 ke, putV a.1 a.2 ke x), rfl, ?_, p1, p2.ge ge⟩, ge⟩
        rw [insT_app, e2]
        simp [insT, q]
      | _ => cases q
def e0 (tk : Bool) : HO := if tk then .dT [] else .dK []
theorem e0_or (tk : Bool) : e0 tk = .dK [] ∨ e0 tk = .dT [] := by cases tk <;> simp [e0]
theorem e0_no (tk : Bool) : ∀ vs, e0 tk ≠ .tup vs := fun vs z => by cases tk <;> cases z
theorem DcC.nil (tk : Bool) : DcC K tk φ H [] (e0 tk) := by
  cases tk with
  | false => exact ⟨[], ([], []), rfl, rfl, rfl, rfl⟩
  | true => exact ⟨[], ([], []), rfl, rfl, rfl, rfl⟩
end

section
variable {K : PySem.W.Frag} {mg : Str → Option Value} {E : XK} {φ1 φ φ' : Ow} {H1 H H' : Hp} {L : Addr} {h h' h'' h1 : Hv} {o o' : HO} {Q : VK} {tk : Bool} {ps r : List (T × T)} {ob : O} {J : It} {s : Sr} {sl : Sl} {σ : L2.St} {vs vs1 : List Nat} {g g1 : Tg} {tt tt1 : DB} {dk dv : D} {d1 : DR}
theorem dcT_ok {t : T} {ys : List (T × T)} (e : dcT g tt dk dv sl t h = some (.ok ys, h')) : ∃ sl', setTg g t sl = some sl' ∧ ∃ k h4, tt sl' h = some (.ok k, h4) ∧
    ((k = false ∧ ys = [] ∧ h' = h4) ∨ (k = true ∧ ∃ x h5 y, dk sl' h4 = some (.ok x, h5) ∧ dv sl' h5 = some (.ok y, h') ∧ ys = [(x, y)])) := by
  unfold dcT at e
  cases q : setTg g t sl with
  | none => rw [q] at e; cases e
  | some sl' =>
    rw [q] at e
    obtain ⟨k, h4, e1, e2⟩ := bnd_ok e
    refine ⟨sl', rfl, k, h4, e1, ?_⟩
    cases k with
    | false =>
      obtain ⟨q1, q2⟩ := ret_ok e2
      exact .inl ⟨rfl, q1, q2⟩
    | true =>
      obtain ⟨x, h5, e3, e4⟩ := bnd_ok e2
      obtain ⟨y, h6, e5, e6⟩ := bnd_ok e4
      obtain ⟨q1, q2⟩ := ret_ok e6
      subst q2
      exact .inr ⟨rfl, x, h5, y, e3, e5, q1⟩
theorem dcT2_ok {t : T} {ys : List (T × T)} (e : dcT2 g tt d1 g1 tt1 dk dv vs1 sl t h = some (.ok ys, h')) : ∃ sl', setTg g t sl = some sl' ∧ ∃ k h4, tt sl' h = some (.ok k, h4) ∧
    ((k = false ∧ ys = [] ∧ h' = h4) ∨ (k = true ∧ ∃ s1 h5, d1 sl' h4 = some (.ok s1, h5) ∧ lcS (dcT g1 tt1 dk dv (wipS sl' vs1)) s1 h5 = some (.ok ys, h'))) := by
  unfold dcT2 at e
  cases q : setTg g t sl with
  | none => rw [q] at e; cases e
  | some sl' =>
    rw [q] at e
    obtain ⟨k, h4, e1, e2⟩ := bnd_ok e
    refine ⟨sl', rfl, k, h4, e1, ?_⟩
    cases k with
    | false =>
      obtain ⟨q1, q2⟩ := ret_ok e2
      exact .inl ⟨rfl, q1, q2⟩
    | true =>
      obtain ⟨y, h5, e3, e4⟩ := bnd_ok e2
      exact .inr ⟨rfl, y, h5, e3, e4⟩
theorem dc_loop {f : Nat} {P : Hp → Prop} {φs : Ow} {Hs : Hp} {rs : List (T × T)} (w : LcG K φ1 H1 L φ H h o) (c : DcC K tk φ H ps o) (rel : RelS K φ H sl σ) (ok : SrOk K φs Hs J s) (gs : Ge φs Hs φ H) (hv : ∀ i ∈ idTg g, i ∈ vs) (run : lcIx s (dcT g tt dk dv (wipS sl vs)) f 0 h = some (.ok r, h''))
    (tot : mkD tk (ps ++ r ++ rs) = some ob) (hb : (ps ++ r ++ rs).length ≤ lim) (fin : ∀ φ' H' o', LcG K φ1 H1 L φ' H' h'' o' → DcC K tk φ' H' (ps ++ r) o' → Ge φ H φ' H' → P H') :
    ∃ W : Nat → Nat → Hp → Prop, (∃ m, W 0 m H) ∧ ∀ i m H, W i m H → (J.stop i H ∧ P H) ∨ (J.go i H ∧ ∃ Nx : Hp → Prop, (∀ H', Nx H' → ∃ m', m' < m ∧ W (i + 1) m' H') ∧ ∀ x H', J.yld i H x H' →
      tGo K g x (L2.wipe σ vs) H' fun σ2 H2 => L2.wipe σ2 vs = L2.wipe σ vs ∧ tT K mg E tt σ2 H2 fun b H3 => if b = true then tD K mg E dk σ2 H3 fun y H4 => tD K mg E dv σ2 H4 fun z H5 => ∃ H6, DPut H5 L y z H6 ∧ Nx H6 else Nx H3) := by
  refine ⟨fun i m H' => ∃ φ' h' o' ps' r', LcG K φ1 H1 L φ' H' h' o' ∧ DcC K tk φ' H' ps' o' ∧ Ge φ H φ' H' ∧ lcIx s (dcT g tt dk dv (wipS sl vs)) m i h' = some (.ok r', h'') ∧ ps' ++ r' = ps ++ r, ⟨f, φ, h, o, ps, r, w, c, (Le.refl _ _).ge, run, rfl⟩, ?_⟩
  rintro i m H2 ⟨φ2, h2, o2, ps2, r2, w2, c2, ge2, run2, tot2⟩
  cases m with
  | zero => cases run2
  | succ m =>
    simp only [lcIx] at run2
    cases e : srAt s h2 with
    | none => rw [e] at run2; cases run2
    | some xs =>
      obtain ⟨k1, k2⟩ := ok φ2 H2 h2 xs (gs.trans ge2) w2.rh e i
      simp only [e] at run2
      cases e2 : xs[i]? with
      | none =>
        simp only [e2] at run2
        have hh : h2 = h'' := by injection run2 with z; exact (Prod.mk.inj z).2
        have hr : r2 = [] := by injection run2 with z; have := (Prod.mk.inj z).1; injection this with z; exact z.symm
        subst hh hr
        rw [List.append_nil] at tot2
        subst tot2
        exact .inl ⟨k1 (List.getElem?_eq_none_iff.mp e2), fin φ2 H2 o2 w2 c2 ge2⟩
      | some t =>
        obtain ⟨g1, g2⟩ := k2 t e2
        simp only [e2] at run2
        obtain ⟨ys, h5, run3, run4⟩ := bnd_ok run2
        obtain ⟨r5, h6, run5, run6⟩ := bnd_ok run4
        obtain ⟨q1, q2⟩ := ret_ok run6
        subst q1 q2
        obtain ⟨sl', e3, k, h4, e4, alt⟩ := dcT_ok run3
        refine .inr ⟨g1, fun H' => ∃ φ' h' o' ps' r', LcG K φ1 H1 L φ' H' h' o' ∧ DcC K tk φ' H' ps' o' ∧ Ge φ H φ' H' ∧ lcIx s (dcT g tt dk dv (wipS sl vs)) m (i + 1) h' = some (.ok r', h'') ∧ ps' ++ r' = ps ++ r, fun H' w => ⟨m, Nat.lt_succ_self _, w⟩, fun x H3 y => ?_⟩
        obtain ⟨l3, rh3, rx⟩ := g2 x H3 y
        have w3 := w2.le l3 rh3
        have ge3 := ge2.trans l3.ge
        refine ⟨φ2, wipS sl vs, h2, t, sl', ⟨(rel.ge ge3).wipe vs, rh3⟩, rx, e3, fun σ2 a4 but => ⟨(wipe_but but hv).trans (wipe_wipe σ vs), φ2, sl', h2, a4, ?_⟩⟩
        rw [e4]
        intro φ4 H4 l4 rh4
        have w4 := w3.le l4 rh4
        have ge4 := ge3.trans l4.ge
        rcases alt with ⟨rfl, rfl, rfl⟩ | ⟨rfl, xk, h5', xv, e5, e6, rfl⟩
        · simp only [wB, Bool.false_eq_true, if_false]
          exact ⟨φ4, _, o2, ps2, r5, w4, c2.ge (l3.trans l4).ge, ge4, run5, tot2⟩
        · simp only [wB, if_true]
          refine ⟨φ4, sl', h4, a4.le l4 rh4, ?_⟩
          rw [e5]
          intro φ5 H5 l5 rh5 v rv
          have w5 := w4.le l5 rh5
          refine ⟨φ5, sl', _, (a4.le l4 rh4).le l5 rh5, ?_⟩
          rw [e6]
          intro φ6 H6 l6 rh6 z rz
          have w6 := w5.le l6 rh6
          have c6 := c2.ge ((l3.trans l4).trans (l5.trans l6)).ge
          have ge6 := ge4.trans (l5.trans l6).ge
          have tot6 : mkD tk (ps2 ++ (xk, xv) :: (r5 ++ rs)) = some ob := by
            rw [← tot, ← tot2]
            simp
          have hb6 : ps2.length < lim := by
            rw [← tot2] at hb
            simp at hb
            omega
          obtain ⟨o', H7, gp, w7, c7, ge7⟩ := DcC.put w6 c6 tot6 hb6 (rv.le l6) rz
          exact ⟨H7, gp, φ6, _, o', ps2 ++ [(xk, xv)], r5, w7, c7, ge6.trans ge7, run5, by rw [← tot2]; simp⟩
theorem dc_loop2 {f : Nat} {P : Hp → Prop} {φs : Ow} {Hs : Hp} (w : LcG K φ1 H1 L φ H h o) (c : DcC K tk φ H ps o) (rel : RelS K φ H sl σ) (ok : SrOk K φs Hs J s) (gs : Ge φs Hs φ H) (hv : ∀ i ∈ idTg g, i ∈ vs) (hv1 : ∀ i ∈ idTg g1, i ∈ vs1) (run : lcIx s (dcT2 g tt d1 g1 tt1 dk dv vs1 (wipS sl vs)) f 0 h = some (.ok r, h''))
    (tot : mkD tk (ps ++ r) = some ob) (hb : (ps ++ r).length ≤ lim) (fin : ∀ φ' H' o', LcG K φ1 H1 L φ' H' h'' o' → DcC K tk φ' H' (ps ++ r) o' → P H') :
    ∃ W : Nat → Nat → Hp → Prop, (∃ m, W 0 m H) ∧ ∀ i m H, W i m H → (J.stop i H ∧ P H) ∨ (J.go i H ∧ ∃ Nx : Hp → Prop, (∀ H', Nx H' → ∃ m', m' < m ∧ W (i + 1) m' H') ∧ ∀ x H', J.yld i H x H' →
      tGo K g x (L2.wipe σ vs) H' fun σ2 H2 => L2.wipe σ2 vs = L2.wipe σ vs ∧ tT K mg E tt σ2 H2 fun b H3 => if b = true then tI K mg E d1 σ2 H3 fun J1 H4 => ∃ W1 : Nat → Nat → Hp → Prop, (∃ m, W1 0 m H4) ∧ ∀ j k H, W1 j k H →
        (J1.stop j H ∧ Nx H) ∨ (J1.go j H ∧ ∃ Nx1 : Hp → Prop, (∀ H', Nx1 H' → ∃ k', k' < k ∧ W1 (j + 1) k' H') ∧ ∀ x H', J1.yld j H x H' → tGo K g1 x (L2.wipe σ2 vs1) H' fun σ3 H5 => L2.wipe σ3 vs1 = L2.wipe σ2 vs1 ∧ tT K mg E tt1 σ3 H5 fun b H6 =>
          if b = true then tD K mg E dk σ3 H6 fun y H7 => tD K mg E dv σ3 H7 fun z H8 => ∃ H9, DPut H8 L y z H9 ∧ Nx1 H9 else Nx1 H6)
      else Nx H3) := by
  refine ⟨fun i m H' => ∃ φ' h' o' ps' r', LcG K φ1 H1 L φ' H' h' o' ∧ DcC K tk φ' H' ps' o' ∧ Ge φ H φ' H' ∧ lcIx s (dcT2 g tt d1 g1 tt1 dk dv vs1 (wipS sl vs)) m i h' = some (.ok r', h'') ∧ ps' ++ r' = ps ++ r, ⟨f, φ, h, o, ps, r, w, c, (Le.refl _ _).ge, run, rfl⟩, ?_⟩
  rintro i m H2 ⟨φ2, h2, o2, ps2, r2, w2, c2, ge2, run2, tot2⟩
  cases m with
  | zero => cases run2
  | succ m =>
    simp only [lcIx] at run2
    cases e : srAt s h2 with
    | none => rw [e] at run2; cases run2
    | some xs =>
      obtain ⟨k1, k2⟩ := ok φ2 H2 h2 xs (gs.trans ge2) w2.rh e i
      simp only [e] at run2
      cases e2 : xs[i]? with
      | none =>
        simp only [e2] at run2
        have hh : h2 = h'' := by injection run2 with z; exact (Prod.mk.inj z).2
        have hr : r2 = [] := by injection run2 with z; have := (Prod.mk.inj z).1; injection this with z; exact z.symm
        subst hh hr
        rw [List.append_nil] at tot2
        subst tot2
        exact .inl ⟨k1 (List.getElem?_eq_none_iff.mp e2), fin φ2 H2 o2 w2 c2⟩
      | some t =>
        obtain ⟨g1', g2⟩ := k2 t e2
        simp only [e2] at run2
        obtain ⟨ys, h5, run3, run4⟩ := bnd_ok run2
        obtain ⟨r5, h6, run5, run6⟩ := bnd_ok run4
        obtain ⟨q1, q2⟩ := ret_ok run6
        subst q1 q2
        obtain ⟨sl', e3, k, h4, e4, alt⟩ := dcT2_ok run3
        refine .inr ⟨g1', fun H' => ∃ φ' h' o' ps' r', LcG K φ1 H1 L φ' H' h' o' ∧ DcC K tk φ' H' ps' o' ∧ Ge φ H φ' H' ∧ lcIx s (dcT2 g tt d1 g1 tt1 dk dv vs1 (wipS sl vs)) m (i + 1) h' = some (.ok r', h'') ∧ ps' ++ r' = ps ++ r, fun H' w => ⟨m, Nat.lt_succ_self _, w⟩, fun x H3 y => ?_⟩
        obtain ⟨l3, rh3, rx⟩ := g2 x H3 y
        have w3 := w2.le l3 rh3
        have ge3 := ge2.trans l3.ge
        refine ⟨φ2, wipS sl vs, h2, t, sl', ⟨(rel.ge ge3).wipe vs, rh3⟩, rx, e3, fun σ2 a4 but => ⟨(wipe_but but hv).trans (wipe_wipe σ vs), φ2, sl', h2, a4, ?_⟩⟩
        rw [e4]
        intro φ4 H4 l4 rh4
        have w4 := w3.le l4 rh4
        have ge4 := ge3.trans l4.ge
        rcases alt with ⟨rfl, rfl, rfl⟩ | ⟨rfl, s1, h7, e5, e6⟩
        · simp only [wB, Bool.false_eq_true, if_false]
          exact ⟨φ4, _, o2, ps2, r5, w4, c2.ge (l3.trans l4).ge, ge4, run5, tot2⟩
        · simp only [wB, if_true]
          refine ⟨φ4, sl', h4, a4.le l4 rh4, ?_⟩
          rw [e5]
          intro φ5 H5 l5 rh5 J1 ok1
          have w5 := w4.le l5 rh5
          have ge5 := ge4.trans l5.ge
          obtain ⟨f1, hf1⟩ := lcS_ix (dcT g1 tt1 dk dv (wipS sl' vs1)) s1
          have tot5 : ps2 ++ ys ++ r5 = ps ++ r := by rw [← tot2, List.append_assoc]
          exact dc_loop (rs := r5) w5 (c2.ge ((l3.trans l4).trans l5).ge) (a4.s.le (l4.trans l5)) ok1 (Le.refl _ _).ge hv1 (by rw [hf1]; exact e6) (by rw [tot5]; exact tot) (by rw [tot5]; exact hb)
            fun φ6 H6 o6 w6 c6 ge6 => ⟨φ6, _, o6, ps2 ++ ys, r5, w6, c6, ge5.trans ge6, run5, tot5⟩
theorem dicR_some {f : Fin K mg (wV K Q) E φ H (dicR tk ps h)} : ∃ ob, mkD tk ps = some ob ∧ ps.length ≤ lim ∧ Fin K mg (wV K Q) E φ H (own ob h) := by
  unfold dicR at f
  split at f
  · cases q : mkD tk ps with
    | none => rw [q] at f; exact f.elim
    | some ob => rw [q] at f; exact ⟨ob, rfl, by assumption, f⟩
  · exact f.elim
theorem dc_imp {d : DR} (hv : ∀ i ∈ idTg g, i ∈ vs) (σ : L2.St) (H : Hp) (Q : VK) (w : tD K mg E (dDc tk vs d g tt dk dv) σ H Q) : tDcP (e0 tk) (tI K mg E d) (tGo K g) (tT K mg E tt) (tD K mg E dk) (tD K mg E dv) vs σ H Q := by
  obtain ⟨φ, sl, h, at_, fin⟩ := w
  refine ⟨φ, sl, h, at_, fin.bnd.imp fun φ1 H1 s ⟨h1, rh1, l1, f1⟩ J ok L hL => ?_⟩
  have w0 := LcG.start (o := e0 tk) rh1 hL (e0_no tk) (by cases tk <;> exact True.intro)
  unfold nox at f1
  cases q : lcS (dcT g tt dk dv (wipS sl vs)) s h1 with
  | none => simp only [bnd, q] at f1; exact f1.elim
  | some p =>
    obtain ⟨r, h''⟩ := p
    cases r with
    | exc c => simp only [bnd, q] at f1; exact f1.elim
    | ok r =>
      simp only [bnd, q] at f1
      obtain ⟨f, hf⟩ := lcS_ix (dcT g tt dk dv (wipS sl vs)) s
      obtain ⟨ob, m1, m2, m3⟩ := dicR_some (f := f1)
      exact dc_loop (ps := []) (rs := []) w0 (DcC.nil tk) ((at_.s.le l1).ge w0.ge) ok w0.ge hv (by rw [hf]; exact q) (by simpa using m1) (by simpa using m2) fun φ' H' o' w' c' _ => w'.fin (c'.mk (by simpa using m1)) m3
theorem dc_imp2 {d : DR} (hv : ∀ i ∈ idTg g, i ∈ vs) (hv1 : ∀ i ∈ idTg g1, i ∈ vs1) (σ : L2.St) (H : Hp) (Q : VK) (w : tD K mg E (dDc2 tk vs vs1 d g tt d1 g1 tt1 dk dv) σ H Q) :
    tDcP2 (e0 tk) (tI K mg E d) (tGo K g) (tT K mg E tt) (tI K mg E d1) (tGo K g1) (tT K mg E tt1) (tD K mg E dk) (tD K mg E dv) vs vs1 σ H Q := by
  obtain ⟨φ, sl, h, at_, fin⟩ := w
  refine ⟨φ, sl, h, at_, fin.bnd.imp fun φ1 H1 s ⟨h1, rh1, l1, f1⟩ J ok L hL => ?_⟩
  have w0 := LcG.start (o := e0 tk) rh1 hL (e0_no tk) (by cases tk <;> exact True.intro)
  unfold nox at f1
  cases q : lcS (dcT2 g tt d1 g1 tt1 dk dv vs1 (wipS sl vs)) s h1 with
  | none => simp only [bnd, q] at f1; exact f1.elim
  | some p =>
    obtain ⟨r, h''⟩ := p
    cases r with
    | exc c => simp only [bnd, q] at f1; exact f1.elim
    | ok r =>
      simp only [bnd, q] at f1
      obtain ⟨f, hf⟩ := lcS_ix (dcT2 g tt d1 g1 tt1 dk dv vs1 (wipS sl vs)) s
      obtain ⟨ob, m1, m2, m3⟩ := dicR_some (f := f1)
      exact dc_loop2 (ps := []) w0 (DcC.nil tk) ((at_.s.le l1).ge w0.ge) ok w0.ge hv hv1 (by rw [hf]; exact q) (by simpa using m1) (by simpa using m2) fun φ' H' o' w' c' => w'.fin (c'.mk (by simpa using m1)) m3
end
section
variable {X : Cx} {E : XK} {kx vx tg iter tg1 iter1 : Expr} {ifs ifs1 : List Expr} {scope : Scope} {pos : Pos} {d d1 : DR} {g g1 : Tg} {tt tt1 : DB} {dk dv : D}
theorem pd_dc (tk : Bool) (own : List (Str × Nat)) (hu : X.A.units + 65 < cLine) (hc : X.calm = true) (hN : X.N.Nodup) (hi : PID X E tg iter d) (ok : blkC X.N X.env.scope scope own = true)
    (hg : ∀ (s : Shared) (H : Hp) (C : Addr) (cl : List (Str × Addr)) (fp : List Addr), PGD (X.blk s H scope (compEnvC scope cl C X.env) fp) tg g)
    (ht : ∀ (s : Shared) (H : Hp) (C : Addr) (cl : List (Str × Addr)) (fp : List Addr), PTD (X.blk s H scope (compEnvC scope cl C X.env) fp) E ifs tt)
    (hk : ∀ (s : Shared) (H : Hp) (C : Addr) (cl : List (Str × Addr)) (fp : List Addr), PD (X.blk s H scope (compEnvC scope cl C X.env) fp) E kx dk)
    (he : ∀ (s : Shared) (H : Hp) (C : Addr) (cl : List (Str × Addr)) (fp : List Addr), PD (X.blk s H scope (compEnvC scope cl C X.env) fp) E vx dv)
    (hv : ∀ i ∈ idTg g, i ∈ own.map (·.2) := by decide) (hs : ∀ x, foldedSetIterable iter X.env x = pure x := by intro _; rfl) :
    PD X E (.DictComp kx vx [⟨tg, iter, ifs, 0⟩] scope pos) (dDc tk (own.map (·.2)) d g tt dk dv) := by
  refine PE.imp ⟨fun pins s σ H Q I h => ?_⟩ (dc_imp hv)
  rw [arm_eval_DictComp]
  refine dcp_core (e0_or tk) (by omega) hc hN I hi (blkOk_by ok) hg ht hk he hs h fun D C s' m H' I' q hn f => ⟨m, hn, fun h'' sb => ?_⟩
  obtain ⟨f0, f1, f2, f3, f4, f5⟩ := f
  exact ⟨.ref D, H', I'.turned (t' := s'.toks) (fun b o hb e => (sb.2 b hb).trans e) f0 f1 f3 f4 f5, rfl, q⟩
theorem pd_dc2 (tk : Bool) (own : List (Str × Nat)) (vs1 : List Nat) (hu : X.A.units + 65 < cLine) (hc : X.calm = true) (hN : X.N.Nodup) (hi : PID X E tg iter d) (ok : blkC X.N X.env.scope scope own = true)
    (hg : ∀ (s : Shared) (H : Hp) (C : Addr) (cl : List (Str × Addr)) (fp : List Addr), PGD (X.blk s H scope (compEnvC scope cl C X.env) fp) tg g)
    (ht : ∀ (s : Shared) (H : Hp) (C : Addr) (cl : List (Str × Addr)) (fp : List Addr), PTD (X.blk s H scope (compEnvC scope cl C X.env) fp) E ifs tt)
    (hi1 : ∀ (s : Shared) (H : Hp) (C : Addr) (cl : List (Str × Addr)) (fp : List Addr), PID (X.blk s H scope (compEnvC scope cl C X.env) fp) E tg1 iter1 d1)
    (hg1 : ∀ (s : Shared) (H : Hp) (C : Addr) (cl : List (Str × Addr)) (fp : List Addr), PGD (X.blk s H scope (compEnvC scope cl C X.env) fp) tg1 g1)
    (ht1 : ∀ (s : Shared) (H : Hp) (C : Addr) (cl : List (Str × Addr)) (fp : List Addr), PTD (X.blk s H scope (compEnvC scope cl C X.env) fp) E ifs1 tt1)
    (hk : ∀ (s : Shared) (H : Hp) (C : Addr) (cl : List (Str × Addr)) (fp : List Addr), PD (X.blk s H scope (compEnvC scope cl C X.env) fp) E kx dk)
    (he : ∀ (s : Shared) (H : Hp) (C : Addr) (cl : List (Str × Addr)) (fp : List Addr), PD (X.blk s H scope (compEnvC scope cl C X.env) fp) E vx dv)
    (hv : ∀ i ∈ idTg g, i ∈ own.map (·.2) := by decide) (hv1 : ∀ i ∈ idTg g1, i ∈ vs1 := by decide) (hv2 : ∀ i ∈ vs1, i ∈ own.map (·.2) := by decide) (hs : ∀ x, foldedSetIterable iter X.env x = pure x := by intro _; rfl) (hs1 : ∀ env x, foldedSetIterable iter1 env x = pure x := by intro _ _; rfl) :
    PD X E (.DictComp kx vx [⟨tg, iter, ifs, 0⟩, ⟨tg1, iter1, ifs1, 0⟩] scope pos) (dDc2 tk (own.map (·.2)) vs1 d g tt d1 g1 tt1 dk dv) := by
  refine PE.imp ⟨fun pins s σ H Q I h => ?_⟩ (dc_imp2 hv hv1)
  rw [arm_eval_DictComp]
  refine dcp_core2 (e0_or tk) (by omega) hc hN I hi (blkOk_by ok) hv2 hg ht hi1 hg1 ht1 hk he hs hs1 h fun D C s' m H' I' q hn f => ⟨m, hn, fun h'' sb => ?_⟩
  obtain ⟨f0, f1, f2, f3, f4, f5⟩ := f
  exact ⟨.ref D, H', I'.turned (t' := s'.toks) (fun b o hb e => (sb.2 b hb).trans e) f0 f1 f3 f4 f5, rfl, q⟩
end
end Z

/-! Lay13: d.update(d2), dict displays, loops over a dict. -/
namespace Z
open PySem L2 PyProof.Rows

/-! ### update -/
def mergeV {κ : Type} [DecidableEq κ] (kvs more : List (κ × V)) : List (κ × V) := more.foldl (fun a p => putK a p.1 p.2) kvs
def mergeD {κ : Type} [DecidableEq κ] : List κ → List T → List κ → List T → List κ × List T
  | ks, vs, k :: r, v :: s => mergeD (putKs ks k) (putV ks vs k v) r s
  | ks, vs, _, _ => (ks, vs)
theorem merge_rp {κ : Type} [DecidableEq κ] {K : PySem.W.Frag} {φ : Ow} {F : Hp} : ∀ {more : List (κ × V)} {ks2 : List κ} {ts2 : List T} {kvs : List (κ × V)} {ks : List κ} {ts : List T}, kvs.map (·.1) = ks → RpL K φ F ts (kvs.map (·.2)) → more.map (·.1) = ks2 → RpL K φ F ts2 (more.map (·.2)) →
    (mergeV kvs more).map (·.1) = (mergeD ks ts ks2 ts2).1 ∧ RpL K φ F (mergeD ks ts ks2 ts2).2 ((mergeV kvs more).map (·.2))
  | [], ks2, ts2, kvs, ks, ts, e, r, e2, r2 => by
    have h1 : ks2 = [] := e2.symm
    subst h1
    simp only [mergeD, mergeV, List.foldl_nil]
    exact ⟨e, r⟩
  | p :: more, ks2, ts2, kvs, ks, ts, e, r, e2, r2 => by
    cases ks2 with
    | nil => cases e2
    | cons k ks2 =>
      cases ts2 with
      | nil => exact absurd (show (p :: more).map (·.2) = [] from r2) (by simp)
      | cons t ts2 =>
        obtain ⟨v, s, h1, h2, h3⟩ := r2
        have q1 : p.1 = k := (List.cons.inj e2).1
        have q2 : more.map (·.1) = ks2 := (List.cons.inj e2).2
        have q3 : p.2 = v := (List.cons.inj h1).1
        have q4 : more.map (·.2) = s := (List.cons.inj h1).2
        subst q1 q3 q4
        obtain ⟨p1, p2⟩ := rpPut p.1 h2 e r
        show (mergeV (putK kvs p.1 p.2) more).map (·.1) = (mergeD (putKs ks p.1) (putV ks ts p.1 t) ks2 ts2).1 ∧ RpL K φ F (mergeD (putKs ks p.1) (putV ks ts p.1 t) ks2 ts2).2 ((mergeV (putK kvs p.1 p.2) more).map (·.2))
        exact merge_rp (more := more) (kvs := putK kvs p.1 p.2) p1 p2 q2 h3
theorem mergeV_len {κ : Type} [DecidableEq κ] : ∀ (more kvs : List (κ × V)), (mergeV kvs more).length ≤ kvs.length + more.length
  | [], kvs => by simp [mergeV]
  | p :: r, kvs => by
    have h1 := mergeV_len r (putK kvs p.1 p.2)
    have h2 := length_putK kvs p.1 p.2
    have h3 : mergeV kvs (p :: r) = mergeV (putK kvs p.1 p.2) r := rfl
    rw [h3, List.length_cons]; omega
theorem KTmerge {H : Hp} : ∀ {more : List (List Key × V)} {ps : List (List Key × Addr × Value)} {kvs : List (List Key × V)} {xs : List (List Key × Addr × Value)}, KT H more ps → KT H kvs xs → KT H (mergeV kvs more) (storedAllH xs ps)
  | [], [], kvs, xs, _, r => r
  | p :: more, q :: ps, kvs, xs, m, r => by
    cases m with
    | cons h t =>
      have e : KT H (putK kvs p.1 p.2) (storedH xs q.1 q.2.1 q.2.2) := by
        have := r.put p.1 h.2.1 h.2.2
        rw [← h.1]; exact this
      exact KTmerge (more := more) (ps := ps) t e
  | [], _ :: _, _, _, m, _ => nomatch m
  | _ :: _, [], _, _, m, _ => nomatch m
def hI (k : Key) : Option Int := match k with
  | .inl i => some (hashInt i)
  | .inr _ => none
def hL : List Key → Option (List Int)
  | [] => some []
  | k :: ks => match hI k, hL ks with
    | some i, some is => some (i :: is)
    | _, _ => none
def hK (ks : List Key) : Option Int := (hL ks).map fun is => reduceHash (Builtin.Tuple.tupleHashOf is)
theorem hL_eq {P : Program} {w : World} : ∀ {ks : List Key} {is : List Int}, hL ks = some is → ks.map (mixKind P w).hash = is
  | [], is, e => by cases e; rfl
  | k :: ks, is, e => by
    cases k with
    | inr s => cases e
    | inl i =>
      simp only [hL, hI] at e
      cases q : hL ks with
      | none => rw [q] at e; cases e
      | some js =>
        rw [q] at e
        cases e
        rw [List.map_cons, hL_eq q]
        rfl
theorem hK_eq {P : Program} {w : World} {ks : List Key} {i : Int} (e : hK ks = some i) : (tupleKind (mixKind P w)).hash ks = i := by
  obtain ⟨is, e1, rfl⟩ := Option.map_eq_some_iff.mp e
  show reduceHash (Builtin.Tuple.tupleHashOf (ks.map (mixKind P w).hash)) = _
  rw [hL_eq e1]
/-- the keys' hashes are known and apart -/
def hApart (ks : List (List Key)) : Bool := (ks.all fun k => (hK k).isSome) && decide ((ks.map hK).Nodup)
theorem hApart_ok {P : Program} {w : World} {ks : List (List Key)} (e : hApart ks = true) : (ks.map (tupleKind (mixKind P w)).hash).Nodup := by
  obtain ⟨e1, e2⟩ := Bool.and_eq_true_iff.mp e
  have e2 := of_decide_eq_true e2
  have : (ks.map (tupleKind (mixKind P w)).hash).map some = ks.map hK := by
    rw [List.map_map]
    refine List.map_congr_left fun k hk => ?_
    have := List.all_eq_true.mp e1 k hk
    obtain ⟨i, hi⟩ := Option.isSome_iff_exists.mp this
    rw [hi]
    show some _ = some i
    rw [hK_eq hi]
  rw [← this] at e2
  exact (List.pairwise_map.mp e2).imp fun h z => h (by rw [z])

def rUpd : V → List V → Hp → VK → Prop := fun x vs H Q => ∃ a b, x = .ref a ∧ vs = [.ref b] ∧ a ≠ b ∧
  ((∃ kvs more, H a = some (.dK kvs) ∧ H b = some (.dK more) ∧ kvs.length + more.length ≤ sizeLine ∧ Q .non (upd H a (.dK (mergeV kvs more)))) ∨
   ∃ kvs more, H a = some (.dT kvs) ∧ H b = some (.dT more) ∧ kvs.length + more.length ≤ sizeLine ∧ (kvs ≠ [] ∨ hApart (more.map (·.1)) = true) ∧ Q .non (upd H a (.dT (mergeV kvs more))))
theorem KVmerge : ∀ {more : List (Key × V)} {rs : List (Key × Value)} {kvs : List (Key × V)} {vs : List (Key × Value)}, KV more rs → KV kvs vs → KV (mergeV kvs more) (merged vs rs) := fun r q => r.merge q
theorem mt_updateA {X : Cx} (hu : X.A.units + 65 < cLine) : MtR X "dict.update" rUpd := by
  intro pins s σ H x vs v us Q I rx rvs h
  obtain ⟨a, b, rfl, rfl, hab, h⟩ := h
  cases rx
  obtain ⟨u, rfl, ru⟩ := rvs.one
  obtain rfl : u = Value.ref b := ru
  rcases h with ⟨kvs, more, h1, h2, hl, q⟩ | ⟨kvs, more, h1, h2, hl, hap, q⟩
  · obtain ⟨z1, d1, ws, r1, dd1⟩ := dk_of I.hok h1
    obtain ⟨z2, d2, us, r2, dd2⟩ := dk_of I.hok h2
    refine call_meetsIn PySem.F.slot_dict_update dd1.typeIs PySem.F.entry_dict_update (PySem.F.args_dict_update_2 _ _) (meets_dict_update (mixKind X.prog X.w) a b hab d2) ⟨ws, us, dd1, dd2, by rw [← r1.length, ← r2.length]; exact hl, fun h' hd' ho' hs => ?_⟩
    refine ⟨.non, _, d_write (t' := s.toks) I (by rw [h1]; exact True.intro) hs (let ⟨q, _, _, hq, _⟩ := hd'; ⟨q, hq⟩) (dk_new (Nat.le_trans (mergeV_len more kvs) hl) d1 (KVmerge r2 r1) hd'), rfl, q⟩
  · obtain ⟨z1, d1, ws, r1, dd1⟩ := dt_of I.hok h1
    obtain ⟨z2, d2, us, r2, dd2⟩ := dt_of I.hok h2
    have l1 : kvs.length = ws.length := Paired.length r1
    have l2 : more.length = us.length := Paired.length r2
    have apart : ws ≠ [] ∨ ((∀ x ∈ us, s.TypeIs (.ref x.2.1) "tuple") ∧ (us.map fun x => (tupleKind (mixKind X.prog X.w)).hash x.1).Nodup) := by
      rcases hap with hn | hap
      · exact .inl fun z => hn (by rw [z] at l1; exact List.length_eq_zero_iff.mp l1)
      · refine .inr ⟨fun x hx => ?_, ?_⟩
        · obtain ⟨o, es, ep, ho, hc, hdat, he, his, hn⟩ := dd2
          have := his x hx
          obtain ⟨o', _, _, h3, h4, _⟩ := this
          exact ⟨o', h3, h4⟩
        · have e1 : more.map (·.1) = us.map (·.1) := by
            have : ∀ {m : List (List Key × V)} {u : List (List Key × Addr × Value)}, KT H m u → m.map (·.1) = u.map (·.1) := by
              intro m
              induction m with
              | nil => intro u r; cases r; rfl
              | cons p m ih => intro u r; cases r with
                | cons h t => rw [List.map_cons, List.map_cons, h.1, ih t]
            exact this r2
          have := hApart_ok (P := X.prog) (w := X.w) hap
          rw [e1, List.map_map] at this
          exact this
    refine call_update_dictH (knd := tupleKind (mixKind X.prog X.w)) (tupleKind_room_in1 (by omega)) hab d2 dd1 dd2 apart (by rw [← l1, ← l2]; exact hl) fun h' hd' ho' hs => ?_
    obtain ⟨q', es, ep, hq, g2, g3, g4, _, g5⟩ := hd'
    have ne : ∀ c ys, H c = some (.tup ys) → upd H a (.dT (mergeV kvs more)) c = some (.tup ys) := fun c ys ec => by
      rw [upd_ne (ne_of ec h1 (fun z => nomatch z))]
      exact ec
    refine ⟨.non, _, d_write (t' := s.toks) I (by rw [h1]; exact True.intro) hs ⟨q', hq⟩ (show ObjOk X.prog X.w (upd H a (.dT (mergeV kvs more))) h' a (.dT (mergeV kvs more)) from ⟨Nat.le_trans (mergeV_len more kvs) hl, d1, _, (KTmerge r2 r1).keeps ne, q', es, ep, hq, g2, g3, g4, g5⟩), rfl, q⟩
/-- what a dict that is not locked holds -/
inductive DQ where
  | k (ks : List Key) (vs : List T) | t (ks : List (List Key)) (vs : List T)
def dQ (h : Hv) : T → Option DQ
  | .dk ks vs => some (.k ks vs)
  | .dt ks vs => some (.t ks vs)
  | .ref n => match h[n]? with
    | some (.dk false ks vs) => some (.k ks vs)
    | some (.dt false ks vs) => some (.t ks vs)
    | _ => none
  | _ => none
def sameR : T → Nat → Bool
  | .ref m, n => m == n
  | _, _ => false
def fUpdate (x : T) (ts : List T) : M T := fun h => match x, ts with
  | .ref n, [y] => if sameR y n then none else match h[n]?, dQ h y with
    | some (.dk false ks vs), some (.k ks2 vs2) => if ks.length + ks2.length ≤ lim then some (.ok .non, h.set n (.dk false (mergeD ks vs ks2 vs2).1 (mergeD ks vs ks2 vs2).2)) else none
    | some (.dt false ks vs), some (.t ks2 vs2) => if ks.length + ks2.length ≤ lim && (!ks.isEmpty || hApart ks2) then some (.ok .non, h.set n (.dt false (mergeD ks vs ks2 vs2).1 (mergeD ks vs ks2 vs2).2)) else none
    | _, _ => none
  | _, _ => none
section
variable {X : Cx} {E : XK} {K : PySem.W.Frag} {φ : Ow} {H : Hp} {h : Hv} {t : T} {v : V}
theorem dQ_rp {d : DQ} (rh : RelH K φ H h) (r : Rp K φ (Fz φ H) t v) (e : dQ h t = some d) : ∃ b, v = .ref b ∧ (match d with
    | .k ks vs => ∃ kvs, H b = some (.dK kvs) ∧ kvs.map (·.1) = ks ∧ RpL K φ (Fz φ H) vs (kvs.map (·.2))
    | .t ks vs => ∃ kvs, H b = some (.dT kvs) ∧ kvs.map (·.1) = ks ∧ RpL K φ (Fz φ H) vs (kvs.map (·.2))) ∧ ∀ (n : Nat), φ.own[n]? = some b → sameR t n = true := by
  cases t with
  | dk ks vs =>
    cases e
    obtain ⟨a, kvs, rfl, h1, h2, h3⟩ := r
    exact ⟨a, rfl, ⟨kvs, (Fz.of h1).2, h2, h3⟩, fun n hn => absurd (List.mem_of_getElem? hn) fun z => (Fz.of h1).1 (.inl z)⟩
  | dt ks vs =>
    cases e
    obtain ⟨a, kvs, rfl, h1, h2, h3⟩ := r
    exact ⟨a, rfl, ⟨kvs, (Fz.of h1).2, h2, h3⟩, fun n hn => absurd (List.mem_of_getElem? hn) fun z => (Fz.of h1).1 (.inl z)⟩
  | ref m =>
    obtain ⟨b, q1, rfl⟩ := r
    have same : ∀ (n : Nat), φ.own[n]? = some b → sameR (.ref m) n = true := fun n hn => by
      have := (List.getElem?_inj (List.getElem?_eq_some_iff.mp q1).1 rh.nd).mp (q1.trans hn.symm)
      simp [sameR, this]
    simp only [dQ] at e
    split at e
    · rename_i ks vs hn
      cases e
      obtain ⟨a, ho, h1, h2, kvs, h3, h4, h5⟩ := rh.at hn
      have h3 : ho = .dK kvs := h3
      subst h3
      rw [q1] at h1; cases h1
      exact ⟨b, rfl, ⟨kvs, h2, h4, h5⟩, same⟩
    · rename_i ks vs hn
      cases e
      obtain ⟨a, ho, h1, h2, kvs, h3, h4, h5⟩ := rh.at hn
      have h3 : ho = .dT kvs := h3
      subst h3
      rw [q1] at h1; cases h1
      exact ⟨b, rfl, ⟨kvs, h2, h4, h5⟩, same⟩
    · cases e
  | _ => cases e
theorem m_update : Mt X E fUpdate rUpd := by
  intro φ H h tx ts x vs Q rh rx rs f
  have hlim := lim_le
  unfold fUpdate at f
  split at f
  · rename_i n y
    split at f
    · exact f.elim
    · rename_i hne
      obtain ⟨w, rfl, ry⟩ := rs.one
      obtain ⟨a, q1, rfl⟩ := rx
      split at f
      · rename_i ks us ks2 us2 hn hy
        split at f
        · rename_i hl
          obtain ⟨b, rfl, ⟨more, g1, g2, g3⟩, nb⟩ := dQ_rp rh ry hy
          obtain ⟨a', ho, h1, h2, kvs, h3, h4, h5⟩ := rh.at hn
          have h3 : ho = .dK kvs := h3
          subst h3
          rw [q1] at h1; cases h1
          obtain ⟨p1, p2⟩ := merge_rp h4 h5 g2 g3
          refine ⟨a, b, rfl, rfl, fun z => hne (nb n (by rw [← z]; exact q1)), .inl ⟨kvs, more, h2, g1, ?_, f.chg rh q1 (fun od u w => by rw [h2] at w; cases w) ⟨_, rfl, p1, p2⟩ rfl⟩⟩
          rw [← h4, ← g2, List.length_map, List.length_map] at hl
          omega
        · exact f.elim
      · rename_i ks us ks2 us2 hn hy
        split at f
        · rename_i hc
          obtain ⟨hl, hap⟩ := Bool.and_eq_true_iff.mp hc
          have hl := of_decide_eq_true hl
          obtain ⟨b, rfl, ⟨more, g1, g2, g3⟩, nb⟩ := dQ_rp rh ry hy
          obtain ⟨a', ho, h1, h2, kvs, h3, h4, h5⟩ := rh.at hn
          have h3 : ho = .dT kvs := h3
          subst h3
          rw [q1] at h1; cases h1
          obtain ⟨p1, p2⟩ := merge_rp h4 h5 g2 g3
          refine ⟨a, b, rfl, rfl, fun z => hne (nb n (by rw [← z]; exact q1)), .inr ⟨kvs, more, h2, g1, ?_, ?_, f.chg rh q1 (fun od u w => by rw [h2] at w; cases w) ⟨_, rfl, p1, p2⟩ rfl⟩⟩
          · rw [← h4, ← g2, List.length_map, List.length_map] at hl
            omega
          · rcases Bool.or_eq_true_iff.mp hap with z | z
            · refine .inl fun e => ?_
              rw [← h4, e] at z
              cases z
            · exact .inr (by rw [g2]; exact z)
        · exact f.elim
      · exact f.elim
  · exact f.elim
end
end Z

/-! Lay14: dict displays; loops over a dict. -/
namespace Z
open PySem L2 PyProof.Rows

/-! ### displays -/
/-- {k: v, ..}, keys tuples of ints and texts -/
def tDispT (trs : List (TE × TE)) : TE := fun σ H Q => ∀ p, H p = none → tPairs trs σ (upd H p (.dT [])) fun ps H2 => H2 p = some (.dT []) ∧ ∃ kbs : List (List Key × Addr × V), ps = kbs.map (fun q => (.ref q.2.1, q.2.2)) ∧ (∀ q ∈ kbs, H2 q.2.1 = some (.tup (q.1.map kV))) ∧ kbs.length ≤ 15 ∧
  Q (.ref p) (upd H2 p (.dT (mergeV [] (kbs.map fun q => (q.1, q.2.2)))))
theorem carryT {P : Program} {w : World} {H : Hp} {h : Heap} (ok : HOk P w H h) : ∀ {kbs : List (List Key × Addr × V)} {ws : List (Value × Value)}, (∀ q ∈ kbs, H q.2.1 = some (.tup (q.1.map kV))) → VV (kbs.map fun q => (.ref q.2.1, q.2.2)) ws →
    ∃ rs, CarriesH (tupleKind (mixKind P w)) h ws rs ∧ KT H (kbs.map fun q => (q.1, q.2.2)) rs
  | [], _, _, r => by rw [List.map_nil] at r; cases r; exact ⟨[], True.intro, .nil⟩
  | q :: kbs, _, hq, r => by
    rw [List.map_cons] at r
    cases r with
    | @cons a b as bs h1 t =>
      obtain ⟨rs, c, k⟩ := carryT ok (fun x hx => hq x (List.mem_cons_of_mem _ hx)) t
      obtain ⟨b1, b2⟩ := b
      have e := hq q (List.mem_cons_self ..)
      obtain rfl : b1 = Value.ref q.2.1 := h1.1
      exact ⟨(q.1, q.2.1, b2) :: rs, ⟨rfl, rfl, key_of ok e, c⟩, .cons ⟨rfl, e, h1.2⟩ k⟩
theorem pe_dispT {X : Cx} {pos : Pos} {keys : List (Option Expr)} {values : List Expr} {trs : List (TE × TE)} (hu : X.A.units < cLine) (h : PPs X pos keys values trs) (hall : keys.all (·.isSome) = true) (hl : keys.length = values.length) (h0 : keys ≠ [])
    (h15 : keys.length ≤ 15) : PE X (.Dict keys values pos) (tDispT trs) := by
  refine ⟨fun pins s σ H Q I q => ?_⟩
  have hn := I.hok.fresh (Nat.le_refl s.heap.objs.size)
  have I1 := I.laid (a := s.heap.objs.size) (o := .dT []) (h' := s.heap.push { cls := .type "dict", data := .dict #[] }) (t' := s.toks) (fun _ _ q => Heap.get?_push_of_some _ q) (Nat.le_refl _) (dt_empty s.heap I.big)
  have len := pairTrees_length keys values X.env pos hall hl
  have ne : pairTrees keys values X.env pos ≠ [] := fun e => by
    rw [e] at len
    exact h0 (List.length_eq_zero_iff.mp len.symm)
  rw [arm_eval_Dict, zip_pairTrees keys values X.env pos hall hl, dictDisplay_pairs _ ne (by omega)]
  refine wpAny_bind (wpAny_standAt (wpAny_bind (wpAny_subDictH (knd := tupleKind (mixKind X.prog X.w)) hu (by omega) (thn (h.run pins _ σ _ _ I1 (q _ hn)) fun ws s2 ⟨ps, H2, I2, rel, e, kbs, ep, hk, lk, q2⟩ => ?_))))
  subst ep
  obtain ⟨rs, c, rk⟩ := carryT I2.hok hk rel
  obtain ⟨z, hd, vs0, r0, dd⟩ := dt_of I2.hok e
  cases r0
  refine ⟨rs, c, dd, fun h' tk dd' hs => wpAny_pure ⟨.ref s.heap.objs.size, _, ?_, rfl, q2⟩⟩
  have hz : (mergeV [] (kbs.map fun q => (q.1, q.2.2))).length ≤ sizeLine := by
    have h1 := mergeV_len (kbs.map fun q => (q.1, q.2.2)) []
    rw [List.length_nil, List.length_map] at h1
    rw [sizeLine_eq]; omega
  obtain ⟨o, es, ep, hq, g2, g3, g4, _, g5⟩ := dd'
  have ne : ∀ c ys, H2 c = some (.tup ys) → upd H2 s.heap.objs.size (.dT (mergeV [] (kbs.map fun q => (q.1, q.2.2)))) c = some (.tup ys) := fun c ys ec => by
    rw [upd_ne (ne_of ec e (fun z => nomatch z))]
    exact ec
  exact d_write I2 (by rw [e]; exact True.intro) hs ⟨o, hq⟩ (show ObjOk X.prog X.w (upd H2 s.heap.objs.size (.dT (mergeV [] (kbs.map fun q => (q.1, q.2.2))))) h' s.heap.objs.size (.dT (mergeV [] (kbs.map fun q => (q.1, q.2.2)))) from ⟨hz, hd, _, (KTmerge rk .nil).keeps ne, o, es, ep, hq, g2, g3, g4, g5⟩)

def dPairs : List (D × D) → Sl → M (List (T × T))
  | [], _ => ret []
  | (a, b) :: r, sl => bnd (a sl) fun x => bnd (b sl) fun y => bnd (dPairs r sl) fun z => ret ((x, y) :: z)
def dDisp (tk : Bool) (ps : List (D × D)) : D := fun sl => bnd (nox (dPairs ps sl)) fun ts => if ts.length ≤ 15 then dicR tk ts else bot
section
variable {K : PySem.W.Frag} {mg : Str → Option Value} {E : XK} {φ φ' φ1 : Ow} {H H' H1 : Hp} {h h' : Hv} {sl : Sl} {σ : L2.St} {Q : VK}
def RpP (K : PySem.W.Frag) (φ : Ow) (F : Hp) : List (T × T) → List (V × V) → Prop
  | [], vs => vs = []
  | t :: ts, vs => ∃ v r, vs = v :: r ∧ Rp K φ F t.1 v.1 ∧ Rp K φ F t.2 v.2 ∧ RpP K φ F ts r
theorem RpP.le {ts : List (T × T)} {vs : List (V × V)} (r : RpP K φ (Fz φ H) ts vs) (l : Le φ H φ' H') : RpP K φ' (Fz φ' H') ts vs := by
  induction ts generalizing vs with
  | nil => exact r
  | cons t ts ih =>
    obtain ⟨v, w, rfl, r1, r2, r3⟩ := r
    exact ⟨v, w, rfl, r1.le l, r2.le l, ih r3⟩
theorem pairs_of {ok : List (V × V) → Hp → Prop} : ∀ (ps : List (D × D)) (φ : Ow) (H : Hp) (h : Hv), At K φ H sl σ h → Fin K mg (fun φ' H' ts => ∀ vs, RpP K φ' (Fz φ' H') ts vs → ok vs H') E φ H (dPairs ps sl h) → tPairs (ps.map fun q => (tD K mg E q.1, tD K mg E q.2)) σ H ok
  | [], φ, H, h, a, f => f.now a.h [] rfl
  | (da, db) :: r, φ, H, h, a, f => by
    refine seqD a f fun φ1 H1 x vx h1 l1 a1 r1 f1 => seqD a1 f1 fun φ2 H2 y vy h2 l2 a2 r2 f2 => ?_
    refine pairs_of (ok := fun ps H3 => ok ((vx, vy) :: ps) H3) r φ2 H2 h2 a2 ?_
    exact f2.bnd.imp fun φ3 H3 ts ⟨h3, rh3, l3, f3⟩ vs hv => f3.now rh3 _ ⟨_, vs, rfl, (r1.le l2).le l3, r2.le l3, hv⟩
theorem insK_rp {F : Hp} : ∀ {ts : List (T × T)} {vs : List (V × V)} {a b : List Key × List T} {kvs : List (Key × V)}, insK a ts = some b → RpP K φ F ts vs → kvs.map (·.1) = a.1 → RpL K φ F a.2 (kvs.map (·.2)) →
    ∃ more : List (Key × V), vs = more.map (fun kv => (kV kv.1, kv.2)) ∧ more.length = ts.length ∧ (mergeV kvs more).map (·.1) = b.1 ∧ RpL K φ F b.2 ((mergeV kvs more).map (·.2))
  | [], vs, a, b, kvs, e, r, h1, h2 => by
    cases e
    exact ⟨[], r, rfl, h1, h2⟩
  | t :: ts, vs, (ks, us), b, kvs, e, r, h1, h2 => by
    obtain ⟨v, w, rfl, r1, r2, r3⟩ := r
    obtain ⟨tk, tv⟩ := t
    simp only [insK] at e
    cases q : keyOf tk with
    | none => rw [q] at e; cases e
    | some k =>
      rw [q] at e
      obtain ⟨p1, p2⟩ := rpPut k r2 h1 h2
      obtain ⟨more, m1, m2, m3, m4⟩ := insK_rp e r3 p1 p2
      refine ⟨(k, v.2) :: more, ?_, by simp [m2], m3, m4⟩
      have := keyOf_rp q r1
      rw [List.map_cons, ← m1, ← this]
theorem insT_rp {F : Hp} : ∀ {ts : List (T × T)} {vs : List (V × V)} {a b : List (List Key) × List T} {kvs : List (List Key × V)}, insT a ts = some b → RpP K φ F ts vs → kvs.map (·.1) = a.1 → RpL K φ F a.2 (kvs.map (·.2)) →
    ∃ kbs : List (List Key × Addr × V), vs = kbs.map (fun q => (.ref q.2.1, q.2.2)) ∧ (∀ q ∈ kbs, F q.2.1 = some (.tup (q.1.map kV))) ∧ kbs.length = ts.length ∧ (mergeV kvs (kbs.map fun q => (q.1, q.2.2))).map (·.1) = b.1 ∧ RpL K φ F b.2 ((mergeV kvs (kbs.map fun q => (q.1, q.2.2))).map (·.2))
  | [], vs, a, b, kvs, e, r, h1, h2 => by
    cases e
    exact ⟨[], r, (fun q hq => absurd hq (by simp)), rfl, h1, h2⟩
  | t :: ts, vs, (ks, us), b, kvs, e, r, h1, h2 => by
    obtain ⟨v, w, rfl, r1, r2, r3⟩ := r
    obtain ⟨tk, tv⟩ := t
    simp only [insT] at e
    cases q : keysOf tk with
    | none => rw [q] at e; cases e
    | some k =>
      rw [q] at e
      obtain ⟨p1, p2⟩ := rpPut k r2 h1 h2
      obtain ⟨more, m1, m0, m2, m3, m4⟩ := insT_rp e r3 p1 p2
      cases tk with
      | tup ys =>
        obtain ⟨c, us', e1, hc, hu⟩ := r1
        have hu := keysL_rp (show keysL ys = some k from q) hu
        subst hu
        refine ⟨(k, c, v.2) :: more, ?_, fun q hq => ?_, by simp [m2], m3, m4⟩
        · rw [List.map_cons, ← m1]
          show v :: w = (V.ref c, v.2) :: w
          rw [← e1]
        · rcases List.mem_cons.mp hq with rfl | hq
          · exact hc
          · exact m0 q hq
      | _ => cases q
end
section
variable {X : Cx} {E : XK} {pos : Pos} {keys : List (Option Expr)} {values : List Expr} {ps : List (D × D)}
abbrev PPD (X : Cx) (E : XK) (pos : Pos) (keys : List (Option Expr)) (values : List Expr) (ps : List (D × D)) : Prop := PPs X pos keys values (ps.map fun q => (tD X.K X.mg E q.1, tD X.K X.mg E q.2))
theorem ppd_nil : PPD X E pos [] [] [] := pps_nil
theorem ppd_cons {k v : Expr} {dk dv : D} (hk : PD X E k dk) (hv : PD X E v dv) (hr : PPD X E pos keys values ps) : PPD X E pos (some k :: keys) (v :: values) ((dk, dv) :: ps) := pps_cons hk hv hr
theorem disp_core {tk : Bool} {σ : L2.St} {H : Hp} {Q : VK} (w : tD X.K X.mg E (dDisp tk ps) σ H Q) : ∀ p, H p = none → tPairs (ps.map fun q => (tD X.K X.mg E q.1, tD X.K X.mg E q.2)) σ (upd H p (e0 tk)) fun vs H2 => H2 p = some (e0 tk) ∧ match tk with
    | false => ∃ kvs : List (Key × V), vs = kvs.map (fun kv => (kV kv.1, kv.2)) ∧ kvs.length ≤ 15 ∧ Q (.ref p) (upd H2 p (.dK (mergeV [] kvs)))
    | true => ∃ kbs : List (List Key × Addr × V), vs = kbs.map (fun q => (.ref q.2.1, q.2.2)) ∧ (∀ q ∈ kbs, H2 q.2.1 = some (.tup (q.1.map kV))) ∧ kbs.length ≤ 15 ∧ Q (.ref p) (upd H2 p (.dT (mergeV [] (kbs.map fun q => (q.1, q.2.2))))) := by
  obtain ⟨φ, sl, h, at_, fin⟩ := w
  intro p hp
  have w0 := LcG.start (o := e0 tk) at_.h hp (e0_no tk) (by cases tk <;> exact True.intro)
  unfold dDisp nox at fin
  cases q : dPairs ps sl h with
  | none => simp only [bnd, q] at fin; exact fin.elim
  | some z =>
    obtain ⟨r, h1⟩ := z
    refine pairs_of ps _ _ h ⟨at_.s.ge w0.ge, w0.rh⟩ ?_
    rw [q]
    cases r with
    | exc c => simp only [bnd, q] at fin; exact fin.elim
    | ok ts =>
      simp only [bnd, q] at fin
      intro φ2 H2 l2 rh2 vs rv
      have w2 := w0.le l2 rh2
      refine ⟨w2.hD, ?_⟩
      split at fin
      · rename_i h15
        obtain ⟨ob, m1, m2, m3⟩ := dicR_some (f := fin)
        cases tk with
        | false =>
          simp only [mkD, Bool.false_eq_true, if_false] at m1
          obtain ⟨a, i1, rfl⟩ := Option.map_eq_some_iff.mp m1
          obtain ⟨more, n1, n2, n3, n4⟩ := insK_rp (kvs := []) i1 rv rfl rfl
          obtain ⟨w3, ge3⟩ := w2.chg (o' := .dK (mergeV [] more)) (fun _ _ z => nomatch z) (fun _ z => nomatch z) True.intro True.intro
          exact ⟨more, n1, by omega, w3.fin (ob := .dk false a.1 a.2) ⟨_, rfl, n3, n4.ge ge3⟩ m3⟩
        | true =>
          simp only [mkD, if_true] at m1
          obtain ⟨a, i1, rfl⟩ := Option.map_eq_some_iff.mp m1
          obtain ⟨kbs, n1, n0, n2, n3, n4⟩ := insT_rp (kvs := []) i1 rv rfl rfl
          obtain ⟨w3, ge3⟩ := w2.chg (o' := .dT (mergeV [] (kbs.map fun q => (q.1, q.2.2)))) (fun _ _ z => nomatch z) (fun _ z => nomatch z) True.intro True.intro
          exact ⟨kbs, n1, fun q hq => (Fz.of (n0 q hq)).2, by omega, w3.fin (ob := .dt false a.1 a.2) ⟨_, rfl, n3, n4.ge ge3⟩ m3⟩
      · exact fin.elim
theorem pd_disp (h : PPD X E pos keys values ps) (hall : keys.all (·.isSome) = true := by rfl) (hl : keys.length = values.length := by rfl) (h0 : keys ≠ [] := by exact (fun z => nomatch z)) (h15 : keys.length ≤ 15 := by decide) : PD X E (.Dict keys values pos) (dDisp false ps) :=
  PE.imp (pe_disp h hall hl h0 h15) fun σ H Q w => disp_core w
theorem pd_dispT (hu : X.A.units + 65 < cLine) (h : PPD X E pos keys values ps) (hall : keys.all (·.isSome) = true := by rfl) (hl : keys.length = values.length := by rfl) (h0 : keys ≠ [] := by exact (fun z => nomatch z)) (h15 : keys.length ≤ 15 := by decide) : PD X E (.Dict keys values pos) (dDisp true ps) :=
  PE.imp (pe_dispT (by omega) h hall hl h0 h15) fun σ H Q w => disp_core w
end
end Z

/-! Lay15: a statement under a lock on an owned dict (for k in d: ..). -/
namespace Z
open PySem L2 PyProof.Rows
/-- .. the lock is laid off -/
def unl (n : Nat) (o : O) : Option (Fl × Sl × Hv) → Option (Fl × Sl × Hv)
  | some (.exc c, sl, h) => some (.exc c, sl, h)
  | some (f, sl, h) => some (f, sl, h.set n o)
  | none => none
def dLock (i : Nat) (b : DS) : DS := fun sl h => match sl[i]? with
  | some (some (.ref n)) => match h[n]? with
    | some (.dk false ks vs) => unl n (.dk false ks vs) (b sl (h.set n (.dk true ks vs)))
    | some (.dt false ks vs) => unl n (.dt false ks vs) (b sl (h.set n (.dt true ks vs)))
    | _ => none
  | _ => none
section
variable {K : PySem.W.Frag} {mg : Str → Option Value} {E : XK} {φ φ' : Ow} {F H H' : Hp} {sl : Sl} {σ : L2.St} {h h' : Hv} {t k : T} {v : V} {xs : List T} {p a : Addr} {o ol : O} {ho u : HO} {n : Nat} {od : Obj}
theorem RelH.upd2 (r : RelH K φ H h) (e1 : φ.own[n]? = some a) (q : RpO K φ (Fz φ H) o ho) : Ex (Fz φ H) (Fz φ (upd H a ho)) ∧ (∀ b, b ∈ φ.hid → (upd H a ho) b = H b) ∧ RelH K φ (upd H a ho) (h.set n o) := by
  have ma : a ∈ φ.own := List.mem_of_getElem? e1
  have nh := r.dis a ma
  have ex : Ex (Fz φ H) (Fz φ (upd H a ho)) := fun b u e => by
    obtain ⟨h1, h2⟩ := Fz.of e
    have ne : b ≠ a := fun z => h1 (.inl (by rw [z]; exact ma))
    exact Fz.mk h1 (by rw [upd_ne ne]; exact h2) (Fz.nt e)
  refine ⟨ex, fun b m => upd_ne (fun z => nh (by rw [← z]; exact m)), r.nd, r.dis, fun b m => ?_, by simp [r.len], fun m b ob e2 e3 => ?_, tabs_upd r.tab (.inr (r.pl e1))⟩
  · obtain ⟨o', q', z'⟩ := r.hd b m
    exact ⟨o', by rw [upd_ne (fun z => nh (by rw [← z]; exact m))]; exact q', z'⟩
  · by_cases hm : n = m
    · subst hm
      rw [e1] at e2
      cases e2
      have hn : n < h.length := by rw [← r.len]; exact (List.getElem?_eq_some_iff.mp e1).1
      rw [List.getElem?_set_self hn] at e3
      cases e3
      exact ⟨ho, upd_same, q.mono (fun _ _ z => z) ex⟩
    · rw [List.getElem?_set_ne hm] at e3
      obtain ⟨hb, q1, q2⟩ := r.ob m b ob e2 e3
      have ne : b ≠ a := by
        rintro rfl
        exact hm ((List.getElem?_inj (List.getElem?_eq_some_iff.mp e1).1 r.nd).mp (e1.trans e2.symm))
      exact ⟨hb, by rw [upd_ne ne]; exact q1, q2.mono (fun _ _ z => z) ex⟩
/-- laying the lock off -/
theorem unlock_le (e1 : φ.own[n]? = some a) (hu : H a = some u) (nf : ∀ od u, H a ≠ some (.frz od u)) (ro : RpO K φ (Fz φ H) o u) (l : Le φ (upd H a (.frz od u)) φ' H') (r : RelH K φ' H' h') (r0 : RelH K φ H h) :
    H' a = some (.frz od u) ∧ Le φ H φ' (upd H' a u) ∧ RelH K φ' (upd H' a u) (h'.set n o) := by
  have fr := l.fz a od u upd_same
  have e2 := l.at e1
  have ma : a ∈ φ.own := List.mem_of_getElem? e1
  have ex0 : Ex (Fz φ H) (Fz φ (upd H a (.frz od u))) := fun b x e => by
    obtain ⟨h1, h2⟩ := Fz.of e
    have ne : b ≠ a := fun z => h1 (.inl (by rw [z]; exact ma))
    exact Fz.mk h1 (by rw [upd_ne ne]; exact h2) (Fz.nt e)
  have ro' : RpO K φ' (Fz φ' H') o u := ro.mono (fun _ _ z => l.at z) (ex0.trans l.ex)
  obtain ⟨x1, x2, x3⟩ := r.upd2 e2 ro'
  refine ⟨fr, ⟨l.pre, l.hid, (ex0.trans l.ex).trans x1, fun b od' u' e => ?_, fun b m => ?_⟩, x3⟩
  · have ne : b ≠ a := fun z => nf od' u' (by rw [← z]; exact e)
    rw [upd_ne ne]
    exact l.fz b od' u' (by rw [upd_ne ne]; exact e)
  · have ne : b ≠ a := fun z => r0.dis a ma (by rw [← z]; exact m)
    rw [upd_ne ne, l.hk b m, upd_ne ne]
theorem lock_core {De : Ends} {r : Option (Fl × Sl × Hv)} (e1 : φ.own[n]? = some a) (hu : H a = some u) (nf : ∀ od u, H a ≠ some (.frz od u)) (ro : RpO K φ (Fz φ H) o u) (r0 : RelH K φ H h) (f : FinS K mg E De φ H (unl n o r)) (od : Obj) :
    FinS K mg E ⟨fun σ' H' => H' a = some (.frz od u) ∧ De.nx σ' (upd H' a u), fun v H' => H' a = some (.frz od u) ∧ De.rt v (upd H' a u), fun σ' H' => H' a = some (.frz od u) ∧ De.bk σ' (upd H' a u), fun σ' H' => H' a = some (.frz od u) ∧ De.ct σ' (upd H' a u)⟩ φ (upd H a (.frz od u)) r := by
  have U {φ' : Ow} {H' : Hp} {h' : Hv} (l : Le φ (upd H a (.frz od u)) φ' H') (r : RelH K φ' H' h') := unlock_le e1 hu nf ro l r r0
  have S {φ' : Ow} {H' : Hp} (l : Le φ (upd H a (.frz od u)) φ' H') : Ex (Fz φ' H') (Fz φ' (upd H' a u)) := fun b x e => by
    obtain ⟨h1, h2⟩ := Fz.of e
    have ne : b ≠ a := fun z => h1 (.inl (by rw [z]; exact List.mem_of_getElem? (l.at e1)))
    exact Fz.mk h1 (by rw [upd_ne ne]; exact h2) (Fz.nt e)
  have A {φ' : Ow} {H' : Hp} {h' : Hv} {sl' : Sl} {σ' : L2.St} (l : Le φ (upd H a (.frz od u)) φ' H') (q : At K φ' H' sl' σ' h') : At K φ' (upd H' a u) sl' σ' (h'.set n o) :=
    ⟨⟨q.s.1, fun i t e => let ⟨v, q1, q2⟩ := q.s.2 i t e; ⟨v, q1, Rp.mono (fun _ _ z => z) (S l) t v q2⟩⟩, (U l q.h).2.2⟩
  match r, f with
  | some (.nx, sl', h'), f => exact fun φ' H' σ' l q => ⟨(U l q.h).1, f _ _ _ (U l q.h).2.1 (A l q)⟩
  | some (.bk, sl', h'), f => exact fun φ' H' σ' l q => ⟨(U l q.h).1, f _ _ _ (U l q.h).2.1 (A l q)⟩
  | some (.ct, sl', h'), f => exact fun φ' H' σ' l q => ⟨(U l q.h).1, f _ _ _ (U l q.h).2.1 (A l q)⟩
  | some (.rt t, sl', h'), f => exact fun φ' H' v l q rv => ⟨(U l q).1, f _ _ _ (U l q).2.1 (U l q).2.2 (Rp.mono (fun _ _ z => z) (S l) t v rv)⟩
  | some (.exc c, sl', h'), f =>
    have ma : a ∈ φ.own := List.mem_of_getElem? e1
    have ex0 : Ex (Fz φ H) (Fz φ (upd H a (.frz od u))) := fun b x e => by
      obtain ⟨h1, h2⟩ := Fz.of e
      have ne : b ≠ a := fun z => h1 (.inl (by rw [z]; exact ma))
      exact Fz.mk h1 (by rw [upd_ne ne]; exact h2) (Fz.nt e)
    have l0 : Le φ H φ (upd H a (.frz od u)) := ⟨⟨[], by simp⟩, rfl, ex0, fun b od' u' e => by
      have ne : b ≠ a := fun z => nf od' u' (by rw [← z]; exact e)
      rw [upd_ne ne]; exact e, fun b m => upd_ne (fun z => r0.dis a ma (by rw [← z]; exact m))⟩
    exact fun φ' H' C l q mc => f _ _ _ (l0.trans l) q mc
end
section
variable {X : Cx} {E : XK} {st : Stmt} {d : DS} {i : Nat}
theorem pds_lock (i : Nat) (h : PDS X E st d) : PDS X E st (dLock i d) := PS.imp (ps_lock h) fun De σ H ⟨φ, sl, hv, at_, fin⟩ => by
  unfold dLock at fin
  cases q : sl[i]? with
  | none => rw [q] at fin; exact fin.elim
  | some x =>
    cases x with
    | none => rw [q] at fin; exact fin.elim
    | some t =>
      cases t with
      | ref n =>
        simp only [q] at fin
        obtain ⟨v, s1, a, e1, rfl⟩ := at_.s.2 i _ q
        cases hq : hv[n]? with
        | none => rw [hq] at fin; exact fin.elim
        | some o =>
          obtain ⟨ho, e2, ro⟩ := at_.h.ob n a o e1 hq
          have S (od : Obj) (u : HO) : Ex (Fz φ H) (Fz φ (upd H a (.frz od u))) := fun b x e => by
            obtain ⟨h1, h2⟩ := Fz.of e
            have ne : b ≠ a := fun z => h1 (.inl (by rw [z]; exact List.mem_of_getElem? e1))
            exact Fz.mk h1 (by rw [upd_ne ne]; exact h2) (Fz.nt e)
          have A (ol : O) (u : HO) (ob : Obj) (qo : RpO X.K φ (Fz φ H) ol (.frz ob u)) : At X.K φ (upd H a (.frz ob u)) sl σ (hv.set n ol) :=
            ⟨⟨at_.s.1, fun j t e => let ⟨v, q1, q2⟩ := at_.s.2 j t e; ⟨v, q1, Rp.mono (fun _ _ z => z) (S ob u) t v q2⟩⟩, (at_.h.upd2 e1 qo).2.2⟩
          simp only [hq] at fin
          cases o with
          | lst xs => exact fin.elim
          | dk lk ks vs =>
            cases lk with
            | true => exact fin.elim
            | false =>
              obtain ⟨kvs, rfl, k1, k2⟩ := ro
              exact ⟨a, .dK kvs, e2, True.intro, fun od => ⟨φ, sl, hv.set n (.dk true ks vs), A _ _ od ⟨kvs, ⟨od, rfl⟩, k1, k2⟩, lock_core e1 e2 (fun _ _ z => by rw [e2] at z; cases z) (o := .dk false ks vs) ⟨kvs, rfl, k1, k2⟩ at_.h fin od⟩⟩
          | dt lk ks vs =>
            cases lk with
            | true => exact fin.elim
            | false =>
              obtain ⟨kvs, rfl, k1, k2⟩ := ro
              exact ⟨a, .dT kvs, e2, True.intro, fun od => ⟨φ, sl, hv.set n (.dt true ks vs), A _ _ od ⟨kvs, ⟨od, rfl⟩, k1, k2⟩, lock_core e1 e2 (fun _ _ z => by rw [e2] at z; cases z) (o := .dt false ks vs) ⟨kvs, rfl, k1, k2⟩ at_.h fin od⟩⟩
      | _ => simp only [q] at fin; exact fin.elim
end
end Z

/-! Lay16: tuple(range(..)), list(range(..)). -/
namespace Z
open PySem L2 PyProof.Rows
def rgM (tup ow : Bool) (i j : Int) : M T := if in62 i && in62 j && decide ((j - i).toNat ≤ lim) then (if tup then ret (.tup (rgT i j)) else if ow then own (.lst (rgT i j)) else ret (.lst (rgT i j))) else bot
def dRgv1 (tup ow : Bool) (d : D) : D := fun sl => bnd (d sl) fun x => match x with
  | .int j => rgM tup ow 0 j
  | _ => bot
def dRgv2 (tup ow : Bool) (d d2 : D) : D := fun sl => bnd (d sl) fun x => bnd (d2 sl) fun y => match x, y with
  | .int i, .int j => rgM tup ow i j
  | _, _ => bot
section
variable {K : PySem.W.Frag} {mg : Str → Option Value} {E : XK} {φ : Ow} {F H : Hp} {sl : Sl} {σ : L2.St} {h : Hv} {Q : VK} {i j : Int}
theorem rgT_map (i : Int) : ∀ (l : List Nat), RpL K φ F (l.map fun k : Nat => T.int (i + k)) (l.map fun k : Nat => V.int (i + k))
  | [] => rfl
  | k :: l => ⟨.int (i + k), _, rfl, rfl, rgT_map i l⟩
theorem rgT_rp (i j : Int) : RpL K φ F (rgT i j) (rgV i j) := rgT_map i _
theorem rgM_one {tup ow : Bool} (f : Fin K mg (wV K Q) E φ H (rgM tup ow i j h)) : RgOk i j ∧ Fin K mg (wV K Q) E φ H ((if tup then ret (.tup (rgT i j)) else if ow then own (.lst (rgT i j)) else ret (.lst (rgT i j)) : M T) h) := by
  unfold rgM at f
  split at f
  · rename_i hq
    simp only [Bool.and_eq_true, decide_eq_true_eq] at hq
    obtain ⟨⟨q1, q2⟩, q3⟩ := hq
    obtain ⟨a1, a2⟩ := in62_of q1
    obtain ⟨a3, a4⟩ := in62_of q2
    exact ⟨⟨a1, a2, a3, a4, Nat.le_trans q3 (by decide)⟩, f⟩
  · exact f.elim
theorem rgM_tup {ow : Bool} (f : Fin K mg (wV K Q) E φ H (rgM true ow i j h)) (rh : RelH K φ H h) : RgOk i j ∧ ∀ q, H q = none → Q (.ref q) (upd H q (.tup (rgV i j))) :=
  ⟨(rgM_one f).1, fun q hq => (rgM_one f).2.newTup rh (rgT_rp i j) hq⟩
theorem rgM_lst {ow : Bool} (f : Fin K mg (wV K Q) E φ H (rgM false ow i j h)) (rh : RelH K φ H h) : RgOk i j ∧ ∀ q, H q = none → Q (.ref q) (upd H q (.lst (rgV i j))) :=
  ⟨(rgM_one f).1, fun q hq => by
    have f := (rgM_one f).2
    cases ow with
    | true => exact f.own rh hq ⟨_, rfl, rgT_rp i j⟩
    | false => exact f.newLst rh (rgT_rp i j) hq⟩
end
section
variable {X : Cx} {E : XK} {a b : Expr} {d d2 : D} {p p2 pos pos2 : Pos} {ow : Bool}
theorem rg1_core {tup : Bool} {σ : L2.St} {H : Hp} {Q : VK} {R : Int → Int → Hp → Prop} (w : tD X.K X.mg E (dRgv1 tup ow d) σ H Q) (k : ∀ φ H1 h1 i j, RelH X.K φ H1 h1 → Fin X.K X.mg (wV X.K Q) E φ H1 (rgM tup ow i j h1) → R i j H1) : tRg1 (tD X.K X.mg E d) σ H R := by
  obtain ⟨φ, sl, h, at_, fin⟩ := w
  refine seqD at_ fin fun φ1 H1 x vx h1 l1 a1 r1 f1 => ?_
  cases x with
  | int j => exact ⟨j, r1, k _ _ _ _ _ a1.h f1⟩
  | _ => exact f1.elim
theorem rg2_core {tup : Bool} {σ : L2.St} {H : Hp} {Q : VK} {R : Int → Int → Hp → Prop} (w : tD X.K X.mg E (dRgv2 tup ow d d2) σ H Q) (k : ∀ φ H1 h1 i j, RelH X.K φ H1 h1 → Fin X.K X.mg (wV X.K Q) E φ H1 (rgM tup ow i j h1) → R i j H1) : tRg2 (tD X.K X.mg E d) (tD X.K X.mg E d2) σ H R := by
  obtain ⟨φ, sl, h, at_, fin⟩ := w
  refine seqD at_ fin fun φ1 H1 x vx h1 l1 a1 r1 f1 => seqD a1 f1 fun φ2 H2 y vy h2 l2 a2 r2 f2 => ?_
  cases x with
  | int i =>
    cases y with
    | int j => exact ⟨i, j, r1, r2, k _ _ _ _ _ a2.h f2⟩
    | _ => exact f2.elim
  | _ => exact f2.elim
theorem pd_tupRg1 (hc : X.calm = true) (hg : Gl X "tuple") (hm : X.mg "tuple" = none) (hg2 : Gl X "range") (hm2 : X.mg "range" = none) (ha : PD X E a d) (na : starEach [a] X.env = (false, eval a X.env) :: starEach [] X.env := by rfl)
    (na2 : starEach [.Call (.Name "range" p2) [a] [] pos2] X.env = (false, eval (.Call (.Name "range" p2) [a] [] pos2) X.env) :: starEach [] X.env := by rfl) : PD X E (.Call (.Name "tuple" p) [.Call (.Name "range" p2) [a] [] pos2] [] pos) (dRgv1 true false d) :=
  PE.imp (pe_tupRg hc hg hm (prg_1 hg2 hm2 ha na) na2) fun σ H Q w => rg1_core w fun φ H1 h1 i j rh f => rgM_tup f rh
theorem pd_lstRg1 (ow : Bool) (hc : X.calm = true) (hg : Gl X "list") (hm : X.mg "list" = none) (hg2 : Gl X "range") (hm2 : X.mg "range" = none) (ha : PD X E a d) (na : starEach [a] X.env = (false, eval a X.env) :: starEach [] X.env := by rfl)
    (na2 : starEach [.Call (.Name "range" p2) [a] [] pos2] X.env = (false, eval (.Call (.Name "range" p2) [a] [] pos2) X.env) :: starEach [] X.env := by rfl) : PD X E (.Call (.Name "list" p) [.Call (.Name "range" p2) [a] [] pos2] [] pos) (dRgv1 false ow d) :=
  PE.imp (pe_listRg hc hg hm (prg_1 hg2 hm2 ha na) na2) fun σ H Q w => rg1_core w fun φ H1 h1 i j rh f => rgM_lst f rh
theorem pd_tupRg2 (hc : X.calm = true) (hg : Gl X "tuple") (hm : X.mg "tuple" = none) (hg2 : Gl X "range") (hm2 : X.mg "range" = none) (ha : PD X E a d) (hb : PD X E b d2) (na : starEach [a, b] X.env = (false, eval a X.env) :: starEach [b] X.env := by rfl)
    (nb : starEach [b] X.env = (false, eval b X.env) :: starEach [] X.env := by rfl) (hp : (backTo pos2 (starEach [b] X.env)).any (·.1) = false := by rfl)
    (na2 : starEach [.Call (.Name "range" p2) [a, b] [] pos2] X.env = (false, eval (.Call (.Name "range" p2) [a, b] [] pos2) X.env) :: starEach [] X.env := by rfl) : PD X E (.Call (.Name "tuple" p) [.Call (.Name "range" p2) [a, b] [] pos2] [] pos) (dRgv2 true false d d2) :=
  PE.imp (pe_tupRg hc hg hm (prg_2 hg2 hm2 ha hb na nb hp) na2) fun σ H Q w => rg2_core w fun φ H1 h1 i j rh f => rgM_tup f rh
theorem pd_lstRg2 (ow : Bool) (hc : X.calm = true) (hg : Gl X "list") (hm : X.mg "list" = none) (hg2 : Gl X "range") (hm2 : X.mg "range" = none) (ha : PD X E a d) (hb : PD X E b d2) (na : starEach [a, b] X.env = (false, eval a X.env) :: starEach [b] X.env := by rfl)
    (nb : starEach [b] X.env = (false, eval b X.env) :: starEach [] X.env := by rfl) (hp : (backTo pos2 (starEach [b] X.env)).any (·.1) = false := by rfl)
    (na2 : starEach [.Call (.Name "range" p2) [a, b] [] pos2] X.env = (false, eval (.Call (.Name "range" p2) [a, b] [] pos2) X.env) :: starEach [] X.env := by rfl) : PD X E (.Call (.Name "list" p) [.Call (.Name "range" p2) [a, b] [] pos2] [] pos) (dRgv2 false ow d d2) :=
  PE.imp (pe_listRg hc hg hm (prg_2 hg2 hm2 ha hb na nb hp) na2) fun σ H Q w => rg2_core w fun φ H1 h1 i j rh f => rgM_lst f rh
end
end Z

/-! Lay17: sorted(set(..)) of a tuple of ints. -/
namespace Z
open PySem L2 PyProof.Rows
def tSortSet (K : PySem.W.Frag) (ta : TE) : TE := fun σ H Q => ta σ H fun x H1 => ∃ (l : Addr) (ns : List Int), x = V.ref l ∧ SqT K H1 l (ns.map V.int) ∧ ns.length < 63 ∧
  ∀ (ks : List Int) (p : Addr), ks.Pairwise (· < ·) → (∀ k, k ∈ ks ↔ k ∈ ns) → H1 p = none → Q (.ref p) (upd H1 p (.lst (ks.map V.int)))
theorem pe_sortSet {X : Cx} {a : Expr} {ta : TE} {p p2 q pos : Pos} (hc : X.calm = true) (hg : Gl X "sorted") (hm : X.mg "sorted" = none) (hg2 : Gl X "set") (hm2 : X.mg "set" = none) (ha : PE X a ta)
    (na : starEach [a] X.env = (false, eval a X.env) :: starEach [] X.env := by rfl) : PE X (.Call (.Name "sorted" p) [.Call (.Name "set" p2) [a] [] q] [] pos) (tSortSet X.K ta) := by
  refine ⟨fun pins s σ H Q I h => ?_⟩
  refine Call_ (ld_blt I hg hm bt_sorted ?_)
  refine PyProof.Rows.callWith_builtin1 (PyProof.Rows.args_cons ?_ rfl) rfl rfl
  refine Call_ (ld_blt I hg2 hm2 PyProof.Rows.boot_set ?_)
  refine PyProof.Rows.callWith_type1 (PyProof.Rows.args_cons (thn (ha.run pins s σ H _ I h) fun v s1 ⟨x, H1, I1, r1, q1⟩ => PyProof.Rows.args_nil ?_) na) na rfl
  obtain ⟨l, ns, rfl, hq, h1, q1⟩ := q1
  cases r1
  obtain ⟨its, r, pl, hz⟩ := I1.tuple hq
  refine call_set_tupI ns (I1.ok.hd hc) pl (by simpa using r.ints) (by unfold scanBound; omega) fun h' tk c R lc hk => ?_
  refine PyProof.Rows.args_nil ?_
  have I2 : Inv X pins σ H1 { s1 with heap := h', toks := tk } := I1.kept hk
  have R2 : SetR X.w ({ s1 with heap := h', toks := tk } : Shared).heap s1.heap.objs.size (fun j => decide (j ∈ ns)) c := R
  generalize ({ s1 with heap := h', toks := tk } : Shared) = s2 at I2 R2 ⊢
  refine sorted_set R2 (I2.ok.hd hc) (by omega) fun s' p out c ks k g o hp hg hi hs hm hl => ?_
  have hlen : (ks.map V.int).length ≤ sizeLine := by rw [List.length_map, hl, sizeLine_eq]; omega
  have hn : H1 p = none := I2.hok.fresh hp
  have J : Inv X pins σ (upd H1 p (.lst (ks.map V.int))) { s2 with heap := s'.heap, gens := s'.gens, drawn := s'.drawn, toks := s'.toks } :=
    I2.call (ch := []) (Un.laid k hp hn) (I2.hok.laid k hp ⟨hlen, out.toList, c, vals_of_ints hi, hg⟩) (by rw [g]; exact I2.bare) (fun _ z => nomatch z)
  have e : s' = { s2 with heap := s'.heap, gens := s'.gens, drawn := s'.drawn, toks := s'.toks } := by
    cases s'
    cases s2
    cases o
    rfl
  rw [e]
  exact ⟨.ref p, _, J, rfl, q1 ks p hs (fun k => (hm k).trans (by simp)) hn⟩
/-- .. a list, sorted, none twice -/
def insI (x : Int) : List Int → List Int
  | [] => [x]
  | y :: l => if x < y then x :: y :: l else if x = y then y :: l else y :: insI x l
def setI (l : List Int) : List Int := l.foldr insI []
theorem mem_insI {x k : Int} : ∀ {l : List Int}, k ∈ insI x l ↔ k = x ∨ k ∈ l
  | [] => by simp [insI]
  | y :: l => by
    unfold insI
    by_cases h1 : x < y
    · simp [h1]
    · rw [if_neg h1]
      by_cases h2 : x = y
      · subst h2; simp
      · rw [if_neg h2, List.mem_cons, mem_insI, List.mem_cons]
        constructor
        · rintro (a | a | a) <;> simp [a]
        · rintro (a | a | a) <;> simp [a]
theorem insI_lt {x : Int} : ∀ {l : List Int}, l.Pairwise (· < ·) → (insI x l).Pairwise (· < ·)
  | [], _ => by simp [insI]
  | y :: l, h => by
    obtain ⟨a, b⟩ := List.pairwise_cons.mp h
    unfold insI
    by_cases h1 : x < y
    · rw [if_pos h1]
      exact List.pairwise_cons.mpr ⟨fun k hk => by rcases List.mem_cons.mp hk with rfl | hk; exact h1; have := a k hk; omega, h⟩
    · rw [if_neg h1]
      by_cases h2 : x = y
      · rw [if_pos h2]; exact h
      · rw [if_neg h2]
        exact List.pairwise_cons.mpr ⟨fun k hk => by
          rcases mem_insI.mp hk with rfl | hk
          · omega
          · exact a k hk, insI_lt b⟩
theorem setI_lt : ∀ l : List Int, (setI l).Pairwise (· < ·)
  | [] => List.Pairwise.nil
  | x :: l => insI_lt (setI_lt l)
theorem mem_setI {k : Int} : ∀ {l : List Int}, k ∈ setI l ↔ k ∈ l
  | [] => Iff.rfl
  | x :: l => by
    show k ∈ insI x (setI l) ↔ _
    rw [mem_insI, mem_setI, List.mem_cons]
end Z
namespace Z
open PySem L2 PyProof.Rows
def dSortSet (ow : Bool) (d : D) : D := fun sl => bnd (d sl) fun x => match x with
  | .tup xs => match intsQ xs with
    | some ns => if ns.length < 63 then (if ow then own (.lst ((setI ns).map .int)) else ret (.lst ((setI ns).map .int))) else bot
    | none => bot
  | _ => bot
theorem rowV {K : PySem.W.Frag} {φ : Ow} {F : Hp} : ∀ (l : List Int), RpL K φ F (l.map T.int) (l.map V.int)
  | [] => rfl
  | k :: l => ⟨.int k, _, rfl, rfl, rowV l⟩
theorem eq_setI {ks ns : List Int} (h : ks.Pairwise (· < ·)) (m : ∀ k, k ∈ ks ↔ k ∈ ns) : ks = setI ns := by
  refine List.Perm.eq_of_pairwise (le := fun a b => a < b) (fun a b _ _ h1 h2 => by omega) h (setI_lt ns) ((List.perm_ext_iff_of_nodup (h.imp fun h => by omega) ((setI_lt ns).imp fun h => by omega)).mpr fun k => (m k).trans mem_setI.symm)
theorem pd_sortSet {X : Cx} {E : XK} {a : Expr} {d : D} {p p2 q pos : Pos} (ow : Bool) (hc : X.calm = true) (hg : Gl X "sorted") (hm : X.mg "sorted" = none) (hg2 : Gl X "set") (hm2 : X.mg "set" = none) (ha : PD X E a d)
    (na : starEach [a] X.env = (false, eval a X.env) :: starEach [] X.env := by rfl) : PD X E (.Call (.Name "sorted" p) [.Call (.Name "set" p2) [a] [] q] [] pos) (dSortSet ow d) :=
  PE.imp (pe_sortSet hc hg hm hg2 hm2 ha na) fun σ H Q ⟨φ, sl, h, at_, fin⟩ => seqD at_ fin fun φ1 H1 x vx h1 l1 a1 r1 f1 => by
    cases x with
    | tup xs =>
      obtain ⟨c, us, rfl, hs, ru⟩ := r1
      cases q : intsQ xs with
      | none => simp only [q] at f1; exact f1.elim
      | some ns =>
        simp only [q] at f1
        have e : us = ns.map V.int := intsQ_rp q ru
        subst e
        split at f1
        · rename_i hl
          refine ⟨c, ns, rfl, SqT.of (Fz.of hs).2, hl, fun ks p hk mk hp => ?_⟩
          rw [eq_setI hk mk]
          cases ow with
          | true => exact f1.own a1.h hp ⟨_, rfl, rowV _⟩
          | false => exact f1.newLst a1.h (rowV _) hp
        · exact f1.elim
    | _ => exact f1.elim
end Z

/-! Lay18: raise; a lambda handed to a def that catches. -/
namespace Z
open PySem L2 PyProof.Rows
section
variable {P : Program} {w : World} {K : PySem.W.Frag} {mg : Str → Option Value} {base : Heap} {x qual : Str} {params : Arguments} {body : List Stmt} {scope : Scope} {dvs : List V} {kws : List (Str × V)} {f : Addr} {fd : FuncData}
/-- .. the def's own code object told -/
theorem FunD.okC {CX : CXT} {N ps : List Str} {k : Nat} {sp : Sp} (F : FunD K x qual params body scope dvs kws f fd) (S : FnScope N ps scope) (len : ∀ vs H Q E, sp vs H Q E → vs.length = ps.length)
    (hbody : ∀ (A : Around) (outer : List Env) (s : Shared) (H : Hp) (vs : List V) (Q : VK) (E : XK), Room k (A.deeper (envOfC qual scope s.heap.objs.size f fd.code)) → sp vs H Q E →
      ∃ t, PSs (cxOf CX P w K mg base N qual scope f fd.code A outer s H E) body t ∧ t { nx := fun _ H' => Q .non H', rt := Q } (start N vs) H) : FnOk P w K mg base CX (k + 1) f fd ps sp := by
  obtain ⟨oc, od, dV, kV, doc, pm, an, cdv, ct, osl, rfl, lk, hcd, _, _⟩ := F.ex
  exact fn_of lk hcd S len fun A outer s H vs Q E hr hsp => hbody A outer s H vs Q E hr hsp
end
/-- a def that may raise: what it lets out, its frames -/
theorem tk_def {CX : CXT} {P : Program} {w : World} {K : PySem.W.Frag} {mg : Str → Option Value} {base : Heap} {N : List Str} {q : Str} {sc : Scope} {f : Addr} {cd : Value} {A : Around} {outer : List Env} {s : Shared} {H : Hp} {E : XK} : Takes (cxOf (L2.CX P w) P w K mg base N q sc f cd A outer s H E) (fun cls d _ H => E cls d H) := takes_of rfl rfl rfl rfl
theorem po_def {CX : CXT} {P : Program} {w : World} {K : PySem.W.Frag} {mg : Str → Option Value} {base : Heap} {N : List Str} {q : Str} {sc : Scope} {f : Addr} {cd : Value} {A : Around} {outer : List Env} {s : Shared} {H : Hp} {E : XK} :
    PassesOwn (model P w) (cxOf (L2.CX P w) P w K mg base N q sc f cd A outer s H E).A (cxOf (L2.CX P w) P w K mg base N q sc f cd A outer s H E).env (cxOf (L2.CX P w) P w K mg base N q sc f cd A outer s H E).xe := passes_of (X := cxOf (L2.CX P w) P w K mg base N q sc f cd A outer s H E) rfl
theorem ps_def {X : Cx} {E : XK} (tk : Takes X (fun cls d _ H => E cls d H)) : Passes (L2.CX X.prog X.w) X E := passes_call tk fun _ _ _ _ z => z
/-! ### raise -/
def dRaise (c : Str) : DS := fun sl h => some (.exc c, sl, h)
/-- what is known of an own exception class -/
structure ExC (K : PySem.W.Frag) (mg : Str → Option Value) (x : Str) : Prop where
  ex : ∃ C, mg x = some (.ref C) ∧ PySem.W.excIn K C He.veBase "ValueError.__new__" = true ∧ PySem.W.keepIn K (.ref C) = true ∧ PySem.W.subIn K (.ref C) (.type "BaseException") = some true ∧ PySem.W.typeIn K (.ref C) = some (.type "type")
section
variable {X : Cx} {E : XK}
theorem pds_raise {x m : Str} {j : Nat} {p p2 pos pos' : Pos} (hc : X.calm = true) (tk : Takes X (fun cls d _ H => E cls d H)) (C : ExC X.K X.mg x) (hg : Gl X x) (hdb : (x == ("__debug__" : Str)) = false := by decide) :
    PDS X E (.Raise (some (.Call (.Name x p) [.Constant (.str m) j p2] [] pos)) none pos') (dRaise x) := by
  obtain ⟨C, gC, q, kC, s1, s2⟩ := C.ex
  exact PS.imp (ps_raise hc tk (pmk_own PySem.F.excBase_ValueError q gC kC (raises_own s1 s2) hg hdb)) fun De σ H ⟨φ, sl, h, at_, fin⟩ => fin φ H C (Le.refl _ _) at_.h gC
end
/-! ### a lambda handed to a def that catches -/
section
variable {K : PySem.W.Frag} {φ : Ow} {H H1 : Hp} {h : Hv} {sl : Sl} {σ : L2.St}
/-- all but the tables stay -/
theorem le_extN (r : RelH K φ H h) (e : LamX.ExtN H H1) (t : LamX.Tabs (TB K) H1) : Le φ H φ H1 ∧ RelH K φ H1 h := by
  have ex : Ex (Fz φ H) (Fz φ H1) := fun a o q => Fz.mk (Fz.of q).1 (e a o (Fz.of q).2 (Fz.nt q)) (Fz.nt q)
  have l : Le φ H φ H1 := ⟨⟨[], by simp⟩, rfl, ex, fun a od u q => e a _ q (fun ps z => nomatch z), fun a m => by
    obtain ⟨o, q, _, p⟩ := r.hd a m
    rw [q]
    exact e a o q p.nt⟩
  refine ⟨l, r.nd, r.dis, fun a m => ?_, r.len, fun n a o e1 e2 => ?_, t⟩
  · obtain ⟨o, q, z, p⟩ := r.hd a m
    exact ⟨o, e a o q p.nt, z, p⟩
  · obtain ⟨ho, q, z⟩ := r.ob n a o e1 e2
    exact ⟨ho, e a ho q z.plain.nt, z.mono (fun _ _ z => z) ex⟩
end
/-- try: call() / except CS: return True / return False -/
def TTref (K : PySem.W.Frag) (CS : Addr) : (XK → Hp → VK → Prop) → Hp → VK → Prop := fun tl H Q =>
  tl (fun cls _ H' => ∃ b, PySem.W.exmOne K cls (.ref CS) = some b ∧ (b = true → Q (.bl true) H') ∧ (b = false → False)) H (fun _ H' => Q (.bl false) H')
theorem ref_gives {X : Cx} {Ng : List Str} {x a e q : Str} {sg : Scope} {g CS : Addr} {cdg : Value} {j j' : Nat} {p1 p2 p3 p4 p5 p6 p7 p8 p9 p10 : Pos} (hge : sg.names.lookup e = some .globalImplicit) (hme : X.mg e = some (.ref CS)) (hde : (e == ("__debug__" : Str)) = false) (h0 : ∀ f : Addr, (L2.start Ng [V.ref f])[0]? = some (some (V.ref f)))
    (hsw : ∀ (s : Shared) (H : Hp) (pn : List (Addr × Obj)) (xe : Value → Shared → Prop), swapsWith (.Call (.Name a p1) [] [] p2) none p3.line ((cxOf C8.CX0 X.prog X.w X.K X.mg X.base Ng x sg g cdg X.A X.stack s H C8.E0).nox.tr pn xe).env = pure false := by intros; rfl) :
    LamX.GivesTo X Ng x sg g cdg [.Try [.Expr (.Call (.Name a p1) [] [] p2) p3] [.ExceptHandler (some (.Name e p4)) none [.Return (some (.Constant (.bool true) j p5)) p6] p7] [] [] p8, .Return (some (.Constant (.bool false) j' p9)) p10] a q (TTref X.K CS) := by
  intro f c' s H Q tl act hc h
  have hgl : Gl (cxOf C8.CX0 X.prog X.w X.K X.mg X.base Ng x sg g cdg X.A X.stack s H C8.E0).nox e := hge
  refine ⟨_, pss_cons (ps_try_only (X := (cxOf C8.CX0 X.prog X.w X.K X.mg X.base Ng x sg g cdg X.A X.stack s H C8.E0).nox) (c := .ref CS)
      (tb := fun W D σ H => ∃ Ech : XK, (∀ cls d σ' H', Ech cls d H' → W cls d σ' H') ∧ σ[0]? = some (some (.ref f)) ∧ H c' = some (LamX.CodeO c' q) ∧ tl Ech H (fun _ H' => D.nx σ H'))
      rfl rfl ⟨hgl, hde, .inl hme⟩ LamX.takes0 (fun W pn xe tk _ => ?_) (fun a oe cls d pn _ _ => pss_one (ps_ret pe_bl))) (pss_one (ps_ret pe_bl)), ?_⟩
  · refine ⟨fun pins s' σ H' D I h' => ?_⟩
    obtain ⟨Ech, hW, h1, h2, h3⟩ := h'
    have hp := act W pn xe Ech p1 p2 tk hW
    have hq := pss_one (ps_expr (pos := p3) hp (hsw s H pn xe))
    exact hq.run pins s' σ H' D I ⟨h1, h2, h3⟩
  · exact ⟨fun cls _ H' => ∃ b, PySem.W.exmOne X.K cls (.ref CS) = some b ∧ (b = true → Q (.bl true) H') ∧ (b = false → False), fun cls d σ' H' ⟨b, e1, e2, e3⟩ => ⟨b, e1, fun hb a _ => e2 hb, fun hb => e3 hb⟩, h0 f, hc, h⟩
def dRefused (cs : List Str) (d : D) : D := fun sl h => match d sl h with
  | some (.ok _, h') => endD false h.length (.bl false) h'
  | some (.exc c, h') => if c ∈ cs then endD false h.length (.bl true) h' else none
  | none => none
section
variable {X : Cx} {E : XK}
theorem pd_refused {x a : Str} {g c P CS : Addr} {k : Nat} {pg : Arguments} {bg : List Stmt} {sg : Scope} {dV kV doc pm cdv ct oc : Value} {an od : Option Addr} {osl : Array (Option Value)} {Ng : List Str}
    {params : Arguments} {body : Expr} {scope : Scope} {d : D} {cs : List Str} {p lpos pos : Pos} (hg : Gl X x) (hm : X.mg x = some (.ref g)) (hk : PySem.W.keepIn X.K (.ref g) = true)
    (lk : X.K.lookup g = some ⟨oc, od, .func (PySem.W.fnOf x x pg bg sg dV kV doc pm an cdv ct), osl⟩) (hcg : PySem.W.codeIn X.K cdv x = true) (hb : L2.Binds X.K (PySem.W.fnOf x x pg bg sg dV kV doc pm an cdv ct) [a] []) (Sg : FnScope Ng [a] sg) (hNg : Ng[0]? = some a) (hva : Vis sg a)
    (hG : LamX.GivesTo X Ng x sg g cdv bg a (X.env.qual ++ "<lambda>") (TTref X.K CS))
    (TBh : LamX.TabB X.base X.mg c P) (hcode : X.env.code = .ref c) (hmT : (P, X.env.qual ++ "<lambda>") ∈ TB X.K) (hu : ∀ p ∈ TB X.K, p.1 = P → p.2 = X.env.qual ++ "<lambda>") (hr : Room (k + 2) X.A) (L : LamX.LamS X.env.scope scope) (hdef : defaultsOf params X.env = ([], []))
    (hbind : ∀ (q : Str) (cl : List (Str × Addr)) (pm cv ctv : Value), bindArgs (PySem.W.kla_fn "<lambda>" q params body scope cl pm cv ctv) ⟨[], []⟩ = pure [])
    (hs : ∀ c' ∈ cs, ∀ C, X.mg c' = some (.ref C) → PySem.W.exmOne X.K (.ref C) (.ref CS) = some true)
    (hbody : ∀ (A : Around) (outer : List Env) (s : Shared) (H : Hp) (E : XK) (f c' : Addr), Room k (A.deeper (LamX.lamEnv X scope s.heap.objs.size f c')) → PD (LamX.lamCx X A outer s H E scope f c') E body d)
    (hdb : (x == ("__debug__" : Str)) = false := by decide) (hd : (a == ("__debug__" : Str)) = false := by decide) (hcd : (a == ("__classdict__" : Str)) = false := by decide) :
    PD X E (.Call (.Name x p) [.Lambda params body scope lpos] [] pos) (dRefused cs d) := by
  refine PE.imp (LamX.pe_lamcall (t := fun E => tD X.K X.mg E d) hg hm hk lk hcg hb Sg hNg hva hG TBh hcode hmT hu hr L hdef hbind hbody hdb hd hcd) fun σ H Q ⟨φ, sl, h, at_, fin⟩ => ?_
  refine ⟨at_.h.tab, fun H1 e t => ?_⟩
  obtain ⟨l1, r1⟩ := le_extN at_.h e t
  refine ⟨φ, sl, h, ⟨at_.s.le l1, r1⟩, ?_⟩
  have fin : Fin X.K X.mg (wV X.K Q) E φ H1 (dRefused cs d sl h) := fin.le l1
  unfold dRefused at fin
  cases q : d sl h with
  | none => rw [q] at fin; exact fin.elim
  | some r =>
    obtain ⟨r, h'⟩ := r
    rw [q] at fin
    cases r with
    | ok t => exact fun φ' H' l rh v _ => endD_ok (v := .bl false) r1 fin l rh rfl
    | exc c =>
      intro φ' H' C l rh mc
      by_cases hc : c ∈ cs
      · simp only [if_pos hc] at fin
        exact ⟨true, hs c hc C mc, fun _ => endD_ok (v := .bl true) r1 fin l rh rfl, fun z => nomatch z⟩
      · simp only [if_neg hc] at fin
        exact fin.elim
theorem tk_lam {A : Around} {outer : List Env} {s : Shared} {H : Hp} {scope : Scope} {f c' : Addr} : Takes (LamX.lamCx X A outer s H E scope f c') (fun cls d _ H => E cls d H) := takes_of (X := LamX.lamCx X A outer s H E scope f c') rfl rfl rfl rfl
theorem po_lam {A : Around} {outer : List Env} {s : Shared} {H : Hp} {scope : Scope} {f c' : Addr} : PassesOwn (model (LamX.lamCx X A outer s H E scope f c').prog (LamX.lamCx X A outer s H E scope f c').w) (LamX.lamCx X A outer s H E scope f c').A (LamX.lamCx X A outer s H E scope f c').env (LamX.lamCx X A outer s H E scope f c').xe := passes_of (X := LamX.lamCx X A outer s H E scope f c') rfl
/-- what is known of a def's code object and its table -/
structure KT (K : PySem.W.Frag) (mg : Str → Option Value) (base : Heap) (fd : FuncData) (q : Str) : Prop where
  ex : ∃ c P, fd.code = .ref c ∧ LamX.TabB base mg c P ∧ (P, q) ∈ TB K ∧ ∀ p ∈ TB K, p.1 = P → p.2 = q
theorem pd_refusedF {x a : Str} {g CS : Addr} {k : Nat} {pg : Arguments} {bg : List Stmt} {sg : Scope} {fd fdX : FuncData} {Ng : List Str} {params : Arguments} {body : Expr} {scope : Scope} {d : D} {cs : List Str} {p lpos pos : Pos}
    (F : FunD X.K x x pg bg sg [] [] g fd) (hg : Gl X x) (hm : X.mg x = some (.ref g)) (hb : L2.Binds X.K fd [a] []) (Sg : FnScope Ng [a] sg) (hNg : Ng[0]? = some a) (hva : Vis sg a)
    (hG : ∀ cdg, LamX.GivesTo X Ng x sg g cdg bg a (X.env.qual ++ "<lambda>") (TTref X.K CS))
    (T : KT X.K X.mg X.base fdX (X.env.qual ++ "<lambda>")) (hcode : X.env.code = fdX.code) (hr : Room (k + 2) X.A) (L : LamX.LamS X.env.scope scope) (hdef : defaultsOf params X.env = ([], []))
    (hbind : ∀ (q : Str) (cl : List (Str × Addr)) (pm cv ctv : Value), bindArgs (PySem.W.kla_fn "<lambda>" q params body scope cl pm cv ctv) ⟨[], []⟩ = pure [])
    (hs : ∀ c' ∈ cs, ∀ C, X.mg c' = some (.ref C) → PySem.W.exmOne X.K (.ref C) (.ref CS) = some true)
    (hbody : ∀ (A : Around) (outer : List Env) (s : Shared) (H : Hp) (E : XK) (f c' : Addr), Room k (A.deeper (LamX.lamEnv X scope s.heap.objs.size f c')) → PD (LamX.lamCx X A outer s H E scope f c') E body d)
    (hdb : (x == ("__debug__" : Str)) = false := by decide) (hd : (a == ("__debug__" : Str)) = false := by decide) (hcd : (a == ("__classdict__" : Str)) = false := by decide) :
    PD X E (.Call (.Name x p) [.Lambda params body scope lpos] [] pos) (dRefused cs d) := by
  obtain ⟨oc, od, dV, kV, doc, pm, an, cdv, ct, osl, rfl, lk, hcd', hD, hK⟩ := F.ex
  obtain ⟨c, P, e1, e2, e3, e4⟩ := T.ex
  exact pd_refused hg hm F.kp lk hcd' hb Sg hNg hva (hG cdv) e2 (hcode.trans e1) e3 e4 hr L hdef hbind hs hbody hdb hd hcd
end
end Z

/-! Lay19: ends with tables. -/
namespace Z
open PySem L2 PyProof.Rows
theorem all_cons {p : Str → Prop} {c : Str} {l : List Str} (h : p c) (t : ∀ c ∈ l, p c) : ∀ c' ∈ c :: l, p c' := List.forall_mem_cons.mpr ⟨h, t⟩
theorem all_nil {p : Str → Prop} : ∀ c ∈ ([] : List Str), p c := fun _ m => nomatch m
theorem nodup_fst {α β : Type} : ∀ {l : List (α × β)} {p q : α × β}, (l.map (·.1)).Nodup → p ∈ l → q ∈ l → p.1 = q.1 → p = q
  | [], _, _, _, h, _, _ => nomatch h
  | x :: l, p, q, nd, hp, hq, e => by
    obtain ⟨n1, n2⟩ := List.nodup_cons.mp (by simpa using nd : (x.1 :: l.map (·.1)).Nodup)
    cases List.mem_cons.mp hp with
    | inl h1 => cases List.mem_cons.mp hq with
      | inl h2 => rw [h1, h2]
      | inr h2 => exact absurd (List.mem_map.mpr ⟨q, h2, by rw [← e, h1]⟩) n1
    | inr h1 => cases List.mem_cons.mp hq with
      | inl h2 => exact absurd (List.mem_map.mpr ⟨p, h1, by rw [e, h2]⟩) n1
      | inr h2 => exact nodup_fst n2 h1 h2 e
def exB (K : PySem.W.Frag) : Bool := decide (((TB K).map (·.1)).Nodup)
theorem kt_of {K : PySem.W.Frag} {mg : Str → Option Value} {base : Heap} {p : He.Defn} {x qual q : Str} {params : Arguments} {body : List Stmt} {scope : Scope} {fd : FuncData} {f : Addr} (F : FunD K x qual params body scope [] [] f fd) (hf : He.fAd K p = f)
    (tb : LamX.TabB base mg (He.cT K p).1 (He.cT K p).2) (hm : ((He.cT K p).2, q) ∈ TB K) (nd : exB K = true) : KT K mg base fd q := by
  obtain ⟨oc, od, dV, kV, doc, pm, an, cdv, ct, osl, e, lk, hcd, hD, hK⟩ := F.ex
  obtain ⟨c, rfl⟩ := He.codeIn_ref hcd
  have e1 : fd.code = .ref c := by rw [e]
  have e2 := He.codeOf_eq (p := p) (by rw [hf]; exact lk) e1
  have e3 : (He.cT K p).1 = c := e2
  have nd := of_decide_eq_true nd
  rw [e3] at tb
  exact ⟨c, _, e1, tb, hm, fun p' hp' z => by rw [nodup_fst nd hp' hm z]⟩
theorem tabs0 {K : PySem.W.Frag} {H : Hp} (h : ∀ p ∈ TB K, H p.1 = some (.tbl #[])) : LamX.Tabs (TB K) H := fun p hp => LamX.TabS.nil (h p hp)
theorem sql_fz {K : PySem.W.Frag} {H : Hp} {a : Addr} {vs : List V} (h : SqL K H a vs) : SqL K (Fz ⟨[], []⟩ H) a vs := by
  have no : ∀ b, ¬ Ow.has ⟨[], []⟩ b := fun b m => m.elim (fun m => nomatch m) (fun m => nomatch m)
  rcases h with h | h
  · refine .inl ?_
    rcases h with h | ⟨o, h⟩
    · exact .inl (Fz.mk (no a) h)
    · exact .inr ⟨o, Fz.mk (no a) h⟩
  · exact .inr h
theorem law_endT {K : PySem.W.Frag} {mg : Str → Option Value} {E : XK} {H : Hp} {a : Addr} {ns : List Int} {d : List T → M T} (hT : ∀ p ∈ TB K, H p.1 = some (.tbl #[])) (hS : SqL K H a (ns.map V.int)) (h : ∃ h', d [.arg (ns.map .int)] [] = some (.ok (.bl true), h')) : spD K mg 1 d [.ref a] H (fun v _ => v = .bl true) E := by
  obtain ⟨h', e⟩ := h
  have hr : ∀ ns : List Int, RpL K ⟨[], []⟩ (Fz ⟨[], []⟩ H) (ns.map .int) (ns.map V.int) := fun ns => by
    induction ns with
    | nil => rfl
    | cons n ns ih => exact ⟨.int n, _, rfl, rfl, ih⟩
  refine ⟨rfl, ⟨[], []⟩, [], [.arg (ns.map .int)], ⟨List.nodup_nil, (fun _ m => nomatch m), (fun _ m => nomatch m), rfl, (fun n a o e => by simp at e), tabs0 hT⟩, ⟨.ref a, [], rfl, ⟨a, _, rfl, sql_fz hS, hr ns⟩, rfl⟩, ?_⟩
  rw [e]
  exact fun φ' H' l r v rv => rv
end Z

/-! Lay20: a lambda with one parameter; min(xs, key=lambda a: ..). -/
namespace Z
open PySem L2 PyProof.Rows
/-! ### a lambda with one parameter -/
/-- the outer names, the parameter's own hidden, then the parameter -/
def lamN (N : List Str) (a : Str) : List Str := N.map (fun y => if y == a then ("" : Str) else y) ++ [a]
def lamCx1 (X : Cx) (A : Around) (outer : List Env) (s : Shared) (H : Hp) (E : XK) (scope : Scope) (f c' : Addr) (a : Str) : Cx where
  prog := X.prog
  w := X.w
  K := X.K
  mg := X.mg
  base := X.base
  A := A.deeper (LamX.lamEnv X scope s.heap.objs.size f c')
  N := lamN X.N a
  s_0 := s
  H_0 := H
  env := LamX.lamEnv X scope s.heap.objs.size f c'
  outer := outer
  stack := LamX.lamEnv X scope s.heap.objs.size f c' :: outer
  ex := []
  fn := fun _ => false
  calm := true
  pn := []
  xe := fun e s' => wpAny (model X.prog X.w) (A.deeper (LamX.lamEnv X scope s.heap.objs.size f c')) (leaving (LamX.lamEnv X scope s.heap.objs.size f c') e) (fun _ s'' => L2.CX X.prog X.w outer H s E e s'') (fun e' s'' => L2.CX X.prog X.w outer H s E e' s'') s'
structure Lam1 (sc scope : Scope) (a : Str) : Prop where
  kind : scope.kind = .function
  co : scope.isCoroutine = false
  gen : scope.isGenerator = false
  par : scope.names.lookup a = some .local
  own : ∀ y ∈ scope.names, y.2 ≠ .cell ∧ (y.2 = .local → y.1 = a)
  emp : scope.names.lookup ("" : Str) = none
  free : ∀ y ∈ scope.names, y.2 = .free → sc.names.lookup y.1 = some .cell ∨ sc.names.lookup y.1 = some .free
def lam1B (sc scope : Scope) (a : Str) : Bool :=
  decide (scope.kind = .function) && !scope.isCoroutine && !scope.isGenerator && decide (scope.names.lookup a = some .local) && decide (scope.names.lookup ("" : Str) = none) &&
    scope.names.all fun y => !decide (y.2 = .cell) && (!decide (y.2 = .local) || decide (y.1 = a)) && (!decide (y.2 = .free) || decide (sc.names.lookup y.1 = some .cell) || decide (sc.names.lookup y.1 = some .free))
theorem lam1_by {sc scope : Scope} {a : Str} (h : lam1B sc scope a = true) : Lam1 sc scope a := by
  unfold lam1B at h
  simp only [Bool.and_eq_true, Bool.or_eq_true, Bool.not_eq_true', decide_eq_true_eq, decide_eq_false_iff_not, List.all_eq_true] at h
  obtain ⟨⟨⟨⟨⟨h1, h2⟩, h3⟩, h5⟩, h6⟩, h4⟩ := h
  refine ⟨h1, h2, h3, h5, fun y hy => ⟨(h4 y hy).1.1, fun e => ?_⟩, h6, fun y hy e => ?_⟩
  · rcases (h4 y hy).1.2 with z | z
    · exact absurd e z
    · exact z
  · rcases (h4 y hy).2 with (z | z) | z
    · exact absurd e z
    · exact .inl z
    · exact .inr z
theorem Lam1.has {X : Cx} {scope : Scope} {a : Str} (L : Lam1 X.env.scope scope a) (ok : X.Ok) : ∀ y ∈ scope.names, y.2 = .free → ∃ c, X.env.cells.lookup y.1 = some c := fun y hy e => by
  rcases L.free y hy e with k | k
  · exact ok.has _ (.inl k)
  · exact ok.has _ (.inr k)
section
variable {X : Cx} {pins : List (Addr × Obj)} {σ : L2.St} {H : Hp} {s : Shared} {a : Str}
open LamX in
theorem lam_start1 {A : Around} {outer : List Env} {E : XK} {scope : Scope} {f c' : Addr} {h₁ : Heap} {tk : Nat} {v : V} {u : Value} (I : Inv X pins σ H s) (L : Lam1 X.env.scope scope a) (e0 : Env0 X.prog X.w X.K X.mg X.base A outer s H) (hd : A.handled = none)
    (rv : RelV v u) (hns : h₁.Ns s.heap.objs.size fun y => ([(a, u)] : List (Str × Value)).reverse.lookup y) (kp : ∀ b o, s.heap.get? b = some o → h₁.get? b = some o) :
    Inv (lamCx1 X A outer s H E scope f c' a) [] (σ ++ [some v]) H { s with heap := h₁, toks := tk } := by
  have hfree := L.has I.ok
  have cm : ∀ {y c}, (cloFrom X.env.cells scope.names []).lookup y = some c → X.env.cells.lookup y = some c := fun {y c} e => by
    rcases cloFrom_mem (PySem.mem_of_lookup e) with hm | ⟨h1, h2⟩
    · cases hm
    · obtain ⟨c1, hc⟩ := hfree _ h1 rfl
      have hc : X.env.cells.lookup y = some c1 := hc
      have e2 : c = c1 := by
        rw [h2, hc] <;> rfl
      rw [e2]
      exact hc
  have look : ∀ {y}, scope.names.lookup y = some .free → ∃ c, (cloFrom X.env.cells scope.names []).lookup y = some c := fun {y} hl => by
    have hy : (y, NameKind.free) ∈ scope.names := PySem.mem_of_lookup hl
    exact mem_lookup (cloFrom_has (cells := X.env.cells) (acc := []) hy)
  have cellK : ∀ {c : Addr} {v : Option Value}, s.heap.IsCell c v → h₁.IsCell c v := fun {c v} ⟨o, ho, hd⟩ => ⟨o, kp _ _ ho, hd⟩
  have noA : ∀ b : Addr, b ∉ (lamCx1 X A outer s H E scope f c' a).ex := fun b z => absurd (show b ∈ ([] : List Addr) from z) (by simp)
  refine ⟨⟨e0.mod, L.kind, rfl, rfl, Nat.le_refl _, fun y z c e1 e2 => I.ok.inj y z c (cm e1) (cm e2), fun y hy => ?_, fun y c z _ => ?_, fun _ => hd, Around.frames_deeper e0.frames, .inr ⟨rfl, rfl⟩, fun b z => absurd z (noA b), e0.bs, e0.bsz, fun b _ _ => noA b,
      fun b z => absurd z (noA b), e0.funs, e0.frf⟩,
    rfl, e0.bare, Un.kept kp, ⟨_, hns, fun i y v' e1 e2 e3 => ?_⟩, fun y c e => ?_, e0.hok.fresh (Nat.le_refl _), fun y c e => I.freeC y c (cm e), fun q hq => absurd (show q ∈ ([] : List (Addr × Obj)) ++ [] from hq) (by simp), e0.hok.kept kp, ?_⟩
  · have hy : scope.names.lookup y = some .cell ∨ scope.names.lookup y = some .free := hy
    rcases hy with hy | hy
    · exact absurd rfl (L.own _ (PySem.mem_of_lookup hy)).1
    · exact look hy
  · have z : false = true := z
    cases z
  · have e3 : Vis scope y := e3
    have e1 : (lamN X.N a)[i]? = some y := e1
    unfold lamN at e1
    by_cases hi : i < σ.length
    · have hi2 : i < X.N.length := by rw [← I.len]; exact hi
      rw [List.getElem?_append_left (by rw [List.length_map]; exact hi2), List.getElem?_map] at e1
      rw [List.getElem?_append_left hi] at e2
      obtain ⟨y0, q1, q2⟩ := Option.map_eq_some_iff.mp e1
      by_cases hya : (y0 == a) = true
      · rw [if_pos hya] at q2
        subst q2
        rcases e3 with k | k | k <;> · rw [L.emp] at k; cases k
      · rw [if_neg hya] at q2
        subst q2
        rcases e3 with k | k | k
        · exact absurd (beq_iff_eq.mpr ((L.own _ (PySem.mem_of_lookup k)).2 rfl)) hya
        · exact absurd rfl (L.own _ (PySem.mem_of_lookup k)).1
        · obtain ⟨m, hn, hl⟩ := I.loc
          have hvis : Vis X.env.scope y0 := (L.free _ (PySem.mem_of_lookup k) rfl).elim (fun k => .inr (.inl k)) (fun k => .inr (.inr k))
          obtain ⟨w', r, q⟩ := hl i y0 v' q1 e2 hvis
          obtain ⟨c2, h2⟩ := look k
          refine ⟨w', r, .inr ⟨.inr k, c2, h2, ?_⟩⟩
          have c1 := cm h2
          rcases q with ⟨k', _⟩ | ⟨_, c3, e', z⟩
          · have k' : X.env.scope.names.lookup y0 = some .local := k'
            rcases L.free _ (PySem.mem_of_lookup k) rfl with k2 | k2 <;> rw [show X.env.scope.names.lookup y0 = _ from k2] at k' <;> cases k'
          · rw [c1] at e'
            cases e'
            exact cellK z
    · have hl : σ.length ≤ i := Nat.le_of_not_lt hi
      rw [List.getElem?_append_right hl] at e2
      rw [List.getElem?_append_right (by rw [List.length_map, ← I.len]; exact hl), List.length_map, ← I.len] at e1
      have h0 : i - σ.length = 0 := by
        cases q : i - σ.length with
        | zero => rfl
        | succ n => rw [q] at e1; simp at e1
      rw [h0] at e1 e2
      have ey : a = y := by simpa using e1
      have ev : v = v' := by simpa using e2
      subst ey
      subst ev
      refine ⟨u, rv, .inl ⟨L.par, ?_⟩⟩
      show ([(a, u)] : List (Str × Value)).reverse.lookup a = some u
      simp [List.lookup]
  · obtain ⟨w', z⟩ := I.cell y c (cm e)
    exact ⟨w', cellK z⟩
  · show (σ ++ [some v]).length = (lamN X.N a).length
    unfold lamN
    rw [List.length_append, List.length_append, List.length_map, I.len]
    rfl
/-- the lambda called by a built-in function -/
theorem lam_call1 {f c' : Addr} {pm ctv : Value} {params : Arguments} {body : Expr} {scope : Scope} {k : Nat} {tb : TE} {v : V} {u : Value} {Q : VK}
    (I : Inv X pins σ H s) (L : Lam1 X.env.scope scope a) (hf : s.heap.get? f = some (PySem.W.kla_obj "<lambda>" (X.env.qual ++ "<lambda>") params body scope (cloFrom X.env.cells scope.names []) pm c' ctv)) (hc : H c' = some (LamX.CodeO c' (X.env.qual ++ "<lambda>")))
    (hbind : ∀ (q : Str) (cl : List (Str × Addr)) (pm cv ctv : Value) (u : Value), bindArgs (PySem.W.kla_fn "<lambda>" q params body scope cl pm cv ctv) ⟨[u], []⟩ = pure [(a, u)]) (hr : Room (k + 2) X.A)
    (hbody : ∀ (outer : List Env) (s : Shared) (H : Hp), Room k (X.A.in1.deeper (LamX.lamEnv X scope s.heap.objs.size f c')) → PE (lamCx1 X X.A.in1 outer s H C8.E0 scope f c' a) body tb)
    (rv : RelV v u) (h : tb (σ ++ [some v]) H Q) : wpAny (model X.prog X.w) X.A.in1 (call (.ref f) [u]) (EP X pins σ Q) (fun _ _ => False) s := by
  obtain ⟨⟨oc, vs, t, hoc, hdc, hvc⟩, _, _⟩ := I.hok c' _ hc
  have hr1 : Room (k + 1) X.A.in1 := hr.in1
  have rc : codeAny (model X.prog X.w) X.A.in1 (.call (.ref f) ⟨[u], []⟩) (CR (L2.CX X.prog X.w) X.stack X.prog X.w H s Q C8.E0) s := by
    refine PySem.W.kla_callFunE hr1.depth hf rfl L.co L.gen rfl ⟨c', oc, vs, t, rfl, hoc, hdc, hvc⟩ ?_
    rw [hbind]
    refine wpAny_pure (wpAny_newFunctionEnv (fun y hy => (L.own y hy).1) (fun y hy => ?_) (fun h₁ hns hsb => ⟨I.nolimit.fresh _ hsb, ?_⟩) L.kind)
    · rw [List.mem_singleton.mp hy]
      exact L.par
    show codeAny _ _ (.expr body (LamX.lamEnv X scope s.heap.objs.size f c')) _ _
    have kp : ∀ b o, s.heap.get? b = some o → h₁.get? b = some o := fun b o e => hsb.extBut b o (Nat.ne_of_lt (Heap.lt_size e)) (Heap.get?_push_of_some _ e)
    have J : Inv (lamCx1 X X.A.in1 X.stack s H C8.E0 scope f c' a) [] (σ ++ [some v]) H { s with heap := h₁, toks := s.toks + ([(a, u)] : List (Str × Value)).length } :=
      lam_start1 I L I.env0.in1 hr1.hd rv hns kp
    refine PySem.W.kla_codeExpr (wpAny_mono ((hbody _ s H (hr1.deeper _)).run [] _ _ H Q J h) (fun v s' hq => ?_) fun e s' hq => hq)
    obtain ⟨w', H', J', rv, q⟩ := hq
    exact ⟨w', H', J'.os, J'.bare, J'.base, J'.hok, rv, q⟩
  refine wpAny_call (codeAny_mono rc fun r s' hq => ?_)
  cases r with
  | error e =>
    obtain ⟨_, _, _, _, _, _, _, _, _, _, _, _, z⟩ := (show L2.CX X.prog X.w X.stack H s C8.E0 e s' from hq)
    exact z.elim
  | ok fl =>
    cases fl with
    | ret u => exact I.after hq
    | next => exact False.elim hq
    | brk => exact False.elim hq
    | cont => exact False.elim hq
end
end Z

/-! Lay21: min(xs, key=lambda a: ..) of a list. -/
namespace Z
open PySem L2 PyProof.Rows
def notNoneB : PyData → Bool
  | .none => false
  | _ => true
/-- two keys that can be compared -/
def kOk (k b : T) : Bool := SeqAt.shaped k.py && SeqAt.shaped b.py && PySem.W.alike k.py b.py && notNoneB k.py
def minLp (f : T → M T) (t : T) : Nat → Nat → T × T → M T
  | 0, _, _ => bot
  | n + 1, j, b => fun h => match slQ h t with
    | none => none
    | some xs => match xs[j]? with
      | none => if j = xs.length then some (.ok b.1, h) else none
      | some x => match f x h with
        | some (.ok k, h') => if kOk k b.2 then minLp f t n (j + 1) (if PySem.W.dataLt k.py b.2.py then (x, k) else b) h' else none
        | _ => none
def fMinK (f : T → M T) (t : T) : M T := fun h => match slQ h t with
  | some (x :: xs) => match f x h with
    | some (.ok k, h') => minLp f t (xs.length + 1) 1 (x, k) h'
    | _ => none
  | _ => none
def dMinK (dx dk : D) : D := fun sl => bnd (dx sl) fun t => fMinK (fun x => dk (sl ++ [some x])) t
section
variable {X : Cx} {pins : List (Addr × Obj)} {σ : L2.St} {H : Hp} {s : Shared} {h' : Heap}
def Fst (X : Cx) (pins : List (Addr × Obj)) (b : Addr) : Prop := b ≠ X.env.locals ∧ b ∉ X.fs ∧ (b ∈ X.ex ∨ X.s_0.heap.objs.size ≤ b) ∧ (∀ x c, X.env.cells.lookup x = some c → c ≠ b) ∧ ∀ p ∈ X.pn ++ pins, p.1 ≠ b
theorem Fst.of {H : Hp} {b : Addr} (f : FpOk X pins H b) : Fst X pins b := f.2
theorem Fst.cons {b : Addr} {p : Addr × Obj} (f : Fst X pins b) (h : p.1 ≠ b) : Fst X (p :: pins) b := ⟨f.1, f.2.1, f.2.2.1, f.2.2.2.1, fun q hq => by
  rcases List.mem_append.mp hq with z | z
  · exact f.2.2.2.2 q (List.mem_append_left _ z)
  · rcases List.mem_cons.mp z with z | z
    · rw [z]; exact h
    · exact f.2.2.2.2 q (List.mem_append_right _ z)⟩
theorem pin_sub {P' : List (Addr × Obj)} (I : Inv X pins σ H s) (h : ∀ p ∈ P', p ∈ pins) : Inv X P' σ H s := I.pins_of fun p hp => I.pin p (List.mem_append_right _ (h p hp))
/-- a pinned thing of ours turned: it is let go -/
theorem pin_off {b : Addr} {o : Obj} {t' : Nat} (I : Inv X ((b, o) :: pins) σ H s) (F : Fst X pins b) (k : ∀ c u, c ≠ b → s.heap.get? c = some u → h'.get? c = some u) : Inv X pins σ H { s with heap := h', toks := t' } := by
  have hn : H b = none := (I.pin (b, o) (List.mem_append_right _ (.head _))).2.1
  have I0 : Inv X pins σ H s := pin_sub I fun p hp => .tail _ hp
  exact I0.turned k hn F.1 F.2.2.1 F.2.2.2.1 F.2.2.2.2
/-- .. it is pinned as it is now -/
theorem pin_on {b : Addr} {o : Obj} (I : Inv X pins σ H s) (hn : H b = none) (F : Fst X pins b) (e : s.heap.get? b = some o) (d : ∀ v, o.data ≠ .cell v) : Inv X ((b, o) :: pins) σ H s :=
  I.pins_of fun p hp => by
    rcases List.mem_cons.mp hp with z | z
    · rw [z]; exact ⟨e, hn, F.1, F.2.1, d⟩
    · exact I.pin p (List.mem_append_right _ z)
theorem pin_turn {b : Addr} {o o' : Obj} {t' : Nat} (I : Inv X ((b, o) :: pins) σ H s) (F : Fst X pins b) (k : ∀ c u, c ≠ b → s.heap.get? c = some u → h'.get? c = some u) (e : h'.get? b = some o') (d : ∀ v, o'.data ≠ .cell v) : Inv X ((b, o') :: pins) σ H { s with heap := h', toks := t' } :=
  pin_on (pin_off I F k) (I.pin (b, o) (List.mem_append_right _ (.head _))).2.1 F e d
theorem RelS.snoc {K : PySem.W.Frag} {φ : Ow} {H : Hp} {sl : Sl} {σ : L2.St} (h : RelS K φ H sl σ) {t : T} {v : V} (r : Rp K φ (Fz φ H) t v) : RelS K φ H (sl ++ [some t]) (σ ++ [some v]) := by
  refine ⟨by rw [List.length_append, List.length_append, h.1]; rfl, fun i u e => ?_⟩
  by_cases hi : i < sl.length
  · rw [List.getElem?_append_left hi] at e
    obtain ⟨w, q, z⟩ := h.2 i u e
    exact ⟨w, by rw [List.getElem?_append_left (by rw [← h.1]; exact hi)]; exact q, z⟩
  · have hl : sl.length ≤ i := Nat.le_of_not_lt hi
    rw [List.getElem?_append_right hl] at e
    have h0 : i - sl.length = 0 := by
      cases q : i - sl.length with
      | zero => rfl
      | succ n => rw [q] at e; simp at e
    rw [h0] at e
    have e : t = u := by simpa using e
    subst e
    refine ⟨v, ?_, r⟩
    rw [List.getElem?_append_right (by rw [← h.1]; exact hl), ← h.1, h0]
    rfl
theorem kOk_of {k b : T} (e : kOk k b = true) : SeqAt.shaped k.py = true ∧ SeqAt.shaped b.py = true ∧ PySem.W.alike k.py b.py = true ∧ k.py ≠ .none := by
  unfold kOk at e
  simp only [Bool.and_eq_true] at e
  obtain ⟨⟨⟨e1, e2⟩, e3⟩, e4⟩ := e
  refine ⟨e1, e2, e3, fun z => ?_⟩
  rw [z] at e4
  cases e4
section
variable {K : PySem.W.Frag} {φ : Ow}
/-- a code object stays -/
theorem code_le {φ' : Ow} {H' : Hp} {h : Hv} {c' : Addr} {q : Str} (r : RelH K φ H h) (l : Le φ H φ' H') (e : H c' = some (LamX.CodeO c' q)) : H' c' = some (LamX.CodeO c' q) := by
  have nf : ¬ φ.has c' := fun z => by
    rcases z with z | z
    · obtain ⟨n, e1⟩ := List.getElem?_of_mem z
      obtain ⟨u, e2, p⟩ := r.pl e1
      rw [e] at e2; cases e2
      exact p
    · obtain ⟨o, e1, _, p⟩ := r.hd _ z
      rw [e] at e1; cases e1
      exact p
  exact (Fz.of (l.ex _ _ (Fz.mk nf e fun ps z => by unfold LamX.CodeO at z; cases z))).2
end
theorem min_loop {a : Str} {f c' S Ia l : Addr} {pm ctv : Value} {params : Arguments} {body : Expr} {scope : Scope} {k : Nat} {dk : D} {sl : Sl} {t : T} {Q : VK} {E : XK} {R : Result → Shared → Prop}
    (hh : X.A.handled = none) (L : Lam1 X.env.scope scope a) (hr : Room (k + 2) X.A)
    (hbind : ∀ (q : Str) (cl : List (Str × Addr)) (pm cv ctv : Value) (u : Value), bindArgs (PySem.W.kla_fn "<lambda>" q params body scope cl pm cv ctv) ⟨[u], []⟩ = pure [(a, u)])
    (hbody : ∀ (A : Around) (outer : List Env) (s : Shared) (H : Hp) (f c' : Addr), Room k (A.deeper (LamX.lamEnv X scope s.heap.objs.size f c')) → PD (lamCx1 X A outer s H C8.E0 scope f c' a) C8.E0 body dk)
    (FS : Fst X pins S) (FI : Fst X pins Ia) (hSI : S ≠ Ia) (hSf : S ≠ f) (hIf : Ia ≠ f)
    (hR : ∀ u s', EP X pins σ Q u s' → R (.ok (.ret u)) s') :
    ∀ (n j : Nat) (h : Hv) (φ : Ow) (H : Hp) (s : Shared) (b : T × T) (vb kb : V) (ub uk : Value) (c : Nat) (oI : Obj),
      Inv X ((S, seqObj "list" #[ub, uk] c) :: (Ia, oI) :: (f, PySem.W.kla_obj "<lambda>" (X.env.qual ++ "<lambda>") params body scope (cloFrom X.env.cells scope.names []) pm c' ctv) :: pins) σ H s →
      s.heap.IsListIter Ia l j → At X.K φ H sl σ h → Rp X.K φ (Fz φ H) t (.ref l) → l ≠ Ia → H c' = some (LamX.CodeO c' (X.env.qual ++ "<lambda>")) → Rp X.K φ (Fz φ H) b.1 vb → Rp X.K φ (Fz φ H) b.2 kb → RelV vb ub → RelV kb uk →
      Fin X.K X.mg (wV X.K Q) E φ H (minLp (fun x => dk (sl ++ [some x])) t n j b h) →
      codeAny (model X.prog X.w) X.A (.builtin "min.loop" ⟨[.ref Ia, .ref f, .ref S], []⟩) R s := by
  have hname : (toString "min" ++ toString ".loop" : String) = "min.loop" := by decide
  intro n
  induction n with
  | zero => intro j h φ H s b vb kb ub uk c oI _ _ _ _ _ _ _ _ _ _ fin; exact fin.elim
  | succ n ih =>
    intro j h φ H s b vb kb ub uk c oI I hit at_ rT hlI hc rb rk vb' vk' fin
    unfold minLp at fin
    cases q1 : slQ h t with
    | none => rw [q1] at fin; exact fin.elim
    | some xs =>
      rw [q1] at fin
      obtain ⟨a0, vs, e0, hsq, rL⟩ := slQ_rp at_.h rT q1
      cases e0
      obtain ⟨its, rv, pl, hz⟩ := I.list hsq
      have hlen : its.length = xs.length := by rw [rL.length, rv.length]
      have hsz : its.toArray.size = its.length := List.size_toArray ..
      have W := Walks.list (prog := X.prog) (w := X.w) (A := X.A.in1) hh Ia l hlI its.toArray
      have nS := (I.pin (S, seqObj "list" #[ub, uk] c) (List.mem_append_right _ (.head _))).1
      have FS1 : ∀ {oI' : Obj}, Fst X ((Ia, oI') :: (f, PySem.W.kla_obj "<lambda>" (X.env.qual ++ "<lambda>") params body scope (cloFrom X.env.cells scope.names []) pm c' ctv) :: pins) S := fun {oI'} => (FS.cons (p := (f, _)) hSf.symm).cons hSI.symm
      have FI1 : ∀ {oS : Obj}, Fst X ((S, oS) :: (f, PySem.W.kla_obj "<lambda>" (X.env.qual ++ "<lambda>") params body scope (cloFrom X.env.cells scope.names []) pm c' ctv) :: pins) Ia := fun {oS} => (FI.cons (p := (f, _)) hIf.symm).cons hSI
      have swap : ∀ {H : Hp} {s : Shared} {p1 p2 : Addr × Obj} {r : List (Addr × Obj)}, Inv X (p1 :: p2 :: r) σ H s → Inv X (p2 :: p1 :: r) σ H s := fun {H s p1 p2 r} I => pin_sub I fun p hp => by
        rcases List.mem_cons.mp hp with z | hp
        · rw [z]; exact .tail _ (.head _)
        · rcases List.mem_cons.mp hp with z | hp
          · rw [z]; exact .head _
          · exact .tail _ (.tail _ hp)
      refine codeAny_builtin PySem.F.entry_min_loop ?_
      rw [Around.under_plainId PySem.F.plain_min_loop _]
      show wpAny _ X.A.in1 (seqItems? (.ref S) >>= _) _ _ _
      refine wpAny_bind (wpAny_seqItems nS rfl ?_)
      show wpAny _ X.A.in1 (tryCatch (pyNext (.ref Ia)) _ >>= _) _ _ _
      cases q2 : xs[j]? with
      | none =>
        simp only [q2] at fin
        by_cases hj : j = xs.length
        · rw [if_pos hj] at fin
          refine wpAny_bind (wpAny_tryCatch (W.done _ _ _ ⟨by rw [hsz, hlen, ← hj]; exact hit, pl.isList⟩ fun h' tk' hk' => ?_))
          have I1 := pin_off (t' := tk') (swap I) FI1 fun d u hd e => hk' d u (by simpa using hd) e
          have nS1 := (I1.pin (S, seqObj "list" #[ub, uk] c) (List.mem_append_right _ (.head _))).1
          have s1 := Heap.SameBut.update h' S (Obj.mapSeq fun _ => (#[] : Array Value))
          show wpAny _ X.A.in1 (updateSeq S (fun _ => #[]) >>= _) _ _ _
          refine wpAny_bind ?_
          refine wpAny_updateSeq nS1 rfl (wpAny_bind (wpAny_letGo (wpAny_pure ?_)))
          have I2 := pin_off (t' := tk') I1 (FS.cons (p := (f, _)) hSf.symm) fun d u hd e => (s1.2 d hd).trans e
          exact hR ub _ ⟨vb, H, pin_sub I2 fun p hp => .tail _ hp, vb', fin.val at_.h rb⟩
        · rw [if_neg hj] at fin
          exact fin.elim
      | some x =>
        simp only [q2] at fin
        have hjl : j < xs.length := (List.getElem?_eq_some_iff.mp q2).1
        obtain ⟨vx, ex, rx⟩ := rL.get' q2
        obtain ⟨ux, eux, rvx⟩ := rv.get ex
        refine wpAny_bind (wpAny_tryCatch (W.item j _ _ _ (by rw [hsz, hlen]; exact hjl) ⟨hit, pl.isList⟩ fun v h' tk' hP hst' hk' => ?_))
        have hv : its[j]? = some v := by simpa using hP
        rw [eux] at hv
        cases hv
        obtain ⟨oI', hoI', hoc, hod⟩ := id hst'.1
        have ncell : ∀ v, oI'.data ≠ .cell v := fun v z => by rw [hod] at z; cases z
        have I1 := swap (pin_turn (o' := oI') (t' := tk') (swap I) FI1 (fun d u hd e => hk' d u (by simpa using hd) e) hoI' ncell)
        show wpAny _ X.A.in1 (tryCatch (holding [ux] (call (.ref f) [ux])) _ >>= _) _ _ _
        cases q3 : dk (sl ++ [some x]) h with
        | none => simp only [q3] at fin; exact fin.elim
        | some r3 =>
          obtain ⟨r3, h2⟩ := r3
          cases r3 with
          | exc e => simp only [q3] at fin; exact fin.elim
          | ok kx =>
            simp only [q3] at fin
            by_cases hk : kOk kx b.2 = true
            · rw [if_pos hk] at fin
              obtain ⟨k1, k2, k3, k4⟩ := kOk_of hk
              have hf := (I1.pin (f, PySem.W.kla_obj "<lambda>" (X.env.qual ++ "<lambda>") params body scope (cloFrom X.env.cells scope.names []) pm c' ctv) (List.mem_append_right _ (.tail _ (.tail _ (.head _))))).1
              refine wpAny_bind (wpAny_tryCatch (wpAny_holding (wpAny_mono (lam_call1 (k := k) (v := vx) (tb := tD X.K X.mg C8.E0 dk)
                (Q := fun v H' => ∃ φ', Le φ H φ' H' ∧ RelH X.K φ' H' h2 ∧ Rp X.K φ' (Fz φ' H') kx v) I1 L hf hc hbind hr (fun outer s H rm => hbody _ _ _ _ _ _ rm) rvx
                ⟨φ, sl ++ [some x], h, ⟨at_.s.snoc rx, at_.h⟩, ?_⟩) (fun u2 s2 he => ?_) fun _ _ hF => hF.elim)))
              · rw [q3]
                exact fun φ' H' l rh v rv => ⟨φ', l, rh, rv⟩
              obtain ⟨kv, H2, I2, rk2, φ2, l2, rh2, rpk⟩ := he
              have nS2 := (I2.pin (S, seqObj "list" #[ub, uk] c) (List.mem_append_right _ (.head _))).1
              have nI2 := (I2.pin (Ia, oI') (List.mem_append_right _ (.tail _ (.head _)))).1
              have hit2 : s2.heap.IsListIter Ia l (j + 1) := ⟨oI', nI2, hoc, hod⟩
              obtain ⟨as1, rd1⟩ := Dp.reads I2 kx.py kv u2 (Rp.dp Fz.ex kx kv (SeqAt.canLay_of_shaped k1) rpk) rk2
              obtain ⟨as2, rd2⟩ := Dp.reads I2 b.2.py kb uk (Rp.dp Fz.ex b.2 kb (SeqAt.canLay_of_shaped k2) (rk.le l2)) vk'
              have hdep : kx.py.depth ≤ 64 := of_decide_eq_true (Bool.and_eq_true_iff.mp (show (kx.py.canLay0 && decide (kx.py.depth ≤ 64)) = true from k1)).2
              have hun := hr.un
              have rc := PySem.W.rcLt_alike kx.py b.2.py X.A.in1 s2 u2 uk as1 as2 rd1 rd2 k3 k4 (show X.A.units + 1 + min kx.py.depth b.2.py.depth < cLine by omega)
              show wpAny _ X.A.in1 (tryCatch (holding [ux, u2] (richCompare .Lt u2 uk >>= _)) _ >>= _) _ _ _
              refine wpAny_bind (wpAny_tryCatch (wpAny_holding (wpAny_bind (rc _ _ _ _ ?_))))
              refine wpAny_bind (wpAny_holding (wpAny_truthy_bool ?_))
              refine wpAny_bind (wpAny_letGo (wpAny_pure ?_))
              cases hb : PySem.W.dataLt kx.py b.2.py with
              | true =>
                rw [hb] at fin
                have s1 := Heap.SameBut.update s2.heap S (Obj.mapSeq fun _ => #[ux, u2])
                obtain ⟨c2, hc2⟩ : ∃ c2, (s2.heap.update S (Obj.mapSeq fun _ => #[ux, u2])).get? S = some (seqObj "list" #[ux, u2] c2) := ⟨_, get?_update_seq nS2 fun _ => #[ux, u2]⟩
                simp only [if_true]
                refine wpAny_bind ?_
                refine wpAny_updateSeq nS2 rfl (wpAny_bind (wpAny_letGo ?_))
                rw [hname]
                have I3 := pin_turn (t' := s2.toks) I2 FS1 (fun d u hd e => (s1.2 d hd).trans e) hc2 (fun v z => by cases z)
                refine wpAny_pure ⟨plainId_quiet PySem.F.plain_min_loop _, ih (j + 1) h2 φ2 H2 _ (x, kx) vx kv ux u2 c2 oI' I3 ⟨oI', (s1.2 Ia hSI.symm).trans nI2, hoc, hod⟩ (at_.le l2 rh2) (rT.le l2) hlI (code_le at_.h l2 hc) (rx.le l2) rpk rvx rk2 (fin.le l2)⟩
              | false =>
                rw [hb] at fin
                simp only [Bool.false_eq_true, if_false]
                refine wpAny_bind (wpAny_letGo ?_)
                rw [hname]
                exact wpAny_pure ⟨plainId_quiet PySem.F.plain_min_loop _, ih (j + 1) h2 φ2 H2 _ b vb kb ub uk c oI' I2 hit2 (at_.le l2 rh2) (rT.le l2) hlI (code_le at_.h l2 hc) (rb.le l2) (rk.le l2) vb' vk' (fin.le l2)⟩
            · rw [if_neg hk] at fin
              exact fin.elim
end
end Z

/-! Lay22: min(xs, key=lambda a: ..): the call. -/
namespace Z
open PySem L2 PyProof.Rows
section
variable {X : Cx} {pins : List (Addr × Obj)} {σ : L2.St} {H : Hp} {s : Shared} {h' : Heap}
theorem fs_stack (ok : X.Ok) {f : Addr} (h : f ∉ frs X.stack) : f ∉ X.fs := fun hb => by
  rcases ok.stk with e | ⟨e, hf⟩
  · rw [e] at h; exact h hb
  · rw [e] at h
    refine h ?_
    unfold frs
    rw [List.filterMap_cons, hf]
    exact List.mem_cons_of_mem _ hb
theorem fn_nloc {f : Addr} {fd : FuncData} {o : Obj} (I : Inv X pins σ H s) (e : s.heap.get? f = some o) (d : o.data = .func fd) : f ≠ X.env.locals := fun z => by
  obtain ⟨m, ⟨o', es, ep, ho', hd', _⟩, _⟩ := I.loc
  rw [z, ho'] at e
  cases e
  rw [hd'] at d
  cases d
theorem min_start {a : Str} {f c' l : Addr} {pm ctv : Value} {params : Arguments} {body : Expr} {scope : Scope} {k : Nat} {dk : D} {sl : Sl} {t : T} {Q : VK} {E : XK} {h : Hv} {φ : Ow}
    (hh : X.A.handled = none) (L : Lam1 X.env.scope scope a) (hr : Room (k + 2) X.A)
    (hbind : ∀ (q : Str) (cl : List (Str × Addr)) (pm cv ctv : Value) (u : Value), bindArgs (PySem.W.kla_fn "<lambda>" q params body scope cl pm cv ctv) ⟨[u], []⟩ = pure [(a, u)])
    (hbody : ∀ (A : Around) (outer : List Env) (s : Shared) (H : Hp) (f c' : Addr), Room k (A.deeper (LamX.lamEnv X scope s.heap.objs.size f c')) → PD (lamCx1 X A outer s H C8.E0 scope f c' a) C8.E0 body dk)
    (I : Inv X pins σ H s) (hf : s.heap.get? f = some (PySem.W.kla_obj "<lambda>" (X.env.qual ++ "<lambda>") params body scope (cloFrom X.env.cells scope.names []) pm c' ctv)) (hfn : H f = none) (hfr : f ∉ frs X.stack)
    (hc : H c' = some (LamX.CodeO c' (X.env.qual ++ "<lambda>"))) (at_ : At X.K φ H sl σ h) (rT : Rp X.K φ (Fz φ H) t (.ref l)) (fin : Fin X.K X.mg (wV X.K Q) E φ H (fMinK (fun x => dk (sl ++ [some x])) t h)) :
    wpAny (model X.prog X.w) X.A (call (.builtin "min") [.ref l] [(Str.ofString "key", .ref f)]) (EP X pins σ Q) X.xe s := by
  have hname : (toString "min" ++ toString ".loop" : String) = "min.loop" := by decide
  unfold fMinK at fin
  cases q1 : slQ h t with
  | none => rw [q1] at fin; exact fin.elim
  | some xs =>
  rw [q1] at fin
  cases xs with
  | nil => exact fin.elim
  | cons x xs =>
  simp only at fin
  cases q3 : dk (sl ++ [some x]) h with
  | none => simp only [q3] at fin; exact fin.elim
  | some r3 =>
  obtain ⟨r3, h2⟩ := r3
  cases r3 with
  | exc e => simp only [q3] at fin; exact fin.elim
  | ok kx =>
  simp only [q3] at fin
  obtain ⟨a0, vs, e0, hsq, rL⟩ := slQ_rp at_.h rT q1
  cases e0
  obtain ⟨its, rv, pl, hz⟩ := I.list hsq
  have hlen : its.length = (x :: xs).length := by rw [rL.length, rv.length]
  have hsz : its.toArray.size = its.length := List.size_toArray ..
  obtain ⟨ol, hol, _⟩ := id pl.isList
  have hll : l < s.heap.objs.size := Heap.lt_size hol
  refine kmk_tree PySem.F.kind_min PySem.F.plain_min PySem.F.entry_min (kmk_min_key _ _) ?_
  show wpAny _ X.A.in1 (Builtin.Builtins.bindParams "min" ["key", "default"] 0 ⟨[], [(Str.ofString "key", .ref f)]⟩ >>= _) _ _ s
  refine wpAny_bind (wpAny_of_eq (show Builtin.Builtins.bindParams "min" ["key", "default"] 0 ⟨[], [(Str.ofString "key", .ref f)]⟩ = pure [some (.ref f), none] from rfl) ?_)
  refine wpAny_bind (wpAny_pure ?_)
  refine wpAny_bind (wpAny_pyIter_list pl.isList ?_)
  refine wpAny_bind (wpAny_newList ?_ (Nat.zero_le _))
  rw [hname]
  refine wpAny_pure ⟨plainId_quiet PySem.F.plain_min_loop _, ?_⟩
  obtain ⟨Ia, hIa⟩ : ∃ Ia, Ia = s.heap.objs.size := ⟨_, rfl⟩
  obtain ⟨hp1, ehp1⟩ : ∃ hp1, hp1 = s.heap.push { cls := .type "list_iterator", data := .fields #[.ref l, .int 0 0] } := ⟨_, rfl⟩
  obtain ⟨S, hS⟩ : ∃ S, S = hp1.objs.size := ⟨_, rfl⟩
  rw [← hIa, ← ehp1, ← hS]
  have hS1 : S = s.heap.objs.size + 1 := by rw [hS, ehp1]; exact size_push' ..
  have hlI : l ≠ Ia := by rw [hIa]; exact Nat.ne_of_lt hll
  have hSI : S ≠ Ia := by rw [hS1, hIa]; exact Nat.ne_of_gt (Nat.lt_succ_self _)
  have hff := Heap.lt_size hf
  have hSf : S ≠ f := by rw [hS1]; exact Nat.ne_of_gt (Nat.lt_succ_of_lt hff)
  have hIf : Ia ≠ f := by rw [hIa]; exact Nat.ne_of_gt hff
  have kp : ∀ b o, s.heap.get? b = some o → (hp1.push (seqObj "list" #[] 0)).get? b = some o := fun b o e => Heap.get?_push_of_some _ (by rw [ehp1]; exact Heap.get?_push_of_some _ e)
  have gI : (hp1.push (seqObj "list" #[] 0)).get? Ia = some { cls := .type "list_iterator", data := .fields #[.ref l, .int 0 0] } := Heap.get?_push_of_some _ (by rw [ehp1, hIa]; exact Heap.get?_push_size _ rfl)
  have gS : (hp1.push (seqObj "list" #[] 0)).get? S = some (seqObj "list" #[] 0) := by rw [hS]; exact Heap.get?_push_size _ rfl
  have nI : H Ia = none := I.hok.fresh (by rw [hIa]; exact Nat.le_refl _)
  have nS : H S = none := I.hok.fresh (by rw [hS1]; exact Nat.le_succ _)
  have FI : Fst X pins Ia := Fst.of (I.fpOk (H' := H) (by rw [hIa]; exact Nat.le_refl _) nI)
  have FS : Fst X pins S := Fst.of (I.fpOk (H' := H) (by rw [hS1]; exact Nat.le_succ _) nS)
  have Ff : (f ≠ X.env.locals ∧ f ∉ X.fs) := ⟨fn_nloc I hf rfl, fs_stack I.ok hfr⟩
  have I0 : Inv X ((S, seqObj "list" #[] 0) :: (Ia, { cls := .type "list_iterator", data := .fields #[.ref l, .int 0 0] }) :: (f, PySem.W.kla_obj "<lambda>" (X.env.qual ++ "<lambda>") params body scope (cloFrom X.env.cells scope.names []) pm c' ctv) :: pins) σ H { s with heap := hp1.push (seqObj "list" #[] 0) } := by
    have J : Inv X pins σ H { s with heap := hp1.push (seqObj "list" #[] 0) } := I.kept (t' := s.toks) kp
    refine J.pins_of fun p hp => ?_
    rcases List.mem_cons.mp hp with z | hp
    · rw [z]; exact ⟨gS, nS, FS.1, FS.2.1, fun v z => by cases z⟩
    · rcases List.mem_cons.mp hp with z | hp
      · rw [z]; exact ⟨gI, nI, FI.1, FI.2.1, fun v z => by cases z⟩
      · rcases List.mem_cons.mp hp with z | hp
        · rw [z]; exact ⟨kp _ _ hf, hfn, Ff.1, Ff.2, fun v z => by cases z⟩
        · exact J.pin p (List.mem_append_right _ hp)
  have FS1 : ∀ {oI' : Obj}, Fst X ((Ia, oI') :: (f, PySem.W.kla_obj "<lambda>" (X.env.qual ++ "<lambda>") params body scope (cloFrom X.env.cells scope.names []) pm c' ctv) :: pins) S := fun {oI'} => (FS.cons (p := (f, _)) hSf.symm).cons hSI.symm
  have FI1 : ∀ {oS : Obj}, Fst X ((S, oS) :: (f, PySem.W.kla_obj "<lambda>" (X.env.qual ++ "<lambda>") params body scope (cloFrom X.env.cells scope.names []) pm c' ctv) :: pins) Ia := fun {oS} => (FI.cons (p := (f, _)) hIf.symm).cons hSI
  have swap : ∀ {H : Hp} {s : Shared} {p1 p2 : Addr × Obj} {r : List (Addr × Obj)}, Inv X (p1 :: p2 :: r) σ H s → Inv X (p2 :: p1 :: r) σ H s := fun {H s p1 p2 r} I => pin_sub I fun p hp => by
    rcases List.mem_cons.mp hp with z | hp
    · rw [z]; exact .tail _ (.head _)
    · rcases List.mem_cons.mp hp with z | hp
      · rw [z]; exact .head _
      · exact .tail _ (.tail _ hp)
  obtain ⟨vx, ex, rx⟩ := rL.get' (show (x :: xs)[0]? = some x from rfl)
  obtain ⟨ux, eux, rvx⟩ := rv.get ex
  obtain ⟨its0, rv0, pl0, hz0⟩ := I0.list hsq
  have pl' : (hp1.push (seqObj "list" #[] 0)).IsList l its.toArray := by
    obtain ⟨o, h1, r⟩ := pl.isList
    exact ⟨o, kp _ _ h1, r⟩
  have W := Walks.list (prog := X.prog) (w := X.w) (A := X.A.in1) hh Ia l hlI its.toArray
  refine codeAny_builtin PySem.F.entry_min_loop ?_
  rw [Around.under_plainId PySem.F.plain_min_loop _]
  show wpAny _ X.A.in1 (seqItems? (.ref S) >>= _) _ _ _
  refine wpAny_bind (wpAny_seqItems gS rfl ?_)
  show wpAny _ X.A.in1 (tryCatch (pyNext (.ref Ia)) _ >>= _) _ _ _
  refine wpAny_bind (wpAny_tryCatch (W.item 0 _ _ _ (by rw [hsz, hlen]; exact Nat.zero_lt_succ _) ⟨⟨_, gI, rfl, rfl⟩, pl'⟩ fun v h' tk' hP hst' hk' => ?_))
  have hv : its[0]? = some v := by simpa using hP
  rw [eux] at hv
  cases hv
  obtain ⟨oI', hoI', hoc, hod⟩ := id hst'.1
  have ncell : ∀ v, oI'.data ≠ .cell v := fun v z => by rw [hod] at z; cases z
  have I1 := swap (pin_turn (o' := oI') (t' := tk') (swap I0) FI1 (fun d u hd e => hk' d u (by simpa using hd) e) hoI' ncell)
  have hf1 := (I1.pin (f, PySem.W.kla_obj "<lambda>" (X.env.qual ++ "<lambda>") params body scope (cloFrom X.env.cells scope.names []) pm c' ctv) (List.mem_append_right _ (.tail _ (.tail _ (.head _))))).1
  show wpAny _ X.A.in1 (tryCatch (holding [ux] (call (.ref f) [ux])) _ >>= _) _ _ _
  refine wpAny_bind (wpAny_tryCatch (wpAny_holding (wpAny_mono (lam_call1 (k := k) (v := vx) (tb := tD X.K X.mg C8.E0 dk)
    (Q := fun v H' => ∃ φ', Le φ H φ' H' ∧ RelH X.K φ' H' h2 ∧ Rp X.K φ' (Fz φ' H') kx v) I1 L hf1 hc hbind hr (fun outer s H rm => hbody _ _ _ _ _ _ rm) rvx
    ⟨φ, sl ++ [some x], h, ⟨at_.s.snoc rx, at_.h⟩, ?_⟩) (fun u2 s2 he => ?_) fun _ _ hF => hF.elim)))
  · rw [q3]
    exact fun φ' H' l rh v rv => ⟨φ', l, rh, rv⟩
  obtain ⟨kv, H2, I2, rk2, φ2, l2, rh2, rpk⟩ := he
  have nS2 := (I2.pin (S, seqObj "list" #[] 0) (List.mem_append_right _ (.head _))).1
  have nI2 := (I2.pin (Ia, oI') (List.mem_append_right _ (.tail _ (.head _)))).1
  have s1 := Heap.SameBut.update s2.heap S (Obj.mapSeq fun _ => #[ux, u2])
  obtain ⟨c2, hc2⟩ : ∃ c2, (s2.heap.update S (Obj.mapSeq fun _ => #[ux, u2])).get? S = some (seqObj "list" #[ux, u2] c2) := ⟨_, get?_update_seq nS2 fun _ => #[ux, u2]⟩
  show wpAny _ X.A.in1 (updateSeq S (fun _ => #[ux, u2]) >>= _) _ _ _
  refine wpAny_bind ?_
  refine wpAny_updateSeq nS2 rfl ?_
  rw [hname]
  have I3 := pin_turn (t' := s2.toks) I2 FS1 (fun d u hd e => (s1.2 d hd).trans e) hc2 (fun v z => by cases z)
  refine wpAny_pure ⟨plainId_quiet PySem.F.plain_min_loop _, min_loop (Q := Q) (E := E) hh L hr hbind hbody FS FI hSI hSf hIf (fun u s' hq => hq) (xs.length + 1) 1 h2 φ2 H2 _ (x, kx) vx kv ux u2 c2 oI' I3 ⟨oI', (s1.2 Ia hSI.symm).trans nI2, hoc, hod⟩ (at_.le l2 rh2) (rT.le l2) hlI (code_le at_.h l2 hc) (rx.le l2) rpk rvx rk2 (fin.le l2)⟩
/-- min(xs, key=lambda a: body) -/
theorem pd_minK {E : XK} {e body : Expr} {a : Str} {k : Nat} {d dk : D} {params : Arguments} {scope : Scope} {fdX : FuncData} {p lpos kpos pos : Pos} (hc : X.calm = true) (hg : Gl X "min") (hm : X.mg "min" = none) (he : PD X E e d)
    (T : KT X.K X.mg X.base fdX (X.env.qual ++ "<lambda>")) (hcode : X.env.code = fdX.code) (hr : Room (k + 2) X.A) (L : Lam1 X.env.scope scope a) (hdef : defaultsOf params X.env = ([], []))
    (hbind : ∀ (q : Str) (cl : List (Str × Addr)) (pm cv ctv : Value) (u : Value), bindArgs (PySem.W.kla_fn "<lambda>" q params body scope cl pm cv ctv) ⟨[u], []⟩ = pure [(a, u)])
    (hbody : ∀ (A : Around) (outer : List Env) (s : Shared) (H : Hp) (f c' : Addr), Room k (A.deeper (LamX.lamEnv X scope s.heap.objs.size f c')) → PD (lamCx1 X A outer s H C8.E0 scope f c' a) C8.E0 body dk)
    (hs0 : starEach [e] X.env = (false, eval e X.env) :: starEach [] X.env := by rfl) (hst : backTo pos (starEach [e] X.env) = (false, eval e X.env) :: backTo pos (starEach [] X.env) := by rfl) (hpl : (backTo pos (starEach [e] X.env)).any (·.1) = false := by rfl)
    (hall : (backToKw pos (keywordEach [⟨some "key", .Lambda params body scope lpos, kpos⟩] X.env)).all (·.1.isSome) = true := by rfl) (hnone : (backToKw pos (keywordEach [⟨some "key", .Lambda params body scope lpos, kpos⟩] X.env)).any (·.1.isNone) = false := by rfl)
    (hks : (backToKw pos (keywordEach [⟨some "key", .Lambda params body scope lpos, kpos⟩] X.env)).filterMap (·.1) = [Str.ofString "key"] := by rfl) :
    PD X E (.Call (.Name "min" p) [e] [⟨some "key", .Lambda params body scope lpos, kpos⟩] pos) (dMinK d dk) := by
  obtain ⟨c, P, e1, TBh, hmT, hu⟩ := T.ex
  refine ⟨fun pins s σ H Q I w => ?_⟩
  obtain ⟨φ, sl, h, at_, fin⟩ := w
  refine wpAny_Call_Name_kw (ld_blt I hg hm bt_min ?_)
  refine PyProof.Rows.callWith_kw (thn ((pda_cons he pda_nil hs0).run pos pins s σ H (fun vs H1 => ∃ v φ1 t h1, vs = [v] ∧ Le φ H φ1 H1 ∧ RelH X.K φ1 H1 h1 ∧ Rp X.K φ1 (Fz φ1 H1) t v ∧ Fin X.K X.mg (wV X.K Q) E φ1 H1 (fMinK (fun x => dk (sl ++ [some x])) t h1)) I ⟨φ, sl, h, at_, ?_⟩) fun us s1 ⟨vs, H1, I1, r1, v, φ1, t, h1, q1, q2, q3, q4, q5⟩ => ?_) hst hpl hall hnone
  · unfold dMinK at fin
    have f2 := fin.bnd
    unfold dCons dNil Z.bnd
    unfold Z.bnd at f2
    cases q : d sl h with
    | none => rw [q] at f2; exact f2
    | some r =>
      obtain ⟨r, h1⟩ := r
      rw [q] at f2
      cases r with
      | exc c => exact f2
      | ok t =>
        intro φ' H' l rh vs rvs
        obtain ⟨v, r, e1, e2, e3⟩ := rvs
        have e3 : r = [] := e3
        subst e3
        obtain ⟨h1', rh', l', f'⟩ := f2 φ' H' l rh
        refine ⟨v, φ', t, h1', e1, l, rh', e2, f'⟩
  subst q1
  obtain ⟨u, rfl, ru⟩ := vals1 r1
  rw [hks]
  show wpAny _ _ (evalAll ((do let v ← eval (.Lambda params body scope lpos) X.env; standAt pos; pure v) :: [])) _ _ s1
  refine wpAny_evalAll_cons (wpAny_bind (LamX.lam_make2 I1 TBh (hcode.trans e1) hmT hu q3.tab hdef (L.has I1.ok) fun f c' pm' ctv H2 s' I2 eN T1 hf hfn hfr hco => wpAny_bind (wpAny_standAt (wpAny_pure (wpAny_evalAll_nil ?_)))))
  obtain ⟨l2, rh2⟩ := le_extN q3 eN T1
  have rT := q4.le l2
  have fin2 := q5.le l2
  have hlst : ∃ l, v = .ref l := by
    unfold fMinK at q5
    cases q1 : slQ h1 t with
    | none => rw [q1] at q5; exact q5.elim
    | some xs =>
      obtain ⟨a0, vs, e0, _⟩ := slQ_rp q3 q4 q1
      exact ⟨a0, e0⟩
  obtain ⟨l, rfl⟩ := hlst
  obtain rfl : u = Value.ref l := ru
  exact min_start (I.ok.hd hc) L hr hbind hbody I2 hf hfn hfr hco ((at_.le q2 q3).le l2 rh2) rT fin2
end
end Z

/-! Lay23: < of data, list.remove, list.index, dict.get. -/
namespace Z
open PySem L2 PyProof.Rows
/-! ### < of data that are alike -/
def rLtD (K : PySem.W.Frag) : R2 := fun x y H Q => ∃ d e, Dp K H x d ∧ Dp K H y e ∧ SeqAt.shaped d = true ∧ SeqAt.shaped e = true ∧ PySem.W.alike d e = true ∧ d ≠ .none ∧ Q (.bl (PySem.W.dataLt d e)) H
/-- x < y: ints or other data that are alike -/
def fLtD (x y : T) : M T := fun h => if kOk (dr h x) (dr h y) then some (.ok (.bl (PySem.W.dataLt (dr h x).py (dr h y).py)), h) else none
section
variable {X : Cx} {E : XK} {K : PySem.W.Frag} {φ : Ow} {H : Hp} {h : Hv} {t : T} {v : V} {xs : List T}
theorem op_ltD (hu : X.A.units + 64 < cLine) : OpR X (compareOp .Lt) (rLtD X.K) := by
  intro pins s σ H x y v u Q I rx ry h
  obtain ⟨d, e, hd, he, sd, se, ha, hn, q⟩ := h
  obtain ⟨as, r1⟩ := Dp.reads I d x v hd rx
  obtain ⟨bs, r2⟩ := Dp.reads I e y u he ry
  have h1 := SeqAt.depth_of_shaped sd
  exact PySem.W.rcLt_alike d e X.A s v u as bs r1 r2 ha hn (by omega) _ _ _ _ ⟨.bl _, H, I, rfl, q⟩
theorem o2_ltD : Op2 X E fLtD (rLtD X.K) := by
  intro φ H h tx ty x y Q rh rx ry f
  unfold fLtD at f
  by_cases hk : kOk (dr h tx) (dr h ty) = true
  · rw [if_pos hk] at f
    obtain ⟨k1, k2, k3, k4⟩ := kOk_of hk
    exact ⟨_, _, rh.dp rx (SeqAt.canLay_of_shaped k1), rh.dp ry (SeqAt.canLay_of_shaped k2), k1, k2, k3, k4, f.val rh rfl⟩
  · rw [if_neg hk] at f
    exact f.elim
/-! ### list.remove -/
/-- where the first item == y stands -/
def placeT (xs : List T) (y : T) : Option Nat := xs.findIdx? fun x => PyData.eqv x.py y.py
def fRemove (x : T) (ts : List T) : M T := fun h => match x, ts with
  | .ref n, [y] => match h[n]? with
    | some (.lst xs) => if SeqAt.shaped y.py && SeqAt.shaped (.list (T.pys xs)) then
        match placeT xs y with
        | some j => if xs.length ≤ lim then some (.ok .non, h.set n (.lst (xs.eraseIdx j))) else none
        | none => none
      else none
    | _ => none
  | _, _ => none
def rRemD (K : PySem.W.Frag) : V → List V → Hp → VK → Prop := fun x vs H Q => ∃ (l : Addr) (us : List V) (y : V) (d : PyData) (ds : List PyData) (j : Nat), x = .ref l ∧ vs = [y] ∧ H l = some (.lst us) ∧ DpAll K H us ds ∧ Dp K H y d ∧
  SeqAt.shaped (.list ds) = true ∧ SeqAt.shaped d = true ∧ SeqAt.dataPlace ds d = some j ∧ Q .non (upd H l (.lst (us.eraseIdx j)))
theorem mt_remD (hu : X.A.units + 65 < cLine) : MtM X "list.remove" (rRemD X.K) := by
  intro pins s σ H x xs v us Q I rx rxs h
  obtain ⟨l, vs, y, d, ds, j, rfl, rfl, hH, hl, hy, sl, sd, hp, q⟩ := h
  cases rx
  obtain ⟨uy, rfl, ry⟩ := rxs.one
  obtain ⟨z, its, n, r, hlen, e⟩ := I.lstM hH
  obtain ⟨bs, r1⟩ := Dp.reads I d y uy hy ry
  obtain ⟨as, r2⟩ := Dp.readsAll I ds vs its hl r
  have c1 := SeqAt.canLay_of_shaped sl
  have hds : PyData.depthAll ds + 1 ≤ 65 := by
    have := SeqAt.depth_of_shaped sl
    simp only [PyData.depth] at this
    omega
  refine SeqAt.remove_list_data (vs := its.toArray) (j := j) ⟨_, e, rfl, n, rfl⟩ (by simpa using r2) r1 ?_ (PySem.PyData.plain_of_canLay0 d (SeqAt.canLay_of_shaped sd)) ?_ hp (by rw [List.size_toArray, ← hlen]; exact z) ⟨.non, _, I.lset (its' := its.eraseIdx j) hH e ?_ (r.eraseIdx j) ?_, rfl, q⟩
  · have := PySem.PyData.plain_of_canLay0 (.list ds) c1
    simpa [PyData.plain] using this
  · have := SeqAt.depth_of_shaped sd
    omega
  · show its.toArray.eraseIdxIfInBounds j = (its.eraseIdx j).toArray
    rw [List.eraseIdxIfInBounds_toArray]
  · exact Nat.le_trans (List.length_eraseIdx_le ..) z
theorem m_remD : Mt X E fRemove (rRemD X.K) := by
  intro φ H h tx ts x vs Q rh rx rs f
  unfold fRemove at f
  split at f
  · rename_i n y
    split at f
    · rename_i xs hn
      split at f
      · rename_i hs
        obtain ⟨s1, s2⟩ := Bool.and_eq_true_iff.mp hs
        split at f
        · rename_i j hj
          split at f
          · obtain ⟨a, ho, h1, h2, us, rfl, h3⟩ := rh.at hn
            obtain ⟨b, q1, rfl⟩ := rx
            rw [h1] at q1; cases q1
            obtain ⟨w, rfl, ry⟩ := rs.one
            refine ⟨a, us, w, y.py, T.pys xs, j, rfl, rfl, h2, RpL.dp Fz.ex xs us (by have := SeqAt.canLay_of_shaped s2; simpa [PyData.canLay0] using this) h3, Rp.dp Fz.ex y w (SeqAt.canLay_of_shaped s1) ry, s2, s1, ?_, f.chg rh h1 (nofrz h2) ⟨us.eraseIdx j, rfl, h3.erase j⟩ rfl⟩
            rw [← hj]
            unfold SeqAt.dataPlace placeT
            rw [pys_map, List.findIdx?_map]
            rfl
          · exact f.elim
        · exact f.elim
      · exact f.elim
    · exact f.elim
  · exact f.elim
/-! ### list.index -/
def fIndex (x : T) (ts : List T) : M T := fun h => match slQ h x, ts with
  | some xs, [y] => if SeqAt.shaped y.py && SeqAt.shaped (.list (T.pys xs)) then
      match placeT xs y with
      | some j => some (.ok (.int (j : Nat)), h)
      | none => none
    else none
  | _, _ => none
theorem m_indexD : Mt X E fIndex (rIndexD X.K) := by
  intro φ H h tx ts x vs Q rh rx rs f
  unfold fIndex at f
  split at f
  · rename_i xs y hq
    split at f
    · rename_i hs
      obtain ⟨s1, s2⟩ := Bool.and_eq_true_iff.mp hs
      split at f
      · rename_i j hj
        obtain ⟨a, us, rfl, h1, h3⟩ := slQ_rp rh rx hq
        obtain ⟨w, rfl, ry⟩ := rs.one
        obtain ⟨p1, p2, p3⟩ := List.findIdx?_eq_some_iff_getElem.mp hj
        refine ⟨a, w, y.py, T.pys xs, j, xs[j].py, rfl, rfl, .lst h1 (RpL.dp Fz.ex xs us (by have := SeqAt.canLay_of_shaped s2; simpa [PyData.canLay0] using this) h3), Rp.dp Fz.ex y w (SeqAt.canLay_of_shaped s1) ry, s2, s1, ?_, p2, fun m z' hm hz => ?_, f.val rh rfl⟩
        · rw [pys_map, List.getElem?_map, List.getElem?_eq_getElem p1]; rfl
        · rw [pys_map, List.getElem?_map, List.getElem?_eq_getElem (by omega)] at hz
          cases hz
          have := p3 m hm
          simpa using this
      · exact f.elim
    · exact f.elim
  · exact f.elim
/-! ### dict.get -/
def isDk (h : Hv) : T → Bool
  | .dk _ _ => true
  | .dt _ _ => true
  | .ref n => match h[n]? with
    | some (.dk _ _ _) => true
    | some (.dt _ _ _) => true
    | _ => false
  | _ => false
theorem isDk_rp (rh : RelH K φ H h) (r : Rp K φ (Fz φ H) t v) (e : isDk h t = true) : ∃ a, v = .ref a ∧ IsD H a := by
  cases t with
  | dk ks us =>
    obtain ⟨a, kvs, rfl, h1, h2⟩ := r
    exact ⟨a, rfl, .inl ⟨kvs, .inl (Fz.of h1).2⟩⟩
  | dt ks us =>
    obtain ⟨a, kvs, rfl, h1, h2⟩ := r
    exact ⟨a, rfl, .inr ⟨kvs, .inl (Fz.of h1).2⟩⟩
  | ref n =>
    obtain ⟨b, q1, rfl⟩ := r
    simp only [isDk] at e
    split at e
    · rename_i lk ks us hn
      obtain ⟨a, ho, h1, h2, kvs, h3, h4⟩ := rh.at hn
      rw [h1] at q1; cases q1
      refine ⟨_, rfl, .inl ⟨kvs, ?_⟩⟩
      unfold Lkd at h3
      split at h3
      · obtain ⟨od, rfl⟩ := h3; exact .inr ⟨od, h2⟩
      · subst h3; exact .inl h2
    · rename_i lk ks us hn
      obtain ⟨a, ho, h1, h2, kvs, h3, h4⟩ := rh.at hn
      rw [h1] at q1; cases q1
      refine ⟨_, rfl, .inr ⟨kvs, ?_⟩⟩
      unfold Lkd at h3
      split at h3
      · obtain ⟨od, rfl⟩ := h3; exact .inr ⟨od, h2⟩
      · subst h3; exact .inl h2
    · cases e
  | _ => cases e
def dGet1 (do_ de : D) : D := fun sl => bnd (do_ sl) fun x h => if isDk h x then bnd (de sl) (fun y h => match dkLook h x y with
  | some o => some (.ok (o.getD .non), h)
  | none => none) h else none
def dGet2 (do_ de dx : D) : D := fun sl => bnd (do_ sl) fun x h => if isDk h x then bnd (de sl) (fun y => bnd (dx sl) fun z h => match dkLook h x y with
  | some o => some (.ok (o.getD z), h)
  | none => none) h else none
theorem pd_get1 {o e : Expr} {d1 d2 : D} {apos cpos : Pos} (hu : X.A.units + 1 < cLine) (ho : PD X E o d1) (he : PD X E e d2) (m : M1 X o "get" apos e cpos) : PD X E (.Call (.Attribute o "get" apos) [e] [] cpos) (dGet1 d1 d2) :=
  PE.imp (pe_dget1 hu ho he m) fun σ H Q ⟨φ, sl, h, at_, fin⟩ => seqD at_ fin fun φ1 H1 x vx h1 l1 a1 r1 f1 => by
    by_cases hd : isDk h1 x = true
    · simp only [hd, if_true] at f1
      obtain ⟨a, rfl, hD⟩ := isDk_rp a1.h r1 hd
      refine ⟨a, rfl, hD, seqD a1 f1 fun φ2 H2 y vy h2 l2 a2 r2 f2 => ?_⟩
      cases q : dkLook h2 x y with
      | none => rw [q] at f2; exact f2.elim
      | some o =>
        rw [q] at f2
        obtain ⟨a', ov, e1, g, z⟩ := dkLook_get a2.h (r1.le l2) r2 q
        cases e1
        refine ⟨ov, g, ?_⟩
        rcases z with ⟨rfl, rfl⟩ | ⟨x, w, rfl, rfl, rw⟩
        · exact f2.val a2.h rfl
        · exact f2.val a2.h rw
    · simp only [hd] at f1
      exact f1.elim
theorem pd_get2 {o e f : Expr} {d1 d2 d3 : D} {apos cpos : Pos} (hu : X.A.units + 1 < cLine) (ho : PD X E o d1) (he : PD X E e d2) (hf : PD X E f d3) (m : M2 X o "get" apos e f cpos) : PD X E (.Call (.Attribute o "get" apos) [e, f] [] cpos) (dGet2 d1 d2 d3) :=
  PE.imp (pe_dget2 hu ho he hf m) fun σ H Q ⟨φ, sl, h, at_, fin⟩ => seqD at_ fin fun φ1 H1 x vx h1 l1 a1 r1 f1 => by
    by_cases hd : isDk h1 x = true
    · simp only [hd, if_true] at f1
      obtain ⟨a, rfl, hD⟩ := isDk_rp a1.h r1 hd
      refine ⟨a, rfl, hD, seqD a1 f1 fun φ2 H2 y vy h2 l2 a2 r2 f2 => seqD a2 f2 fun φ3 H3 z vz h3 l3 a3 r3 f3 => ?_⟩
      cases q : dkLook h3 x y with
      | none => rw [q] at f3; exact f3.elim
      | some o =>
        rw [q] at f3
        obtain ⟨a', ov, e1, g, w⟩ := dkLook_get a3.h ((r1.le l2).le l3) (r2.le l3) q
        cases e1
        refine ⟨ov, g, ?_⟩
        rcases w with ⟨rfl, rfl⟩ | ⟨x, w, rfl, rfl, rw⟩
        · exact f3.val a3.h r3
        · exact f3.val a3.h rw
    · simp only [hd] at f1
      exact f1.elim
end
end Z

/-! Lay24: dict([(k, v), ..]): keys that differ. -/
namespace Z
open PySem L2 PyProof.Rows
/-- pairs: keys, values -/
def pairQ : List T → Option (List T × List T)
  | [] => some ([], [])
  | .tup [k, v] :: r => match pairQ r with
    | some (ks, vs) => some (k :: ks, v :: vs)
    | none => none
  | _ => none
def keysTL : List T → Option (List (List Key))
  | [] => some []
  | x :: xs => match keysOf x, keysTL xs with
    | some k, some ks => some (k :: ks)
    | _, _ => none
def fDictP (tk ow : Bool) : List T → M T
  | [x] => fun h => match slQ h x with
    | some ts => match pairQ ts with
      | some (ks, vs) => if tk then match keysTL ks with
          | some kk => if kk.Nodup then (if ow then own (.dt false kk vs) h else some (.ok (.dt kk vs), h)) else none
          | none => none
        else match keysL ks with
          | some kk => if kk.Nodup then (if ow then own (.dk false kk vs) h else some (.ok (.dk kk vs), h)) else none
          | none => none
      | none => none
    | none => none
  | _ => bot
/-- one pair, its place and its key's place -/
structure PI where
  p : Addr
  k : List Key
  b : Addr
  v : V
def rDictPT (K : PySem.W.Frag) : List V → Hp → VK → Prop := fun xs H Q => ∃ (a : Addr) (l : List PI), xs = [.ref a] ∧ SqL K H a (l.map fun i => V.ref i.p) ∧ (∀ i ∈ l, SqT K H i.p [.ref i.b, i.v] ∧ H i.b = some (.tup (i.k.map kV))) ∧ (l.map (·.k)).Nodup ∧
  ∀ p, H p = none → Q (.ref p) (upd H p (.dT (l.map fun i => (i.k, i.v))))
section
variable {X : Cx}
theorem vals_ref : ∀ {l : List PI} {us : List Value}, Vals (l.map fun i => V.ref i.p) us → us = l.map fun i => Value.ref i.p
  | [], us, r => by cases r; rfl
  | i :: l, us, r => by
    rw [List.map_cons] at r
    cases r with
    | cons h t => cases h; rw [List.map_cons, ← vals_ref t]
theorem pairsT_of {pins : List (Addr × Obj)} {σ : L2.St} {H : Hp} {s : Shared} (I : Inv X pins σ H s) : ∀ {l : List PI}, (∀ i ∈ l, SqT X.K H i.p [.ref i.b, i.v] ∧ H i.b = some (.tup (i.k.map kV))) →
    ∃ ys : List Value, ys.length = l.length ∧ L2.KT H (l.map fun i => (i.k, i.v)) ((l.zip ys).map fun q => (q.1.k, q.1.b, q.2)) ∧ ∀ (j : Nat) i y, l[j]? = some i → ys[j]? = some y → IsTup s.heap i.p #[.ref i.b, y]
  | [], _ => ⟨[], rfl, .nil, fun j i y e => by simp at e⟩
  | i :: l, h => by
    obtain ⟨ys, hl, r, hp⟩ := pairsT_of I (l := l) fun j hj => h j (.tail _ hj)
    obtain ⟨h1, h2⟩ := h i (.head _)
    obtain ⟨its, rv, ht, _⟩ := I.tuple h1
    obtain ⟨u, y, rfl, ru, ry⟩ := vals2 rv
    obtain rfl : u = Value.ref i.b := ru
    refine ⟨y :: ys, by rw [List.length_cons, List.length_cons, hl], .cons ⟨rfl, h2, ry⟩ r, fun j i' y' e1 e2 => ?_⟩
    cases j with
    | zero =>
      cases e1
      cases e2
      exact ht
    | succ j => exact hp j i' y' (by simpa using e1) (by simpa using e2)
theorem call_dictPT (hc : X.calm = true) (hu : X.A.units + 65 < cLine) : CallR X (.type "dict") (rDictPT X.K) := by
  intro pins s σ H xs us Q I r q
  obtain ⟨a, l, rfl, hq, hl, hnd, q⟩ := q
  obtain ⟨u, rfl, rx⟩ := vals1 r
  obtain rfl : u = Value.ref a := rx
  obtain ⟨its, rv, pl, hz⟩ := I.list hq
  have ei := vals_ref rv
  subst ei
  rw [List.length_map] at hz
  obtain ⟨ys, hyl, kt, hpr⟩ := pairsT_of I hl
  obtain ⟨o, n, ho, hcl, hd, hdat⟩ := pl
  have hzip : ((l.zip ys).map fun q => (Value.ref q.1.b, q.2)).length = l.length := by rw [List.length_map, List.length_zip, hyl, Nat.min_self]
  have P := PairArg.list (prog := X.prog) (w := X.w) a (l.map fun i => Value.ref i.p).toArray (fun j => ((l[j]?).map (·.p)).getD 0) ((l.zip ys).map fun q => (Value.ref q.1.b, q.2))
  have get : ∀ j k v, ((l.zip ys).map fun q => (Value.ref q.1.b, q.2))[j]? = some (k, v) → ∃ i : PI, l[j]? = some i ∧ ys[j]? = some v ∧ k = Value.ref i.b := fun j k v e => by
    rw [List.getElem?_map] at e
    obtain ⟨z, e1, e2⟩ := Option.map_eq_some_iff.mp e
    cases e2
    obtain ⟨e3, e4⟩ := List.getElem?_zip_eq_some.mp e1
    exact ⟨z.1, e3, e4, rfl⟩
  have hnd2 : (((l.zip ys).map fun q => (q.1.k, q.1.b, q.2)).map (·.1)).Nodup := by
    rw [List.map_map]
    have : (l.zip ys).map ((fun x : List Key × Addr × Value => x.1) ∘ fun q => (q.1.k, q.1.b, q.2)) = l.map (·.k) := by
      rw [show ((fun x : List Key × Addr × Value => x.1) ∘ fun q : PI × Value => (q.1.k, q.1.b, q.2)) = (fun i : PI => i.k) ∘ Prod.fst from rfl, ← List.map_map, List.map_fst_zip (by rw [hyl]; exact Nat.le_refl _)]
    rw [this]
    exact hnd
  have old : ∀ {h' : Heap}, (∀ b o, b ≠ s.heap.objs.size → b ∉ ([] : List Addr) → s.heap.get? b = some o → h'.get? b = some o) → ∀ b o, s.heap.get? b = some o → h'.get? b = some o := fun hk b o e => hk b o (Nat.ne_of_lt (Heap.lt_size e)) (by simp) e
  refine call_dict_pairsH (knd := tupleKind (mixKind X.prog X.w)) (ps := (l.zip ys).map fun q => (q.1.k, q.1.b, q.2)) P (I.ok.hd hc) (tupleKind_room_in1 (A := X.A.in1) (show X.A.units + 1 + 1 < cLine by omega)) ⟨⟨o, n, ho, hcl, hd, hdat⟩, ?_, fun j k v e => ?_⟩ ⟨?_, fun i key v e => ?_⟩ (fun h' hk x hx => ?_) (by rw [hzip]; exact hz) fun h' tk hd' k => ?_
  · rw [List.size_toArray, List.length_map, hzip]
  · obtain ⟨i, e1, e2, rfl⟩ := get j k v e
    refine ⟨by simp [e1], .inl ?_⟩
    rw [show ((fun j => ((l[j]?).map (·.p)).getD 0) j : Addr) = i.p by simp [e1]]
    exact hpr j i v e1 e2
  · rw [List.length_map, List.length_map]
  · obtain ⟨i', e1, e2, rfl⟩ := get i key v e
    refine ⟨i'.k, i'.b, ?_, rfl⟩
    rw [List.getElem?_map, List.getElem?_zip_eq_some.mpr (show l[i]? = some (i', v).1 ∧ ys[i]? = some (i', v).2 from ⟨e1, e2⟩)]
    rfl
  · obtain ⟨z, hz1, rfl⟩ := List.mem_map.mp hx
    have hm : z.1 ∈ l := (List.of_mem_zip hz1).1
    exact key_of (I.hok.kept (old hk)) (hl _ hm).2
  · rw [storedAllH_nil_of_nodup _ hnd2] at hd'
    have hm : (s.heap.objs.size == sysModules) = false := beq_eq_false_iff_ne.mpr (Nat.ne_of_gt I.big)
    obtain ⟨o', es, ep, h1, h2, h3, h4, h5, h6⟩ := hd'
    have hn : H s.heap.objs.size = none := I.hok.fresh (Nat.le_refl _)
    refine ⟨.ref s.heap.objs.size, upd H s.heap.objs.size (.dT (l.map fun i => (i.k, i.v))), I.laid (t' := tk) (fun b o e => k b o (by simp) e) (Nat.le_refl _) (show ObjOk X.prog X.w _ _ _ (.dT (l.map fun i => (i.k, i.v))) from ⟨by rw [List.length_map]; exact hz, hm, _, kt.keeps fun b ys e => ?_, o', es, ep, h1, h2, h3, h4, h6⟩), rfl, q _ hn⟩
    rw [upd_ne (ne_of_none e hn)]
    exact e
section
variable {E : XK} {K : PySem.W.Frag} {φ : Ow} {F H : Hp} {h : Hv}
theorem pairT_rp : ∀ {ts ks us : List T} {kk : List (List Key)} {vs : List V}, pairQ ts = some (ks, us) → keysTL ks = some kk → RpL K φ F ts vs →
    ∃ l : List PI, vs = l.map (fun i => V.ref i.p) ∧ (∀ i ∈ l, F i.p = some (.tup [.ref i.b, i.v]) ∧ F i.b = some (.tup (i.k.map kV))) ∧ l.map (·.k) = kk ∧ RpL K φ F us (l.map (·.v))
  | [], ks, us, kk, vs, e1, e2, r => by
    cases e1
    cases e2
    exact ⟨[], r, (fun i hi => nomatch hi), rfl, rfl⟩
  | .tup [k, v] :: ts, ks, us, kk, vs, e1, e2, r => by
    simp only [pairQ] at e1
    cases q : pairQ ts with
    | none => rw [q] at e1; cases e1
    | some z =>
      obtain ⟨ks', us'⟩ := z
      rw [q] at e1
      cases e1
      simp only [keysTL] at e2
      cases q1 : keysOf k with
      | none => rw [q1] at e2; cases e2
      | some k0 =>
        cases q2 : keysTL ks' with
        | none => rw [q1, q2] at e2; cases e2
        | some kk' =>
          rw [q1, q2] at e2
          cases e2
          obtain ⟨w, vs', rfl, rw1, rr⟩ := r
          obtain ⟨l, e3, e4, e5, e6⟩ := pairT_rp q q2 rr
          obtain ⟨a, ws, rfl, ha, x1, w1, rfl, r1, x2, w2, rfl, r2, hnil⟩ := rw1
          have hnil : w2 = [] := hnil
          subst hnil
          cases k with
          | tup ys =>
            obtain ⟨b, us2, rfl, hb, hu⟩ := r1
            have hu := keysL_rp (show keysL ys = some k0 from q1) hu
            subst hu
            refine ⟨⟨a, k0, b, x2⟩ :: l, by rw [e3]; rfl, fun i hi => ?_, by rw [← e5]; rfl, ⟨x2, _, rfl, r2, e6⟩⟩
            rcases List.mem_cons.mp hi with rfl | hi
            · exact ⟨ha, hb⟩
            · exact e4 i hi
          | _ => cases q1
theorem pairK_rp : ∀ {ts ks us : List T} {kk : List Key} {vs : List V}, pairQ ts = some (ks, us) → keysL ks = some kk → RpL K φ F ts vs →
    ∃ (ps : List Addr) (kvs : List (Key × V)), vs = ps.map V.ref ∧ Paired (fun p kv => F p = some (.tup [kV kv.1, kv.2])) ps kvs ∧ kvs.map (·.1) = kk ∧ RpL K φ F us (kvs.map (·.2))
  | [], ks, us, kk, vs, e1, e2, r => by
    cases e1
    cases e2
    exact ⟨[], [], r, .nil, rfl, rfl⟩
  | .tup [k, v] :: ts, ks, us, kk, vs, e1, e2, r => by
    simp only [pairQ] at e1
    cases q : pairQ ts with
    | none => rw [q] at e1; cases e1
    | some z =>
      obtain ⟨ks', us'⟩ := z
      rw [q] at e1
      cases e1
      simp only [keysL] at e2
      cases q1 : keyOf k with
      | none => rw [q1] at e2; cases e2
      | some k0 =>
        cases q2 : keysL ks' with
        | none => rw [q1, q2] at e2; cases e2
        | some kk' =>
          rw [q1, q2] at e2
          cases e2
          obtain ⟨w, vs', rfl, rw1, rr⟩ := r
          obtain ⟨ps, kvs, e3, e4, e5, e6⟩ := pairK_rp q q2 rr
          obtain ⟨a, ws, rfl, ha, x1, w1, rfl, r1, x2, w2, rfl, r2, hnil⟩ := rw1
          have hnil : w2 = [] := hnil
          subst hnil
          have e7 := keyOf_rp q1 r1
          subst e7
          exact ⟨a :: ps, (k0, x2) :: kvs, by rw [e3]; rfl, .cons ha e4, by rw [← e5]; rfl, ⟨x2, _, rfl, r2, e6⟩⟩
theorem b_dictPT {ow : Bool} : B1 X E (fDictP true ow) (rDictPT X.K) := fun φ H h ts vs Q rh r f => by
  match ts, f with
  | [t], f =>
    obtain ⟨v, rfl, rv⟩ := r.one
    simp only [fDictP, if_true] at f
    cases q1 : slQ h t with
    | none => simp only [q1] at f; exact f.elim
    | some xs =>
      simp only [q1] at f
      cases q2 : pairQ xs with
      | none => simp only [q2] at f; exact f.elim
      | some z =>
        obtain ⟨ks, us⟩ := z
        simp only [q2] at f
        cases q3 : keysTL ks with
        | none => simp only [q3] at f; exact f.elim
        | some kk =>
          simp only [q3] at f
          by_cases hn : kk.Nodup
          · rw [if_pos hn] at f
            obtain ⟨a, ws, rfl, h1, h2⟩ := slQ_rp rh rv q1
            obtain ⟨l, rfl, e4, rfl, e6⟩ := pairT_rp q2 q3 h2
            refine ⟨a, l, rfl, h1, fun i hi => ⟨SqT.of (Fz.of (e4 i hi).1).2, (Fz.of (e4 i hi).2).2⟩, hn, fun p hp => ?_⟩
            have m1 : (l.map fun i => (i.k, i.v)).map (·.1) = l.map (·.k) := by rw [List.map_map]; rfl
            have m2 : (l.map fun i => (i.k, i.v)).map (·.2) = l.map (·.v) := by rw [List.map_map]; rfl
            cases ow with
            | true =>
              simp only [if_true] at f
              exact f.own rh hp ⟨_, rfl, m1, by rw [m2]; exact e6⟩
            | false =>
              simp only [Bool.false_eq_true, if_false] at f
              exact f φ _ (Le.new hp (rh.free hp)) (rh.new hp) _ ⟨p, _, rfl, Fz.mk (rh.free hp) upd_same, m1, by rw [m2]; exact e6.le (Le.new hp (rh.free hp))⟩
          · rw [if_neg hn] at f
            exact f.elim
theorem mergeK_nodup : ∀ (acc kvs : List (Key × V)), ((acc ++ kvs).map (·.1)).Nodup → mergeK acc kvs = acc ++ kvs
  | acc, [], _ => by simp [mergeK]
  | acc, kv :: kvs, h => by
    have e : putK acc kv.1 kv.2 = acc ++ [kv] := by
      unfold putK
      have : ¬ (acc.any fun q => decide (q.1 = kv.1)) = true := fun z => by
        obtain ⟨q, hq, e⟩ := List.any_eq_true.mp z
        have e := of_decide_eq_true e
        rw [List.map_append, List.nodup_append] at h
        exact h.2.2 q.1 (List.mem_map_of_mem hq) kv.1 (by simp) e
      rw [if_neg this]
    have ih := mergeK_nodup (acc ++ [kv]) kvs (by simpa using h)
    show mergeK (putK acc kv.1 kv.2) kvs = _
    rw [e, ih, List.append_assoc]
    rfl
theorem b_dictPK {ow : Bool} : B1 X E (fDictP false ow) (fun xs H Q => ∃ (a : Addr) (ps : List Addr) (kvs : List (Key × V)), xs = [.ref a] ∧ SqL X.K H a (ps.map V.ref) ∧ Paired (fun p kv => SqT X.K H p [kV kv.1, kv.2]) ps kvs ∧
    ∀ p, H p = none → Q (.ref p) (upd H p (.dK (mergeK [] kvs)))) := fun φ H h ts vs Q rh r f => by
  match ts, f with
  | [t], f =>
    obtain ⟨v, rfl, rv⟩ := r.one
    simp only [fDictP, Bool.false_eq_true, if_false] at f
    cases q1 : slQ h t with
    | none => simp only [q1] at f; exact f.elim
    | some xs =>
      simp only [q1] at f
      cases q2 : pairQ xs with
      | none => simp only [q2] at f; exact f.elim
      | some z =>
        obtain ⟨ks, us⟩ := z
        simp only [q2] at f
        cases q3 : keysL ks with
        | none => simp only [q3] at f; exact f.elim
        | some kk =>
          simp only [q3] at f
          by_cases hn : kk.Nodup
          · rw [if_pos hn] at f
            obtain ⟨a, ws, rfl, h1, h2⟩ := slQ_rp rh rv q1
            obtain ⟨ps, kvs, rfl, e4, rfl, e6⟩ := pairK_rp q2 q3 h2
            have em : mergeK [] kvs = kvs := mergeK_nodup [] kvs hn
            refine ⟨a, ps, kvs, rfl, h1, Paired.mapP e4 fun _ _ z => SqT.of (Fz.of z).2, fun p hp => ?_⟩
            rw [em]
            cases ow with
            | true =>
              simp only [if_true] at f
              exact f.own rh hp ⟨_, rfl, rfl, e6⟩
            | false =>
              simp only [Bool.false_eq_true, if_false] at f
              exact f φ _ (Le.new hp (rh.free hp)) (rh.new hp) _ ⟨p, _, rfl, Fz.mk (rh.free hp) upd_same, rfl, e6.le (Le.new hp (rh.free hp))⟩
          · rw [if_neg hn] at f
            exact f.elim
end
end
theorem bt_dict : bootBuiltins "dict" = some (.type "dict") := by decide +kernel
end Z

/-! Lay25: sorted(xs, key=lambda a: ..). -/
namespace Z
open PySem L2 PyProof.Rows PySem.W
def keysM (f : T → M T) : List T → M (List T)
  | [] => ret []
  | x :: xs => fun h => match f x h with
    | some (.ok k, h') => match keysM f xs h' with
      | some (.ok ks, h2) => some (.ok (k :: ks), h2)
      | _ => none
    | _ => none
def sortK (xs ks : List T) : List T := ((xs.zip ks).mergeSort fun a b => leT a.2 b.2).map (·.1)
def fSortK (ow : Bool) (f : T → M T) (t : T) : M T := fun h => match slQ h t with
  | some xs => match keysM f xs h with
    | some (.ok ks, h') => if sOkQ ks then (if ow then own (.lst (sortK xs ks)) h' else some (.ok (.lst (sortK xs ks)), h')) else none
    | _ => none
  | none => none
def dSortK (ow : Bool) (dx dk : D) : D := fun sl => bnd (dx sl) fun t => fSortK ow (fun x => dk (sl ++ [some x])) t
theorem keysM_len (f : T → M T) : ∀ {xs ks : List T} {h h2 : Hv}, keysM f xs h = some (.ok ks, h2) → ks.length = xs.length
  | [], ks, h, h2, e => by cases e; rfl
  | x :: xs, ks, h, h2, e => by
    unfold keysM at e
    cases q : f x h with
    | none => rw [q] at e; cases e
    | some r =>
      obtain ⟨r, h'⟩ := r
      cases r with
      | exc c => rw [q] at e; cases e
      | ok k =>
        rw [q] at e
        simp only at e
        cases q2 : keysM f xs h' with
        | none => rw [q2] at e; cases e
        | some r2 =>
          obtain ⟨r2, h3⟩ := r2
          cases r2 with
          | exc c => rw [q2] at e; cases e
          | ok ks' =>
            rw [q2] at e
            cases e
            rw [List.length_cons, List.length_cons, keysM_len f q2]
theorem sortK_rp {K : PySem.W.Frag} {φ : Ow} {F : Hp} {xs ks : List T} {vs : List V} (r : RpL K φ F xs vs) (hk : ks.length = xs.length) : RpL K φ F (sortK xs ks) (sortV vs (T.pys ks)) := by
  have hl := r.length
  let zs := (xs.zip ks).zip vs
  have z1 : zs.map (·.1) = xs.zip ks := List.map_fst_zip (by rw [List.length_zip, hk, Nat.min_self, hl]; exact Nat.le_refl _)
  have z2 : zs.map (fun z => (z.2, z.1.2.py)) = vs.zip (T.pys ks) := by
    have : ∀ {xs ks : List T} {vs : List V}, xs.length = vs.length → ks.length = xs.length → ((xs.zip ks).zip vs).map (fun z => (z.2, z.1.2.py)) = vs.zip (T.pys ks) := by
      intro xs
      induction xs with
      | nil => intro ks vs h1 h2; cases vs with
        | nil => rfl
        | cons => simp at h1
      | cons x xs ih => intro ks vs h1 h2; cases vs with
        | nil => simp at h1
        | cons v vs => cases ks with
          | nil => simp at h2
          | cons k ks => simp [T.pys, ih (ks := ks) (vs := vs) (by simpa using h1) (by simpa using h2)]
    exact this hl hk
  have s1 : sortK xs ks = (zs.mergeSort fun a b => leT a.1.2 b.1.2).map (·.1.1) := by
    unfold sortK
    rw [← z1, ← List.map_mergeSort (r := fun a b : (T × T) × V => leT a.1.2 b.1.2) (s := fun a b : T × T => leT a.2 b.2) (f := fun z : (T × T) × V => z.1) (fun a _ b _ => rfl), List.map_map]
    rfl
  have s2 : sortV vs (T.pys ks) = (zs.mergeSort fun a b => leT a.1.2 b.1.2).map (·.2) := by
    unfold sortV
    rw [← z2, ← List.map_mergeSort (r := fun a b : (T × T) × V => leT a.1.2 b.1.2) (s := dataLe false fun x : V × PyData => x.2) (f := fun z : (T × T) × V => (z.2, z.1.2.py)) (fun a _ b _ => rfl), List.map_map]
    rfl
  rw [s1, s2]
  have mem : ∀ z ∈ zs, Rp K φ F z.1.1 z.2 := by
    have : ∀ {xs ks : List T} {vs : List V}, RpL K φ F xs vs → ∀ z ∈ (xs.zip ks).zip vs, Rp K φ F z.1.1 z.2 := by
      intro xs
      induction xs with
      | nil => intro ks vs _ z hz; simp at hz
      | cons t ts ih =>
        intro ks vs r z hz
        obtain ⟨v, w, rfl, r1, r2⟩ := r
        cases ks with
        | nil => simp at hz
        | cons k ks =>
          rw [List.zip_cons_cons, List.zip_cons_cons] at hz
          rcases List.mem_cons.mp hz with rfl | hz
          · exact r1
          · exact ih r2 z hz
    exact this r
  have gen : ∀ l : List ((T × T) × V), (∀ z ∈ l, Rp K φ F z.1.1 z.2) → RpL K φ F (l.map (·.1.1)) (l.map (·.2)) := by
    intro l
    induction l with
    | nil => intro _; rfl
    | cons z l ih => intro h; exact ⟨z.2, _, rfl, h z (List.mem_cons_self ..), ih fun y hy => h y (List.mem_cons_of_mem _ hy)⟩
  exact gen _ fun z hz => mem z ((List.mergeSort_perm _ _).mem_iff.mp hz)
section
variable {X : Cx} {pins : List (Addr × Obj)} {σ : L2.St} {H : Hp} {s : Shared} {h' : Heap}
/-- two pinned things of ours turned: they are let go -/
theorem pin_off2 {b1 b2 : Addr} {o1 o2 : Obj} {t' : Nat} (I : Inv X ((b1, o1) :: (b2, o2) :: pins) σ H s) (F1 : Fst X pins b1) (F2 : Fst X pins b2) (k : ∀ c u, c ≠ b1 → c ≠ b2 → s.heap.get? c = some u → h'.get? c = some u) : Inv X pins σ H { s with heap := h', toks := t' } := by
  have n1 : H b1 = none := (I.pin (b1, o1) (List.mem_append_right _ (.head _))).2.1
  have n2 : H b2 = none := (I.pin (b2, o2) (List.mem_append_right _ (.tail _ (.head _)))).2.1
  have I0 : Inv X pins σ H s := pin_sub I fun p hp => .tail _ (.tail _ hp)
  have nit : ∀ b u, H b = some u → b ≠ b1 ∧ b ≠ b2 := fun b u e => ⟨(fun z => by rw [z, n1] at e; cases e), (fun z => by rw [z, n2] at e; cases e)⟩
  refine I0.step (g' := s.gens) (d' := s.drawn) (ch := [b1, b2]) (fun b hb => ?_) (fun b o _ _ hc e _ => k b o (fun z => hc (by simp [z])) (fun z => hc (by simp [z])) e) (fun b o _ _ hc e _ => ⟨o.slots, k b o (fun z => hc (by simp [z])) (fun z => hc (by simp [z])) e⟩) (fun _ _ _ _ n => n)
    (fun b o hc e => ⟨o, k b o (fun z => hc (by simp [z])) (fun z => hc (by simp [z])) e⟩) (fun _ _ e => e) (fun _ _ _ e => e) (fun b ps e => ⟨#[], by rw [e]; simp⟩) (fun m hm => ?_) (fun b u e => ?_) I0.bare
  · rcases List.mem_cons.mp hb with e | hb
    · subst e; exact ⟨F1.2.2.1, F1.1, F1.2.2.2.1, F1.2.2.2.2⟩
    · have e : b = b2 := by simpa using hb
      subst e; exact ⟨F2.2.2.1, F2.1, F2.2.2.2.1, F2.2.2.2.2⟩
  · obtain ⟨o, es, ep, ho, r⟩ := hm
    exact ⟨o, es, ep, k _ o (Ne.symm F1.1) (Ne.symm F2.1) ho, r⟩
  · refine (I0.hok b u e).stay (fun c v hc q => k c v ?_ ?_ q) (fun _ q => q) fun _ _ q => q
    · rcases hc with z | z
      · rw [z]; exact (nit b u e).1
      · exact (nit c _ z).1
    · rcases hc with z | z
      · rw [z]; exact (nit b u e).2
      · exact (nit c _ z).2
/-- a thing of ours is known from now on -/
theorem adopt {a : Addr} {o : HO} (I : Inv X pins σ H s) (F : Fst X pins a) (hs : X.s_0.heap.objs.size ≤ a) (hn : H a = none) (new : ObjOk X.prog X.w (upd H a o) s.heap a o) : Inv X pins σ (upd H a o) s := by
  have nb : ∀ {b o}, X.s_0.heap.get? b = some o → b ≠ a := fun {b o} e z => by
    have := Heap.lt_size e
    rw [z] at this
    exact absurd this (Nat.not_lt_of_le hs)
  have up : ∀ {b u}, H b = some u → upd H a o b = some u := fun {b u} e => by rw [upd_ne (ne_of_none e hn)]; exact e
  refine ⟨I.ok, I.os, I.bare, ⟨I.base.keep, I.base.slot, fun b ob e n hx => ?_, I.base.there, fun b xs e => up (I.base.tups b xs e), fun b ob u e => up (I.base.frzs b ob u e), fun b ps e => ?_⟩, I.loc, I.cell, ?_, fun x c e => ?_, fun p hp => ?_, fun b u e => ?_, I.len⟩
  · rw [upd_ne (nb e)]; exact I.base.free b ob e n hx
  · obtain ⟨m, z⟩ := I.base.tbls b ps e
    exact ⟨m, up z⟩
  · rw [upd_ne (Ne.symm F.1)]; exact I.free
  · rw [upd_ne (F.2.2.2.1 x c e)]; exact I.freeC x c e
  · obtain ⟨e, n, r⟩ := I.pin p hp
    exact ⟨e, by rw [upd_ne (F.2.2.2.2 p hp)]; exact n, r⟩
  · by_cases hb : b = a
    · subst hb; rw [upd_same] at e; cases e; exact new
    · rw [upd_ne hb] at e
      exact (I.hok b u e).stay (fun c v _ q => q) (fun c q => up q) fun c xs q => up q
theorem lam_callB {a : Str} {B : Around} {f c' : Addr} {pm ctv : Value} {params : Arguments} {body : Expr} {scope : Scope} {k : Nat} {tb : TE} {v : V} {u : Value} {Q : VK}
    (I : Inv X pins σ H s) (L : Lam1 X.env.scope scope a) (hf : s.heap.get? f = some (PySem.W.kla_obj "<lambda>" (X.env.qual ++ "<lambda>") params body scope (cloFrom X.env.cells scope.names []) pm c' ctv)) (hc : H c' = some (LamX.CodeO c' (X.env.qual ++ "<lambda>")))
    (hbind : ∀ (q : Str) (cl : List (Str × Addr)) (pm cv ctv : Value) (u : Value), bindArgs (PySem.W.kla_fn "<lambda>" q params body scope cl pm cv ctv) ⟨[u], []⟩ = pure [(a, u)]) (hr1 : Room (k + 1) B) (e0 : Env0 X.prog X.w X.K X.mg X.base B X.stack s H)
    (hbody : ∀ (outer : List Env) (s : Shared) (H : Hp), Room k (B.deeper (LamX.lamEnv X scope s.heap.objs.size f c')) → PE (lamCx1 X B outer s H C8.E0 scope f c' a) body tb)
    (rv : RelV v u) (h : tb (σ ++ [some v]) H Q) : wpAny (model X.prog X.w) B (call (.ref f) [u]) (EP X pins σ Q) (fun _ _ => False) s := by
  obtain ⟨⟨oc, vs, t, hoc, hdc, hvc⟩, _, _⟩ := I.hok c' _ hc
  have rc : codeAny (model X.prog X.w) B (.call (.ref f) ⟨[u], []⟩) (CR (L2.CX X.prog X.w) X.stack X.prog X.w H s Q C8.E0) s := by
    refine PySem.W.kla_callFunE hr1.depth hf rfl L.co L.gen rfl ⟨c', oc, vs, t, rfl, hoc, hdc, hvc⟩ ?_
    rw [hbind]
    refine wpAny_pure (wpAny_newFunctionEnv (fun y hy => (L.own y hy).1) (fun y hy => ?_) (fun h₁ hns hsb => ⟨I.nolimit.fresh _ hsb, ?_⟩) L.kind)
    · rw [List.mem_singleton.mp hy]
      exact L.par
    show codeAny _ _ (.expr body (LamX.lamEnv X scope s.heap.objs.size f c')) _ _
    have kp : ∀ b o, s.heap.get? b = some o → h₁.get? b = some o := fun b o e => hsb.extBut b o (Nat.ne_of_lt (Heap.lt_size e)) (Heap.get?_push_of_some _ e)
    have J : Inv (lamCx1 X B X.stack s H C8.E0 scope f c' a) [] (σ ++ [some v]) H { s with heap := h₁, toks := s.toks + ([(a, u)] : List (Str × Value)).length } :=
      lam_start1 I L e0 hr1.hd rv hns kp
    refine PySem.W.kla_codeExpr (wpAny_mono ((hbody _ s H (hr1.deeper _)).run [] _ _ H Q J h) (fun v s' hq => ?_) fun e s' hq => hq)
    obtain ⟨w', H', J', rv, q⟩ := hq
    exact ⟨w', H', J'.os, J'.bare, J'.base, J'.hok, rv, q⟩
  refine wpAny_call (codeAny_mono rc fun r s' hq => ?_)
  cases r with
  | error e =>
    obtain ⟨_, _, _, _, _, _, _, _, _, _, _, _, z⟩ := (show L2.CX X.prog X.w X.stack H s C8.E0 e s' from hq)
    exact z.elim
  | ok fl =>
    cases fl with
    | ret u => exact I.after hq
    | next => exact False.elim hq
    | brk => exact False.elim hq
    | cont => exact False.elim hq
end
end Z

/-! Lay26: sorted(xs, key=lambda a: ..): the call. -/
namespace Z
open PySem L2 PyProof.Rows PySem.W
section
variable {X : Cx} {pins : List (Addr × Obj)} {σ : L2.St} {H : Hp} {s : Shared} {h' : Heap}
theorem sortK_start {a : Str} {f c' l : Addr} {pm ctv : Value} {params : Arguments} {body : Expr} {scope : Scope} {k : Nat} {dk : D} {sl : Sl} {t : T} {Q : VK} {E : XK} {h : Hv} {φ : Ow} {ow : Bool}
    (hh : X.A.handled = none) (L : Lam1 X.env.scope scope a) (hr : Room (k + 3) X.A)
    (hbind : ∀ (q : Str) (cl : List (Str × Addr)) (pm cv ctv : Value) (u : Value), bindArgs (PySem.W.kla_fn "<lambda>" q params body scope cl pm cv ctv) ⟨[u], []⟩ = pure [(a, u)])
    (hbody : ∀ (A : Around) (outer : List Env) (s : Shared) (H : Hp) (f c' : Addr), Room k (A.deeper (LamX.lamEnv X scope s.heap.objs.size f c')) → PD (lamCx1 X A outer s H C8.E0 scope f c' a) C8.E0 body dk)
    (I : Inv X pins σ H s) (hf : s.heap.get? f = some (PySem.W.kla_obj "<lambda>" (X.env.qual ++ "<lambda>") params body scope (cloFrom X.env.cells scope.names []) pm c' ctv)) (hfn : H f = none) (hfr : f ∉ frs X.stack)
    (hc : H c' = some (LamX.CodeO c' (X.env.qual ++ "<lambda>"))) (at_ : At X.K φ H sl σ h) (rT : Rp X.K φ (Fz φ H) t (.ref l)) (fin : Fin X.K X.mg (wV X.K Q) E φ H (fSortK ow (fun x => dk (sl ++ [some x])) t h)) :
    wpAny (model X.prog X.w) X.A (call (.builtin "sorted") [.ref l] [(Str.ofString "key", .ref f)]) (EP X pins σ Q) X.xe s := by
  unfold fSortK at fin
  cases q1 : slQ h t with
  | none => rw [q1] at fin; exact fin.elim
  | some xs =>
  simp only [q1] at fin
  cases q2 : keysM (fun x => dk (sl ++ [some x])) xs h with
  | none => simp only [q2] at fin; exact fin.elim
  | some r2 =>
  obtain ⟨r2, hE⟩ := r2
  cases r2 with
  | exc e => simp only [q2] at fin; exact fin.elim
  | ok ks =>
  simp only [q2] at fin
  by_cases hso : sOkQ ks = true
  case neg => rw [if_neg hso] at fin; exact fin.elim
  rw [if_pos hso] at fin
  obtain ⟨sok, cl⟩ := sOkQ_ok hso
  have hkl := keysM_len _ q2
  obtain ⟨a0, vs, e0, hsq, rL⟩ := slQ_rp at_.h rT q1
  cases e0
  obtain ⟨its, rv, pl, hz⟩ := I.list hsq
  have hlen : its.length = xs.length := by rw [rL.length, rv.length]
  have hzi : its.length ≤ sizeLine := by rw [← rv.length]; exact hz
  obtain ⟨ar, har⟩ : ∃ ar, ar = s.heap.objs.size + 1 := ⟨_, rfl⟩
  refine sorted_of_sort (kw := [(Str.ofString "key", .ref f)]) pl.isList hzi (PyProof.Rows.ksk_s1 _ _) (fun _ => PyProof.Rows.ksk_l1 _ _) fun E' => ?_
  rw [ksk_t1, ← har]
  have ho : (copyHeap s.heap its).get? ar = some (seqObj "list" its.toArray 0) := by rw [har]; exact copyHeap_at s.heap its
  have hla : ar < (copyHeap s.heap its).objs.size := Heap.lt_size ho
  obtain ⟨e1, ho1⟩ : ∃ e1, ((copyHeap s.heap its).update ar (Obj.mapSeq fun _ => (#[] : Array Value))).get? ar = some (seqObj "list" #[] e1) := ⟨_, get?_update_seq ho fun _ => #[]⟩
  obtain ⟨kS, hkS⟩ : ∃ kS, kS = (((copyHeap s.heap its).update ar (Obj.mapSeq fun _ => (#[] : Array Value))).push (seqObj "tuple" its.toArray 0)).objs.size := ⟨_, rfl⟩
  have hkS1 : kS = (copyHeap s.heap its).objs.size + 1 := by rw [hkS, size_push', Heap.size_update]
  unfold ksk_tree
  refine wpAny_bind (listItems_at ho rfl ?_)
  refine wpAny_bind (listUpdate_at ho rfl ?_ (by rw [List.size_toArray]; exact hzi) (Nat.zero_le _))
  refine wpAny_bind (seqEpoch_at ho1 rfl ?_)
  refine wpAny_bind (wpAny_newTuple ?_ (by show its.length ≤ _; exact hzi))
  refine wpAny_bind (wpAny_newList ?_ (Nat.zero_le _))
  refine wpAny_holding ?_
  show wpAny _ _ (ksk_rest ar (.ref f) false its.toArray e1 (.ref (((copyHeap s.heap its).update ar (Obj.mapSeq fun _ => (#[] : Array Value))).push (seqObj "tuple" its.toArray 0)).objs.size)) _ _ _
  rw [← hkS]
  have hrc : ar < kS := by rw [hkS1]; exact Nat.lt_succ_of_lt hla
  have kp : ∀ b o, s.heap.get? b = some o → (sortingHeap (copyHeap s.heap its) ar its).get? b = some o := fun b o e => sortingHeap_old (by rw [har]; exact Nat.ne_of_lt (Nat.lt_succ_of_lt (Heap.lt_size e))) (copyHeap_old e)
  have gA : (sortingHeap (copyHeap s.heap its) ar its).get? ar = some (seqObj "list" #[] e1) := Heap.get?_push_of_some _ (Heap.get?_push_of_some _ ho1)
  have gK : (sortingHeap (copyHeap s.heap its) ar its).get? kS = some (seqObj "list" #[] 0) := by rw [hkS]; exact Heap.get?_push_size _ rfl
  have hff := Heap.lt_size hf
  have hAs : s.heap.objs.size ≤ ar := by rw [har]; exact Nat.le_succ _
  have hKs : s.heap.objs.size ≤ kS := Nat.le_trans hAs (Nat.le_of_lt hrc)
  have nA : H ar = none := I.hok.fresh hAs
  have nK : H kS = none := I.hok.fresh hKs
  have FA : Fst X pins ar := Fst.of (I.fpOk (H' := H) hAs nA)
  have FK : Fst X pins kS := Fst.of (I.fpOk (H' := H) hKs nK)
  have hAf : ar ≠ f := Nat.ne_of_gt (Nat.lt_of_lt_of_le hff hAs)
  have hKf : kS ≠ f := Nat.ne_of_gt (Nat.lt_of_lt_of_le hff hKs)
  have hKA : kS ≠ ar := Nat.ne_of_gt hrc
  have Ff : (f ≠ X.env.locals ∧ f ∉ X.fs) := ⟨fn_nloc I hf rfl, fs_stack I.ok hfr⟩
  have I0 : Inv X ((kS, seqObj "list" #[] 0) :: (ar, seqObj "list" #[] e1) :: (f, PySem.W.kla_obj "<lambda>" (X.env.qual ++ "<lambda>") params body scope (cloFrom X.env.cells scope.names []) pm c' ctv) :: pins) σ H { s with heap := sortingHeap (copyHeap s.heap its) ar its } := by
    have J : Inv X pins σ H { s with heap := sortingHeap (copyHeap s.heap its) ar its } := I.kept (t' := s.toks) kp
    refine J.pins_of fun p hp => ?_
    rcases List.mem_cons.mp hp with z | hp
    · rw [z]; exact ⟨gK, nK, FK.1, FK.2.1, fun v z => by cases z⟩
    · rcases List.mem_cons.mp hp with z | hp
      · rw [z]; exact ⟨gA, nA, FA.1, FA.2.1, fun v z => by cases z⟩
      · rcases List.mem_cons.mp hp with z | hp
        · rw [z]; exact ⟨kp _ _ hf, hfn, Ff.1, Ff.2, fun v z => by cases z⟩
        · exact J.pin p (List.mem_append_right _ hp)
  have FK1 : ∀ {oA : Obj}, Fst X ((ar, oA) :: (f, PySem.W.kla_obj "<lambda>" (X.env.qual ++ "<lambda>") params body scope (cloFrom X.env.cells scope.names []) pm c' ctv) :: pins) kS := fun {oA} => (FK.cons (p := (f, _)) hKf.symm).cons hKA.symm
  unfold ksk_rest
  refine wpAny_bind (wpAny_rule ?_)
  first
    | rw [List.forIn_toArray]
    | (rw [← Array.forIn_toList]; simp only [List.toList_toArray])
    | rw [← Array.forIn_toList]
  refine wpAny_bind (ksk_fold (fun i s' => ∃ H' φ' h' kA e kts kvs rest, Inv X ((kS, seqObj "list" kA e) :: (ar, seqObj "list" #[] e1) :: (f, PySem.W.kla_obj "<lambda>" (X.env.qual ++ "<lambda>") params body scope (cloFrom X.env.cells scope.names []) pm c' ctv) :: pins) σ H' s' ∧
      Le φ H φ' H' ∧ RelH X.K φ' H' h' ∧ Vals kvs kA.toList ∧ RpL X.K φ' (Fz φ' H') kts kvs ∧ kts.length = i ∧ keysM (fun x => dk (sl ++ [some x])) (xs.drop i) h' = some (.ok rest, hE) ∧ kts ++ rest = ks) its 0 _
    ⟨H, φ, h, #[], 0, [], [], ks, I0, Le.refl _ _, at_.h, .nil, rfl, rfl, q2, rfl⟩ ?step ?done)
  case step =>
    rintro j ux s' hx ⟨H1, φ1, h1, kA, e, kts, kvs, rest, I1, l1, rh1, rvk, rpk, hkl1, hkm, hks⟩
    simp only [Nat.zero_add] at hkl1 hkm ⊢
    have hj : j < its.length := (List.getElem?_eq_some_iff.mp hx).1
    obtain ⟨x, hxj⟩ : ∃ x, xs[j]? = some x := ⟨_, List.getElem?_eq_getElem (by omega)⟩
    obtain ⟨vx, ex, rx⟩ := rL.get' hxj
    obtain ⟨ux', eux, rvx⟩ := rv.get ex
    rw [hx] at eux
    cases eux
    have hdr : xs.drop j = x :: xs.drop (j + 1) := by
      obtain ⟨hj2, e2⟩ := List.getElem?_eq_some_iff.mp hxj
      rw [List.drop_eq_getElem_cons hj2, e2]
    rw [hdr] at hkm
    unfold keysM at hkm
    cases q3 : dk (sl ++ [some x]) h1 with
    | none => simp only [q3] at hkm; cases hkm
    | some r3 =>
    obtain ⟨r3, h2⟩ := r3
    cases r3 with
    | exc c => simp only [q3] at hkm; cases hkm
    | ok kx =>
    simp only [q3] at hkm
    cases q4 : keysM (fun x => dk (sl ++ [some x])) (xs.drop (j + 1)) h2 with
    | none => simp only [q4] at hkm; cases hkm
    | some r4 =>
    obtain ⟨r4, h3⟩ := r4
    cases r4 with
    | exc c => simp only [q4] at hkm; cases hkm
    | ok rest' =>
    simp only [q4] at hkm
    cases hkm
    have hf1 := (I1.pin (f, PySem.W.kla_obj "<lambda>" (X.env.qual ++ "<lambda>") params body scope (cloFrom X.env.cells scope.names []) pm c' ctv) (List.mem_append_right _ (.tail _ (.tail _ (.head _))))).1
    have at1 := at_.le l1 rh1
    refine wpAny_bind (wpAny_attempt (wpAny_mono (lam_callB (k := k) (v := vx) (B := X.A.in1.in1) (tb := tD X.K X.mg C8.E0 dk)
      (Q := fun v H' => ∃ φ', Le φ1 H1 φ' H' ∧ RelH X.K φ' H' h2 ∧ Rp X.K φ' (Fz φ' H') kx v) I1 L hf1 (code_le at_.h l1 hc) hbind hr.in1.in1 I1.env0.in1.in1 (fun outer s H rm => hbody _ _ _ _ _ _ rm) rvx
      ⟨φ1, sl ++ [some x], h1, ⟨at1.s.snoc (rx.le l1), rh1⟩, ?_⟩) (fun u2 s2 he => ?_) fun _ _ hF => hF.elim))
    · rw [q3]
      exact fun φ' H' l rh v rv => ⟨φ', l, rh, rv⟩
    obtain ⟨kv, H2, I2, rk2, φ2, l2, rh2, rpk2⟩ := he
    try dsimp only
    have nK2 := (I2.pin (kS, seqObj "list" kA e) (List.mem_append_right _ (.head _))).1
    have s1 := Heap.SameBut.update s2.heap kS (Obj.mapSeq (·.push u2))
    obtain ⟨c2, hc2⟩ : ∃ c2, (s2.heap.update kS (Obj.mapSeq (·.push u2))).get? kS = some (seqObj "list" (kA.push u2) c2) := ⟨_, get?_update_seq nK2 (·.push u2)⟩
    have hzk : kA.size ≤ its.length := by
      have z1 : kvs.length = kA.size := by rw [rvk.length, Array.length_toList]
      have z2 := rpk.length
      omega
    refine wpAny_bind (listUpdate_at nK2 rfl ?_ (Nat.le_trans hzk hzi) (Nat.le_trans (Nat.le_of_eq (Array.size_push ..)) (Nat.succ_le_succ (Nat.le_trans hzk hzi))))
    have I3 := pin_turn (t' := s2.toks) I2 FK1 (fun d u hd e => (s1.2 d hd).trans e) hc2 (fun v z => by cases z)
    refine wpAny_pure ⟨rfl, H2, φ2, h2, kA.push u2, c2, kts ++ [kx], kvs ++ [kv], rest', I3, l1.trans l2, rh2, ?_, (rpk.le l2).append ⟨kv, [], rfl, rpk2, rfl⟩, by rw [List.length_append, hkl1]; rfl, q4, by rw [List.append_assoc]; exact hks⟩
    rw [show (kA.push u2).toList = kA.toList ++ [u2] by simp]
    exact rvk.append (.cons rk2 .nil)
  case done =>
    rintro s' ⟨H1, φ1, h1, kA, e, kts, kvs, rest, I1, l1, rh1, rvk, rpk, hkl1, hkm, hks⟩
    have hdr : xs.drop (0 + its.length) = [] := List.drop_eq_nil_of_le (by omega)
    rw [hdr] at hkm
    cases hkm
    rw [List.append_nil] at hks
    subst hks
    have nK1 := (I1.pin (kS, seqObj "list" kA e) (List.mem_append_right _ (.head _))).1
    have nA1 := (I1.pin (ar, seqObj "list" #[] e1) (List.mem_append_right _ (.tail _ (.head _)))).1
    have fA1 : H1 ar = none := (I1.pin (ar, seqObj "list" #[] e1) (List.mem_append_right _ (.tail _ (.head _)))).2.1
    have dp := RpL.dp Fz.ex kts kvs cl rpk
    obtain ⟨as, rd⟩ := Dp.readsAll I1 (T.pys kts) kvs kA.toList dp rvk
    have each : EachIs (fun v d => ∃ as, Reads s'.heap v d as) kA.toList (T.pys kts) := by
      have := readsAll_each id (show ReadsAll s'.heap kA.toList ((T.pys kts).map id) as by rw [List.map_id]; exact rd)
      simpa using this
    have hun := hr.un
    have srt := sortsAny (prog := X.prog) (w := X.w) (A := X.A.in1.in1) (s := s') each sok.al sok.sr (fun d hd => by have := sok.dp d hd; show X.A.units + 1 + 1 + d.depth < cLine; omega)
    obtain ⟨G, hG1, hG2⟩ := L2.restrict s'.heap fun b => decide (b ≠ kS)
    have kpG : KeepsBut ar G s'.heap := fun b o _ e => by
      by_cases hb : b = kS
      · rw [hb, hG2 kS (by simp)] at e; cases e
      · rw [hG1 b (by simp [hb])] at e; exact e
    have hvl : vs.length = (T.pys kts).length := by
      have z := dpLen dp
      have z2 := rpk.length
      have z3 := rL.length
      omega
    refine wpAny_bind (listItems_at nK1 rfl ?_)
    refine keyH_end (κ := dataKind s'.heap (T.pys kts)) (h₁ := G) (b := false) kpG (hG2 kS (by simp)) nK1 nA1 hKA srt (by
      have z1 : kvs.length = kA.size := by rw [rvk.length, Array.length_toList]
      have z2 := rpk.length
      omega) hzi fun h3 tk3 c3 k3 n3 => ⟨rfl, ?_⟩
    have ko : KeyedOut false ((vs.zip (T.pys kts)).map (·.2)) its (sortVals (dataKind s'.heap (T.pys kts)) false kA.toList its) := by
      rw [zipSnd hvl]
      exact ⟨s'.heap, kA.toList, sok.al, rfl, each⟩
    have out := keyedOut_each (β := V × PyData) (R := fun u b => RelV b.1 u) (fun b => b.2) ko (zipEach rv hvl)
    have hv := eachVals out
    have I2 := pin_off2 (t' := tk3) (h' := h3) I1 (FK.cons (p := (f, _)) hKf.symm) (FA.cons (p := (f, _)) hAf.symm) fun c u hcK hcA e => k3 c u hcA (by rw [hG1 c (by simp [hcK])]; exact e)
    have I3 : Inv X pins σ H1 { s' with heap := h3, toks := tk3 } := pin_sub I2 fun p hp => .tail _ hp
    have hln : (sortV vs (T.pys kts)).length ≤ sizeLine := by
      unfold sortV
      rw [List.length_map, (List.mergeSort_perm _ _).length_eq, List.length_zip, ← hvl, Nat.min_self]
      exact hz
    have I4 := adopt (o := .lst (sortV vs (T.pys kts))) I3 FA (Nat.le_trans I.sz hAs) fA1 ⟨hln, _, c3, hv, n3⟩
    have rs := sortK_rp (ks := kts) (rL.le l1) hkl
    refine ⟨.ref ar, _, I4, rfl, ?_⟩
    have fin1 := fin.le l1
    cases ow with
    | true =>
      simp only [if_true] at fin1
      exact fin1.own rh1 fA1 ⟨_, rfl, rs⟩
    | false =>
      simp only [Bool.false_eq_true, if_false] at fin1
      exact fin1.newLst rh1 rs fA1
/-- sorted(xs, key=lambda a: body) -/
theorem pd_sortK {E : XK} {ow : Bool} {e body : Expr} {a : Str} {k : Nat} {d dk : D} {params : Arguments} {scope : Scope} {fdX : FuncData} {p lpos kpos pos : Pos} (hc : X.calm = true) (hg : Gl X "sorted") (hm : X.mg "sorted" = none) (he : PD X E e d)
    (T : KT X.K X.mg X.base fdX (X.env.qual ++ "<lambda>")) (hcode : X.env.code = fdX.code) (hr : Room (k + 3) X.A) (L : Lam1 X.env.scope scope a) (hdef : defaultsOf params X.env = ([], []))
    (hbind : ∀ (q : Str) (cl : List (Str × Addr)) (pm cv ctv : Value) (u : Value), bindArgs (PySem.W.kla_fn "<lambda>" q params body scope cl pm cv ctv) ⟨[u], []⟩ = pure [(a, u)])
    (hbody : ∀ (A : Around) (outer : List Env) (s : Shared) (H : Hp) (f c' : Addr), Room k (A.deeper (LamX.lamEnv X scope s.heap.objs.size f c')) → PD (lamCx1 X A outer s H C8.E0 scope f c' a) C8.E0 body dk)
    (hs0 : starEach [e] X.env = (false, eval e X.env) :: starEach [] X.env := by rfl) (hst : backTo pos (starEach [e] X.env) = (false, eval e X.env) :: backTo pos (starEach [] X.env) := by rfl) (hpl : (backTo pos (starEach [e] X.env)).any (·.1) = false := by rfl)
    (hall : (backToKw pos (keywordEach [⟨some "key", .Lambda params body scope lpos, kpos⟩] X.env)).all (·.1.isSome) = true := by rfl) (hnone : (backToKw pos (keywordEach [⟨some "key", .Lambda params body scope lpos, kpos⟩] X.env)).any (·.1.isNone) = false := by rfl)
    (hks : (backToKw pos (keywordEach [⟨some "key", .Lambda params body scope lpos, kpos⟩] X.env)).filterMap (·.1) = [Str.ofString "key"] := by rfl) :
    PD X E (.Call (.Name "sorted" p) [e] [⟨some "key", .Lambda params body scope lpos, kpos⟩] pos) (dSortK ow d dk) := by
  obtain ⟨c, P, e1, TBh, hmT, hu⟩ := T.ex
  refine ⟨fun pins s σ H Q I w => ?_⟩
  obtain ⟨φ, sl, h, at_, fin⟩ := w
  refine wpAny_Call_Name_kw (ld_blt I hg hm bt_sorted ?_)
  refine PyProof.Rows.callWith_kw (thn ((pda_cons he pda_nil hs0).run pos pins s σ H (fun vs H1 => ∃ v φ1 t h1, vs = [v] ∧ Le φ H φ1 H1 ∧ RelH X.K φ1 H1 h1 ∧ Rp X.K φ1 (Fz φ1 H1) t v ∧ Fin X.K X.mg (wV X.K Q) E φ1 H1 (fSortK ow (fun x => dk (sl ++ [some x])) t h1)) I ⟨φ, sl, h, at_, ?_⟩) fun us s1 ⟨vs, H1, I1, r1, v, φ1, t, h1, q1, q2, q3, q4, q5⟩ => ?_) hst hpl hall hnone
  · unfold dSortK at fin
    have f2 := fin.bnd
    unfold dCons dNil Z.bnd
    unfold Z.bnd at f2
    cases q : d sl h with
    | none => rw [q] at f2; exact f2
    | some r =>
      obtain ⟨r, h1⟩ := r
      rw [q] at f2
      cases r with
      | exc c => exact f2
      | ok t =>
        intro φ' H' l rh vs rvs
        obtain ⟨v, r, e1, e2, e3⟩ := rvs
        have e3 : r = [] := e3
        subst e3
        obtain ⟨h1', rh', l', f'⟩ := f2 φ' H' l rh
        refine ⟨v, φ', t, h1', e1, l, rh', e2, f'⟩
  subst q1
  obtain ⟨u, rfl, ru⟩ := vals1 r1
  rw [hks]
  show wpAny _ _ (evalAll ((do let v ← eval (.Lambda params body scope lpos) X.env; standAt pos; pure v) :: [])) _ _ s1
  refine wpAny_evalAll_cons (wpAny_bind (LamX.lam_make2 I1 TBh (hcode.trans e1) hmT hu q3.tab hdef (L.has I1.ok) fun f c' pm' ctv H2 s' I2 eN T1 hf hfn hfr hco => wpAny_bind (wpAny_standAt (wpAny_pure (wpAny_evalAll_nil ?_)))))
  obtain ⟨l2, rh2⟩ := le_extN q3 eN T1
  have rT := q4.le l2
  have fin2 := q5.le l2
  have hlst : ∃ l, v = .ref l := by
    unfold fSortK at q5
    cases q1 : slQ h1 t with
    | none => rw [q1] at q5; exact q5.elim
    | some xs =>
      obtain ⟨a0, vs, e0, _⟩ := slQ_rp q3 q4 q1
      exact ⟨a0, e0⟩
  obtain ⟨l, rfl⟩ := hlst
  obtain rfl : u = Value.ref l := ru
  exact sortK_start (I.ok.hd hc) L hr hbind hbody I2 hf hfn hfr hco ((at_.le q2 q3).le l2 rh2) rT fin2
end
end Z

/-! Lay27: min(xs), max(xs) of a list of data. -/
namespace Z
open PySem L2 PyProof.Rows PySem.W
theorem hu1 {k : Nat} {A : Around} (r : Room k A) : A.units + 1 < cLine := by have := r.un; omega
def okD (ts : List T) : Bool := ts.all fun a => SeqAt.shaped a.py && notNoneB a.py && ts.all fun b => PySem.W.alike a.py b.py
def minT (x : T) (xs : List T) : T := xs.foldl (fun a y => if PySem.W.dataLt y.py a.py then y else a) x
def maxT (x : T) (xs : List T) : T := xs.foldl (fun a y => if PySem.W.dataLt a.py y.py then y else a) x
def fMinD : List T → M T
  | [x] => fun h => match slQ h x with
    | some (t :: ts) => if okD (t :: ts) then some (.ok (minT t ts), h) else none
    | _ => none
  | _ => bot
def fMaxD : List T → M T
  | [x] => fun h => match slQ h x with
    | some (t :: ts) => if okD (t :: ts) then some (.ok (maxT t ts), h) else none
    | _ => none
  | _ => bot
def rBest (K : PySem.W.Frag) (bt : PyData → PyData → Bool) : List V → Hp → VK → Prop := fun xs H Q => ∃ (a : Addr) (vs : List V) (ds : List PyData) (v : V), xs = [.ref a] ∧ SqL K H a vs ∧ DpAll K H vs ds ∧ 0 < ds.length ∧ AlikeAll ds ∧ PyData.depthAll ds ≤ 64 ∧
  vs[argBest (fun i j => bt (ds.getD i .none) (ds.getD j .none)) (ds.length - 1)]? = some v ∧ Q v H
section
variable {X : Cx} {E : XK} {K : PySem.W.Frag} {φ : Ow} {H : Hp} {h : Hv} {t : T} {v : V}
theorem cr_minD (hc : X.calm = true) (hu : X.A.units + 70 < cLine) : CallR X (.builtin "min") (rBest X.K dataLt) := by
  intro pins s σ H xs us Q I r q
  obtain ⟨a, vs, ds, v, rfl, hq, hd, hn, ha, hdp, hv, q⟩ := q
  obtain ⟨u, rfl, rx⟩ := vals1 r
  obtain rfl : u = Value.ref a := rx
  obtain ⟨its, rv, pl, hz⟩ := I.list hq
  obtain ⟨as, rd⟩ := Dp.readsAll I ds vs its hd rv
  have hl : its.toArray.size = ds.length := by rw [List.size_toArray, ← rv.length, dpLen hd]
  have hr : ReadsAll s.heap its.toArray.toList ds as := by simpa using rd
  refine call_min_walkH (iter_listW (A := X.A.in1) (I.ok.hd hc) pl.isList fun s₂ e W st hfp hw hk => ?_)
  refine ⟨_, _, _, _, _, _, _, s.heap, _, rfl, W, st, hfp, by omega, hw, hk, cmpIn_lt (A := X.A.in1) hr ha (by show X.A.units + 1 + _ < _; omega), fun v' s' hP m => ?_⟩
  obtain ⟨h', tk, rfl, hk'⟩ := moved_old e rfl m
  obtain ⟨w, ew, rw'⟩ := rv.get hv
  rw [hl] at hP
  have : v' = w := by
    have z : its[argBest (fun i j => dataLt (ds.getD i .none) (ds.getD j .none)) (ds.length - 1)]? = some v' := by simpa using hP
    rw [ew] at z
    exact (Option.some.inj z).symm
  subst this
  exact ⟨v, H, I.kept hk', rw', q⟩
theorem cr_maxD (hc : X.calm = true) (hu : X.A.units + 70 < cLine) : CallR X (.builtin "max") (rBest X.K fun a b => dataLt b a) := by
  intro pins s σ H xs us Q I r q
  obtain ⟨a, vs, ds, v, rfl, hq, hd, hn, ha, hdp, hv, q⟩ := q
  obtain ⟨u, rfl, rx⟩ := vals1 r
  obtain rfl : u = Value.ref a := rx
  obtain ⟨its, rv, pl, hz⟩ := I.list hq
  obtain ⟨as, rd⟩ := Dp.readsAll I ds vs its hd rv
  have hl : its.toArray.size = ds.length := by rw [List.size_toArray, ← rv.length, dpLen hd]
  have hr : ReadsAll s.heap its.toArray.toList ds as := by simpa using rd
  refine call_max_walkH (iter_listW (A := X.A.in1) (I.ok.hd hc) pl.isList fun s₂ e W st hfp hw hk => ?_)
  refine ⟨_, _, _, _, _, _, _, s.heap, _, rfl, W, st, hfp, by omega, hw, hk, cmpIn_gt (A := X.A.in1) hr ha (by show X.A.units + 1 + _ < _; omega), fun v' s' hP m => ?_⟩
  obtain ⟨h', tk, rfl, hk'⟩ := moved_old e rfl m
  obtain ⟨w, ew, rw'⟩ := rv.get hv
  rw [hl] at hP
  have : v' = w := by
    have z : its[argBest (fun i j => dataLt (ds.getD j .none) (ds.getD i .none)) (ds.length - 1)]? = some v' := by simpa using hP
    rw [ew] at z
    exact (Option.some.inj z).symm
  subst this
  exact ⟨v, H, I.kept hk', rw', q⟩
theorem okD_of {ts : List T} (e : okD ts = true) : AlikeAll (T.pys ts) ∧ PyData.depthAll (T.pys ts) ≤ 64 ∧ PyData.canLayAll0 (T.pys ts) = true := by
  unfold okD at e
  have each : ∀ a ∈ ts, SeqAt.shaped a.py = true ∧ a.py ≠ .none ∧ ∀ b ∈ ts, PySem.W.alike a.py b.py = true := fun a ha => by
    have := List.all_eq_true.mp e a ha
    simp only [Bool.and_eq_true] at this
    obtain ⟨⟨h1, h2⟩, h3⟩ := this
    exact ⟨h1, (fun z => by rw [z] at h2; cases h2), fun b hb => List.all_eq_true.mp h3 b hb⟩
  rw [pys_map]
  refine ⟨⟨fun x hx y hy => ?_, fun x hx => ?_⟩, ?_, ?_⟩
  · obtain ⟨a, ha, rfl⟩ := List.mem_map.mp hx
    obtain ⟨b, hb, rfl⟩ := List.mem_map.mp hy
    exact (each a ha).2.2 b hb
  · obtain ⟨a, ha, rfl⟩ := List.mem_map.mp hx
    exact (each a ha).2.1
  · have gen : ∀ l : List T, (∀ a ∈ l, a.py.depth ≤ 64) → PyData.depthAll (l.map T.py) ≤ 64 := by
      intro l
      induction l with
      | nil => intro _; exact Nat.zero_le _
      | cons a l ih =>
        intro hl
        rw [List.map_cons, PyData.depthAll]
        exact Nat.max_le.mpr ⟨hl a (List.mem_cons_self ..), ih fun b hb => hl b (List.mem_cons_of_mem _ hb)⟩
    exact gen ts fun a ha => SeqAt.depth_of_shaped (each a ha).1
  · have gen : ∀ l : List T, (∀ a ∈ l, a.py.canLay0 = true) → PyData.canLayAll0 (l.map T.py) = true := by
      intro l
      induction l with
      | nil => intro _; rfl
      | cons a l ih =>
        intro hl
        rw [List.map_cons, PyData.canLayAll0, hl a (List.mem_cons_self ..), ih fun b hb => hl b (List.mem_cons_of_mem _ hb)]
        rfl
    exact gen ts fun a ha => SeqAt.canLay_of_shaped (each a ha).1
theorem best_at (bt : PyData → PyData → Bool) (x : T) (xs : List T) :
    (x :: xs)[argBest (fun i j => bt ((T.pys (x :: xs)).getD i .none) ((T.pys (x :: xs)).getD j .none)) ((T.pys (x :: xs)).length - 1)]? = some (xs.foldl (fun a y => if bt y.py a.py then y else a) x) := by
  have e1 : (T.pys (x :: xs)).length - 1 = xs.length := by rw [pys_map, List.length_map]; rfl
  have e2 : (fun i j => bt ((T.pys (x :: xs)).getD i .none) ((T.pys (x :: xs)).getD j .none)) = fun i j => (fun a b : T => bt a.py b.py) ((x :: xs).getD i .non) ((x :: xs).getD j .non) := by
    funext i j
    have g : ∀ n, (T.pys (x :: xs)).getD n .none = ((x :: xs).getD n .non).py := fun n => by
      rw [pys_map, List.getD_eq_getElem?_getD, List.getD_eq_getElem?_getD, List.getElem?_map]
      cases (x :: xs)[n]? <;> rfl
    rw [g, g]
  rw [e1, e2]
  obtain ⟨h1, h2⟩ := argBest_fold (fun a b : T => bt a.py b.py) T.non x xs xs.length (Nat.le_refl _)
  rw [List.take_length] at h2
  have h3 : argBest (fun i j => (fun a b : T => bt a.py b.py) ((x :: xs).getD i .non) ((x :: xs).getD j .non)) xs.length < (x :: xs).length := Nat.lt_succ_of_le h1
  rw [← h2, List.getD_eq_getElem?_getD, List.getElem?_eq_getElem h3]
  rfl
theorem b_minD : B1 X E fMinD (rBest X.K dataLt) := fun φ H h ts vs Q rh r f => by
  match ts, f with
  | [t], f =>
    obtain ⟨v, rfl, rv⟩ := r.one
    simp only [fMinD] at f
    cases q1 : slQ h t with
    | none => simp only [q1] at f; exact f.elim
    | some xs =>
      cases xs with
      | nil => simp only [q1] at f; exact f.elim
      | cons x xs =>
        simp only [q1] at f
        by_cases hk : okD (x :: xs) = true
        · rw [if_pos hk] at f
          obtain ⟨k1, k2, k3⟩ := okD_of hk
          obtain ⟨a, us, rfl, h1, h2⟩ := slQ_rp rh rv q1
          obtain ⟨w, ew, rw'⟩ := h2.get' (best_at dataLt x xs)
          exact ⟨a, us, T.pys (x :: xs), w, rfl, h1, RpL.dp Fz.ex _ _ k3 h2, by rw [pys_map, List.length_map]; exact Nat.zero_lt_succ _, k1, k2, ew, f.val rh rw'⟩
        · rw [if_neg hk] at f
          exact f.elim
theorem b_maxD : B1 X E fMaxD (rBest X.K fun a b => dataLt b a) := fun φ H h ts vs Q rh r f => by
  match ts, f with
  | [t], f =>
    obtain ⟨v, rfl, rv⟩ := r.one
    simp only [fMaxD] at f
    cases q1 : slQ h t with
    | none => simp only [q1] at f; exact f.elim
    | some xs =>
      cases xs with
      | nil => simp only [q1] at f; exact f.elim
      | cons x xs =>
        simp only [q1] at f
        by_cases hk : okD (x :: xs) = true
        · rw [if_pos hk] at f
          obtain ⟨k1, k2, k3⟩ := okD_of hk
          obtain ⟨a, us, rfl, h1, h2⟩ := slQ_rp rh rv q1
          obtain ⟨w, ew, rw'⟩ := h2.get' (best_at (fun a b => dataLt b a) x xs)
          exact ⟨a, us, T.pys (x :: xs), w, rfl, h1, RpL.dp Fz.ex _ _ k3 h2, by rw [pys_map, List.length_map]; exact Nat.zero_lt_succ _, k1, k2, ew, f.val rh rw'⟩
        · rw [if_neg hk] at f
          exact f.elim
end
end Z

namespace Z
open PySem PySem.Spec PyProof.Rows L2
def top (i : Nat) : Stmt := PySem.Challenge.pw_noshorterplan_k18_whole_why_and_what_is.main.body.getD i (.Pass ⟨0, 0, 0, 0⟩)
abbrev FnP (K : PySem.W.Frag) (x : Str) (st : Stmt) (f : Addr) (fd : FuncData) : Prop := FunD K x x (defArgs st) (defBody st) (defScope st) [] [] f fd
abbrev s__law_tape : Stmt := top 22
abbrev s__law_take : Stmt := top 23
abbrev s__law_deed : Stmt := top 24
abbrev s__law_world : Stmt := top 25
abbrev s__law_subsets : Stmt := top 31
abbrev s_after : Stmt := top 12
abbrev s_learnt : Stmt := top 19
abbrev s_is_facts : Stmt := top 7
abbrev s_check_deed : Stmt := top 8
abbrev s_check_world : Stmt := top 9
abbrev s_holds : Stmt := top 10
abbrev s_can : Stmt := top 11
abbrev s_next_states : Stmt := top 13
abbrev s_cheapest : Stmt := top 15
abbrev s_missing_facts : Stmt := top 17
abbrev s__law_after : Stmt := top 27
abbrev s__law_fits : Stmt := top 26
abbrev s__law_next : Stmt := top 28
abbrev s__law_reached : Stmt := top 29
abbrev s__law_costs : Stmt := top 30
abbrev s__law_can : Stmt := top 33
abbrev s_too_much : Stmt := top 18
abbrev s__law_deeds : Stmt := top 34
abbrev s_explains : Stmt := top 20
abbrev s_law : Stmt := top 35
abbrev s__law_refused : Stmt := top 32
def cs__law_refused : List Str := ["InvalidPlan", "InvalidWorld"]
/-- what the walk knows of the top -/
structure Env (K : PySem.W.Frag) (mg : Str → Option Value) (base : Heap) where
  a__law_tape : Addr
  fd__law_tape : FuncData
  F__law_tape : FnP K "_law_tape" s__law_tape a__law_tape fd__law_tape
  g__law_tape : mg "_law_tape" = some (.ref a__law_tape)
  a__law_take : Addr
  fd__law_take : FuncData
  F__law_take : FnP K "_law_take" s__law_take a__law_take fd__law_take
  g__law_take : mg "_law_take" = some (.ref a__law_take)
  a__law_deed : Addr
  fd__law_deed : FuncData
  F__law_deed : FnP K "_law_deed" s__law_deed a__law_deed fd__law_deed
  g__law_deed : mg "_law_deed" = some (.ref a__law_deed)
  a__law_world : Addr
  fd__law_world : FuncData
  F__law_world : FnP K "_law_world" s__law_world a__law_world fd__law_world
  g__law_world : mg "_law_world" = some (.ref a__law_world)
  a__law_subsets : Addr
  fd__law_subsets : FuncData
  F__law_subsets : FnP K "_law_subsets" s__law_subsets a__law_subsets fd__law_subsets
  g__law_subsets : mg "_law_subsets" = some (.ref a__law_subsets)
  a_after : Addr
  fd_after : FuncData
  F_after : FnP K "after" s_after a_after fd_after
  g_after : mg "after" = some (.ref a_after)
  a_learnt : Addr
  fd_learnt : FuncData
  F_learnt : FnP K "learnt" s_learnt a_learnt fd_learnt
  g_learnt : mg "learnt" = some (.ref a_learnt)
  a_is_facts : Addr
  fd_is_facts : FuncData
  F_is_facts : FnP K "is_facts" s_is_facts a_is_facts fd_is_facts
  g_is_facts : mg "is_facts" = some (.ref a_is_facts)
  a_check_deed : Addr
  fd_check_deed : FuncData
  F_check_deed : FnP K "check_deed" s_check_deed a_check_deed fd_check_deed
  g_check_deed : mg "check_deed" = some (.ref a_check_deed)
  a_check_world : Addr
  fd_check_world : FuncData
  F_check_world : FnP K "check_world" s_check_world a_check_world fd_check_world
  g_check_world : mg "check_world" = some (.ref a_check_world)
  a_holds : Addr
  fd_holds : FuncData
  F_holds : FnP K "holds" s_holds a_holds fd_holds
  g_holds : mg "holds" = some (.ref a_holds)
  a_can : Addr
  fd_can : FuncData
  F_can : FnP K "can" s_can a_can fd_can
  g_can : mg "can" = some (.ref a_can)
  a_next_states : Addr
  fd_next_states : FuncData
  F_next_states : FnP K "next_states" s_next_states a_next_states fd_next_states
  g_next_states : mg "next_states" = some (.ref a_next_states)
  a_cheapest : Addr
  fd_cheapest : FuncData
  F_cheapest : FnP K "cheapest" s_cheapest a_cheapest fd_cheapest
  g_cheapest : mg "cheapest" = some (.ref a_cheapest)
  a_missing_facts : Addr
  fd_missing_facts : FuncData
  F_missing_facts : FnP K "missing_facts" s_missing_facts a_missing_facts fd_missing_facts
  g_missing_facts : mg "missing_facts" = some (.ref a_missing_facts)
  a__law_after : Addr
  fd__law_after : FuncData
  F__law_after : FnP K "_law_after" s__law_after a__law_after fd__law_after
  g__law_after : mg "_law_after" = some (.ref a__law_after)
  a__law_fits : Addr
  fd__law_fits : FuncData
  F__law_fits : FnP K "_law_fits" s__law_fits a__law_fits fd__law_fits
  g__law_fits : mg "_law_fits" = some (.ref a__law_fits)
  a__law_next : Addr
  fd__law_next : FuncData
  F__law_next : FnP K "_law_next" s__law_next a__law_next fd__law_next
  g__law_next : mg "_law_next" = some (.ref a__law_next)
  a__law_reached : Addr
  fd__law_reached : FuncData
  F__law_reached : FnP K "_law_reached" s__law_reached a__law_reached fd__law_reached
  g__law_reached : mg "_law_reached" = some (.ref a__law_reached)
  a__law_costs : Addr
  fd__law_costs : FuncData
  F__law_costs : FnP K "_law_costs" s__law_costs a__law_costs fd__law_costs
  g__law_costs : mg "_law_costs" = some (.ref a__law_costs)
  a__law_can : Addr
  fd__law_can : FuncData
  F__law_can : FnP K "_law_can" s__law_can a__law_can fd__law_can
  g__law_can : mg "_law_can" = some (.ref a__law_can)
  a_too_much : Addr
  fd_too_much : FuncData
  F_too_much : FnP K "too_much" s_too_much a_too_much fd_too_much
  g_too_much : mg "too_much" = some (.ref a_too_much)
  a__law_deeds : Addr
  fd__law_deeds : FuncData
  F__law_deeds : FnP K "_law_deeds" s__law_deeds a__law_deeds fd__law_deeds
  g__law_deeds : mg "_law_deeds" = some (.ref a__law_deeds)
  a_explains : Addr
  fd_explains : FuncData
  F_explains : FnP K "explains" s_explains a_explains fd_explains
  g_explains : mg "explains" = some (.ref a_explains)
  a_law : Addr
  fd_law : FuncData
  F_law : FnP K "law" s_law a_law fd_law
  g_law : mg "law" = some (.ref a_law)
  a__law_refused : Addr
  fd__law_refused : FuncData
  F__law_refused : FnP K "_law_refused" s__law_refused a__law_refused fd__law_refused
  g__law_refused : mg "_law_refused" = some (.ref a__law_refused)
  c__law_refused : Addr
  e__law_refused : mg "PlanError" = some (.ref c__law_refused)
  xs__law_refused : ∀ c ∈ cs__law_refused, ∀ C, mg c = some (.ref C) → PySem.W.exmOne K (.ref C) (.ref c__law_refused) = some true
  kt_cheapest : KT K mg base fd_cheapest "cheapest.<locals>.<lambda>"
  kt_law : KT K mg base fd_law "law.<locals>.<lambda>"
  kt_missing_facts : KT K mg base fd_missing_facts "missing_facts.<locals>.<lambda>"
  kt_too_much : KT K mg base fd_too_much "too_much.<locals>.<lambda>"
  x_InvalidPlan : ExC K mg "InvalidPlan"
  x_InvalidWorld : ExC K mg "InvalidWorld"
  n_abs : mg "abs" = none
  n_all : mg "all" = none
  n_any : mg "any" = none
  n_dict : mg "dict" = none
  n_enumerate : mg "enumerate" = none
  n_int : mg "int" = none
  n_len : mg "len" = none
  n_min : mg "min" = none
  n_range : mg "range" = none
  n_sorted : mg "sorted" = none
  n_tuple : mg "tuple" = none
  n_zip : mg "zip" = none
  t_MOST_DEEDS : Tok
  c_MOST_DEEDS : mg "MOST_DEEDS" = some (.int 24 t_MOST_DEEDS)
  t_MOST_FACTS : Tok
  c_MOST_FACTS : mg "MOST_FACTS" = some (.int 12 t_MOST_FACTS)
section
variable {P : Program} {w : World} {K : PySem.W.Frag} {mg : Str → Option Value} {base : Heap}
theorem sc__law_refused : FnScope ["call"] ["call"] (defScope s__law_refused) := ⟨rfl, rfl, rfl, by decide +kernel, rfl, by decide +kernel, by decide +kernel⟩
theorem bd__law_refused (e : Env K mg base) : Binds K e.fd__law_refused ["call"] [] := e.F__law_refused.bindsN fun _ _ _ _ _ _ us hl => match us, hl with | [_], _ => rfl
/-! _law_tape -/
def b__law_tape : DS := dSeq (dAsg (.nm 1) (dLc false [3] (dSrc (dVar 0)) (.nm 3) (dYes) (dCall fAbs (dCons (dCall fInt (dCons (dVar 3) (dNil))) (dNil))))) (dSeq (dAsg (.nm 2) (dC (.int 7))) (dSeq (dFor (dSrc (dVar 1)) (.nm 3) (dAsg (.nm 2) (dBin fMod (dCall fInt (dCons (dBin fAdd (dBin fMul (dVar 2) (dC (.int 31))) (dVar 3)) (dNil))) (dC (.int 2147483647))))) (dRet (dDisp false [(dC (.str "cells"), dVar 1), (dC (.str "at"), dC (.int 0)), (dC (.str "left"), dC (.int 0)), (dC (.str "seed"), dVar 2), (dC (.str "salt"), dC (.int 0))]))))
def d__law_tape : List T → M T := dDef true 1 4 b__law_tape
theorem sc__law_tape : FnScope ["script", "cells", "seed", "cell"] ["script"] (defScope s__law_tape) := ⟨rfl, rfl, rfl, by decide +kernel, rfl, by decide +kernel, by decide +kernel⟩
theorem bd__law_tape (e : Env K mg base) : Binds K e.fd__law_tape ["script"] [] := e.F__law_tape.bindsN fun _ _ _ _ _ _ us hl => match us, hl with | [_], _ => rfl
theorem ok__law_tape (e : Env K mg base) : FnOk P w K mg base CX0 1 e.a__law_tape e.fd__law_tape ["script"] (spD K mg 1 d__law_tape) := by
  have nd := sc__law_tape.nd
  refine FunD.okC e.F__law_tape sc__law_tape (fun vs H Q E h => h.1) (fun A outer s H vs Q E hr h => ⟨tS K mg E b__law_tape, PSs.nox ?_, def_read h⟩)
  exact pdss_cons (pds_setLc false [("cell", 3)] 1 rfl nd (sw_true rfl rfl rfl rfl) (pid_src (pv' 0)) (by kernel_rfl) (fun _ _ _ _ _ => pgd_name 3 nd) (fun _ _ _ _ _ => ptd_nil) (fun _ _ _ _ _ => pd_callB b_abs call_abs rfl e.n_abs bt_abs (pda_cons (pd_callTy b_int call_int1 rfl e.n_int bt_int (pda_cons (pv' 3) (pda_nil))) (pda_nil)))) (pdss_cons (pds_set 2 nd (pd_int)) (pdss_cons (pds_for PassesOwn.never rfl (pid_src (pv' 1)) (pgd_name 3 nd) (pdss_one (pds_set 2 nd (pd_mod (pd_callTy b_int call_int1 rfl e.n_int bt_int (pda_cons (pd_add (pd_mul (pv' 2) (pd_int)) (pv' 3)) (pda_nil))) (pd_int))))) (pdss_one (pds_ret (pd_disp (ppd_cons (pd_str) (pv' 1) (ppd_cons (pd_str) (pd_int) (ppd_cons (pd_str) (pd_int) (ppd_cons (pd_str) (pv' 2) (ppd_cons (pd_str) (pd_int) (ppd_nil)))))))))))
/-! _law_take -/
def b__law_take : DS := dSeq (dIfS (dAnd (dB (dBin fEq (dBin fIx (dVar 0) (dC (.str "left"))) (dC (.int 0)))) (dB (dBin fLt (dBin fIx (dVar 0) (dC (.str "at"))) (dCall fLen (dCons (dBin fIx (dVar 0) (dC (.str "cells"))) (dNil)))))) (dSeq (dSet (dBin fIx (dBin fIx (dVar 0) (dC (.str "cells"))) (dBin fIx (dVar 0) (dC (.str "at")))) (dVar 0) (dC (.str "left"))) (dSet (dBin fAdd (dBin fIx (dVar 0) (dC (.str "at"))) (dC (.int 1))) (dVar 0) (dC (.str "at")))) (dNx)) (dSeq (dIfS (dB (dBin fGt (dBin fIx (dVar 0) (dC (.str "left"))) (dC (.int 0)))) (dSeq (dAsg (.nm 2) (dBin fMod (dCall fInt (dCons (dBin fIx (dVar 0) (dC (.str "left"))) (dNil))) (dVar 1))) (dSeq (dSet (dBin fDiv (dBin fIx (dVar 0) (dC (.str "left"))) (dVar 1)) (dVar 0) (dC (.str "left"))) (dRet (dVar 2)))) (dNx)) (dSeq (dSet (dBin fAdd (dBin fIx (dVar 0) (dC (.str "salt"))) (dC (.int 1))) (dVar 0) (dC (.str "salt"))) (dSeq (dAsg (.nm 3) (dBin fMod (dCall fInt (dCons (dBin fAdd (dBin fMul (dBin fIx (dVar 0) (dC (.str "seed"))) (dC (.int 48271))) (dBin fMul (dBin fIx (dVar 0) (dC (.str "salt"))) (dC (.int 69621)))) (dNil))) (dC (.int 2147483647)))) (dSeq (dAsg (.nm 3) (dBin fMod (dCall fInt (dCons (dBin fAdd (dBin fAdd (dBin fMul (dVar 3) (dVar 3)) (dBin fMul (dBin fIx (dVar 0) (dC (.str "salt"))) (dC (.int 40692)))) (dC (.int 12345))) (dNil))) (dC (.int 2147483399)))) (dRet (dBin fMod (dCall fInt (dCons (dVar 3) (dNil))) (dVar 1)))))))
def d__law_take : List T → M T := dDef false 2 4 b__law_take
theorem sc__law_take : FnScope ["tape", "many", "drawn", "mixed"] ["tape", "many"] (defScope s__law_take) := ⟨rfl, rfl, rfl, by decide +kernel, rfl, by decide +kernel, by decide +kernel⟩
theorem bd__law_take (e : Env K mg base) : Binds K e.fd__law_take ["tape", "many"] [] := e.F__law_take.bindsN fun _ _ _ _ _ _ us hl => match us, hl with | [_, _], _ => rfl
theorem ok__law_take (e : Env K mg base) : FnOk P w K mg base CX0 1 e.a__law_take e.fd__law_take ["tape", "many"] (spD K mg 2 d__law_take) := by
  have nd := sc__law_take.nd
  refine FunD.okC e.F__law_take sc__law_take (fun vs H Q E h => h.1) (fun A outer s H vs Q E hr h => ⟨tS K mg E b__law_take, PSs.nox ?_, def_read h⟩)
  exact pdss_cons (pds_if (pt_w (pw_and' (pt_cmp' (op_eqD (hu64 hr)) o2_eq (pd_ix (hu65 hr) (pv' 0) (pd_str)) (pd_int)) (pw_one_and (pt_cmp' op_lt o2_lt (pd_ix (hu65 hr) (pv' 0) (pd_str)) (pd_callB b_len cr_len rfl e.n_len bt_len (pda_cons (pd_ix (hu65 hr) (pv' 0) (pd_str)) (pda_nil))))))) (pdss_cons (pds_sub (hu65 hr) (pd_ix (hu65 hr) (pd_ix (hu65 hr) (pv' 0) (pd_str)) (pd_ix (hu65 hr) (pv' 0) (pd_str))) (pv' 0) (pd_str)) (pdss_one (pds_sub (hu65 hr) (pd_add (pd_ix (hu65 hr) (pv' 0) (pd_str)) (pd_int)) (pv' 0) (pd_str)))) (pdss_nil)) (pdss_cons (pds_if (pt_cmp' op_gt o2_gt (pd_ix (hu65 hr) (pv' 0) (pd_str)) (pd_int)) (pdss_cons (pds_set 2 nd (pd_mod (pd_callTy b_int call_int1 rfl e.n_int bt_int (pda_cons (pd_ix (hu65 hr) (pv' 0) (pd_str)) (pda_nil))) (pv' 1))) (pdss_cons (pds_sub (hu65 hr) (pd_fdiv (pd_ix (hu65 hr) (pv' 0) (pd_str)) (pv' 1)) (pv' 0) (pd_str)) (pdss_one (pds_ret (pv' 2))))) (pdss_nil)) (pdss_cons (pds_sub (hu65 hr) (pd_add (pd_ix (hu65 hr) (pv' 0) (pd_str)) (pd_int)) (pv' 0) (pd_str)) (pdss_cons (pds_set 3 nd (pd_mod (pd_callTy b_int call_int1 rfl e.n_int bt_int (pda_cons (pd_add (pd_mul (pd_ix (hu65 hr) (pv' 0) (pd_str)) (pd_int)) (pd_mul (pd_ix (hu65 hr) (pv' 0) (pd_str)) (pd_int))) (pda_nil))) (pd_int))) (pdss_cons (pds_set 3 nd (pd_mod (pd_callTy b_int call_int1 rfl e.n_int bt_int (pda_cons (pd_add (pd_add (pd_mul (pv' 3) (pv' 3)) (pd_mul (pd_ix (hu65 hr) (pv' 0) (pd_str)) (pd_int))) (pd_int)) (pda_nil))) (pd_int))) (pdss_one (pds_ret (pd_mod (pd_callTy b_int call_int1 rfl e.n_int bt_int (pda_cons (pv' 3) (pda_nil))) (pv' 1))))))))
/-! _law_deed -/
def b__law_deed : DS := dSeq (dAsg (.nm 2) (dLc false [8] (dRng1 (dCons (dVar 1) (dNil))) (.nm 8) (dYes) (dCall (fun ts => if ts.length = 2 then d__law_take ts else bot) (dCons (dVar 0) (dCons (dC (.int 6)) (dNil)))))) (dSeq (dAsg (.nm 3) (dLc false [8] (dRng1 (dCons (dVar 1) (dNil))) (.nm 8) (dYes) (dCall (fun ts => if ts.length = 2 then d__law_take ts else bot) (dCons (dVar 0) (dCons (dC (.int 5)) (dNil)))))) (dSeq (dPar 4 5 (dCons (dCall fTuple (dCons (dLc false [9] (dRng1 (dCons (dVar 1) (dNil))) (.nm 9) (dB (dBin fEq (dBin fIx (dVar 2) (dVar 9)) (dC (.int 1)))) (dVar 9)) (dNil))) (dCons (dCall fTuple (dCons (dLc false [9] (dRng1 (dCons (dVar 1) (dNil))) (.nm 9) (dB (dBin fEq (dBin fIx (dVar 2) (dVar 9)) (dC (.int 2)))) (dVar 9)) (dNil))) (dNil)))) (dSeq (dPar 6 7 (dCons (dCall fTuple (dCons (dLc false [9] (dRng1 (dCons (dVar 1) (dNil))) (.nm 9) (dB (dBin fEq (dBin fIx (dVar 3) (dVar 9)) (dC (.int 0)))) (dVar 9)) (dNil))) (dCons (dCall fTuple (dCons (dLc false [9] (dRng1 (dCons (dVar 1) (dNil))) (.nm 9) (dB (dBin fEq (dBin fIx (dVar 3) (dVar 9)) (dC (.int 1)))) (dVar 9)) (dNil))) (dNil)))) (dRet (dTup (dCons (dVar 4) (dCons (dVar 5) (dCons (dVar 6) (dCons (dVar 7) (dCons (dCall (fun ts => if ts.length = 2 then d__law_take ts else bot) (dCons (dVar 0) (dCons (dC (.int 4)) (dNil)))) (dNil)))))))))))
def d__law_deed : List T → M T := dDef false 2 10 b__law_deed
theorem sc__law_deed : FnScope ["tape", "many", "marks", "moves", "needs", "bars", "adds", "drops", "fact", "k"] ["tape", "many"] (defScope s__law_deed) := ⟨rfl, rfl, rfl, by decide +kernel, rfl, by decide +kernel, by decide +kernel⟩
theorem bd__law_deed (e : Env K mg base) : Binds K e.fd__law_deed ["tape", "many"] [] := e.F__law_deed.bindsN fun _ _ _ _ _ _ us hl => match us, hl with | [_, _], _ => rfl
theorem ok__law_deed (e : Env K mg base) : FnOk P w K mg base CX0 2 e.a__law_deed e.fd__law_deed ["tape", "many"] (spD K mg 2 d__law_deed) := by
  have nd := sc__law_deed.nd
  refine FunD.okC e.F__law_deed sc__law_deed (fun vs H Q E h => h.1) (fun A outer s H vs Q E hr h => ⟨tS K mg E b__law_deed, PSs.nox ?_, def_read h⟩)
  exact pdss_cons (pds_set 2 nd (pd_lc false [("fact", 8)] rfl nd (pid_rng1 rfl e.n_range (pda_cons (pv' 1) (pda_nil))) (by kernel_rfl) (fun _ _ _ _ _ => pgd_name 8 nd) (fun _ _ _ _ _ => ptd_nil) (fun _ _ _ _ _ => pd_call (ok__law_take e) (hr.mono (by decide)) rfl e.g__law_take e.F__law_take.kp (bd__law_take e) pass0 (pda_cons (pv' 0) (pda_cons (pd_int) (pda_nil)))))) (pdss_cons (pds_set 3 nd (pd_lc false [("fact", 8)] rfl nd (pid_rng1 rfl e.n_range (pda_cons (pv' 1) (pda_nil))) (by kernel_rfl) (fun _ _ _ _ _ => pgd_name 8 nd) (fun _ _ _ _ _ => ptd_nil) (fun _ _ _ _ _ => pd_call (ok__law_take e) (hr.mono (by decide)) rfl e.g__law_take e.F__law_take.kp (bd__law_take e) pass0 (pda_cons (pv' 0) (pda_cons (pd_int) (pda_nil)))))) (pdss_cons (pds_par 4 5 rfl nd (pda_cons (pd_callTy b_tuple call_tuple_of rfl e.n_tuple bt_tuple (pda_cons (pd_lc false [("k", 9)] rfl nd (pid_rng1 rfl e.n_range (pda_cons (pv' 1) (pda_nil))) (by kernel_rfl) (fun _ _ _ _ _ => pgd_name 9 nd) (fun _ _ _ _ _ => ptd_one (pt_cmp' (op_eqD (hu64 hr)) o2_eq (pd_ix (hu65 hr) (pv' 2) (pv' 9)) (pd_int))) (fun _ _ _ _ _ => pv' 9)) (pda_nil))) (pda_cons (pd_callTy b_tuple call_tuple_of rfl e.n_tuple bt_tuple (pda_cons (pd_lc false [("k", 9)] rfl nd (pid_rng1 rfl e.n_range (pda_cons (pv' 1) (pda_nil))) (by kernel_rfl) (fun _ _ _ _ _ => pgd_name 9 nd) (fun _ _ _ _ _ => ptd_one (pt_cmp' (op_eqD (hu64 hr)) o2_eq (pd_ix (hu65 hr) (pv' 2) (pv' 9)) (pd_int))) (fun _ _ _ _ _ => pv' 9)) (pda_nil))) (pda_nil)))) (pdss_cons (pds_par 6 7 rfl nd (pda_cons (pd_callTy b_tuple call_tuple_of rfl e.n_tuple bt_tuple (pda_cons (pd_lc false [("k", 9)] rfl nd (pid_rng1 rfl e.n_range (pda_cons (pv' 1) (pda_nil))) (by kernel_rfl) (fun _ _ _ _ _ => pgd_name 9 nd) (fun _ _ _ _ _ => ptd_one (pt_cmp' (op_eqD (hu64 hr)) o2_eq (pd_ix (hu65 hr) (pv' 3) (pv' 9)) (pd_int))) (fun _ _ _ _ _ => pv' 9)) (pda_nil))) (pda_cons (pd_callTy b_tuple call_tuple_of rfl e.n_tuple bt_tuple (pda_cons (pd_lc false [("k", 9)] rfl nd (pid_rng1 rfl e.n_range (pda_cons (pv' 1) (pda_nil))) (by kernel_rfl) (fun _ _ _ _ _ => pgd_name 9 nd) (fun _ _ _ _ _ => ptd_one (pt_cmp' (op_eqD (hu64 hr)) o2_eq (pd_ix (hu65 hr) (pv' 3) (pv' 9)) (pd_int))) (fun _ _ _ _ _ => pv' 9)) (pda_nil))) (pda_nil)))) (pdss_one (pds_ret (pd_tup (pda_cons (pv' 4) (pda_cons (pv' 5) (pda_cons (pv' 6) (pda_cons (pv' 7) (pda_cons (pd_call (ok__law_take e) (hr.mono (by decide)) rfl e.g__law_take e.F__law_take.kp (bd__law_take e) pass0 (pda_cons (pv' 0) (pda_cons (pd_int) (pda_nil)))) (pda_nil))))))))))))
/-! _law_world -/
def b__law_world : DS := dSeq (dAsg (.nm 3) (dCall fTuple (dCons (dLc false [7] (dRng1 (dCons (dVar 2) (dNil))) (.nm 7) (dYes) (dCall (fun ts => if ts.length = 2 then d__law_deed ts else bot) (dCons (dVar 0) (dCons (dVar 1) (dNil))))) (dNil)))) (dSeq (dAsg (.nm 4) (dCall fTuple (dCons (dLc false [7] (dRng1 (dCons (dVar 1) (dNil))) (.nm 7) (dB (dBin fEq (dCall (fun ts => if ts.length = 2 then d__law_take ts else bot) (dCons (dVar 0) (dCons (dC (.int 2)) (dNil)))) (dC (.int 0)))) (dVar 7)) (dNil)))) (dSeq (dAsg (.nm 5) (dLc false [6] (dRng1 (dCons (dVar 1) (dNil))) (.nm 6) (dYes) (dCall (fun ts => if ts.length = 2 then d__law_take ts else bot) (dCons (dVar 0) (dCons (dC (.int 4)) (dNil)))))) (dRet (dTup (dCons (dVar 1) (dCons (dVar 3) (dCons (dVar 4) (dCons (dTup (dCons (dCall fTuple (dCons (dLc false [7] (dRng1 (dCons (dVar 1) (dNil))) (.nm 7) (dB (dBin fEq (dBin fIx (dVar 5) (dVar 7)) (dC (.int 1)))) (dVar 7)) (dNil))) (dCons (dCall fTuple (dCons (dLc false [7] (dRng1 (dCons (dVar 1) (dNil))) (.nm 7) (dB (dBin fEq (dBin fIx (dVar 5) (dVar 7)) (dC (.int 2)))) (dVar 7)) (dNil))) (dNil)))) (dNil)))))))))
def d__law_world : List T → M T := dDef false 3 8 b__law_world
theorem sc__law_world : FnScope ["tape", "many", "count", "deeds", "start", "marks", "fact", "k"] ["tape", "many", "count"] (defScope s__law_world) := ⟨rfl, rfl, rfl, by decide +kernel, rfl, by decide +kernel, by decide +kernel⟩
theorem bd__law_world (e : Env K mg base) : Binds K e.fd__law_world ["tape", "many", "count"] [] := e.F__law_world.bindsN fun _ _ _ _ _ _ us hl => match us, hl with | [_, _, _], _ => rfl
theorem ok__law_world (e : Env K mg base) : FnOk P w K mg base CX0 3 e.a__law_world e.fd__law_world ["tape", "many", "count"] (spD K mg 3 d__law_world) := by
  have nd := sc__law_world.nd
  refine FunD.okC e.F__law_world sc__law_world (fun vs H Q E h => h.1) (fun A outer s H vs Q E hr h => ⟨tS K mg E b__law_world, PSs.nox ?_, def_read h⟩)
  exact pdss_cons (pds_set 3 nd (pd_callTy b_tuple call_tuple_of rfl e.n_tuple bt_tuple (pda_cons (pd_lc false [("k", 7)] rfl nd (pid_rng1 rfl e.n_range (pda_cons (pv' 2) (pda_nil))) (by kernel_rfl) (fun _ _ _ _ _ => pgd_name 7 nd) (fun _ _ _ _ _ => ptd_nil) (fun _ _ _ _ _ => pd_call (ok__law_deed e) (hr.mono (by decide)) rfl e.g__law_deed e.F__law_deed.kp (bd__law_deed e) pass0 (pda_cons (pv' 0) (pda_cons (pv' 1) (pda_nil))))) (pda_nil)))) (pdss_cons (pds_set 4 nd (pd_callTy b_tuple call_tuple_of rfl e.n_tuple bt_tuple (pda_cons (pd_lc false [("k", 7)] rfl nd (pid_rng1 rfl e.n_range (pda_cons (pv' 1) (pda_nil))) (by kernel_rfl) (fun _ _ _ _ _ => pgd_name 7 nd) (fun _ _ _ _ _ => ptd_one (pt_cmp' (op_eqD (hu64 hr)) o2_eq (pd_call (ok__law_take e) (hr.mono (by decide)) rfl e.g__law_take e.F__law_take.kp (bd__law_take e) pass0 (pda_cons (pv' 0) (pda_cons (pd_int) (pda_nil)))) (pd_int))) (fun _ _ _ _ _ => pv' 7)) (pda_nil)))) (pdss_cons (pds_set 5 nd (pd_lc false [("fact", 6)] rfl nd (pid_rng1 rfl e.n_range (pda_cons (pv' 1) (pda_nil))) (by kernel_rfl) (fun _ _ _ _ _ => pgd_name 6 nd) (fun _ _ _ _ _ => ptd_nil) (fun _ _ _ _ _ => pd_call (ok__law_take e) (hr.mono (by decide)) rfl e.g__law_take e.F__law_take.kp (bd__law_take e) pass0 (pda_cons (pv' 0) (pda_cons (pd_int) (pda_nil)))))) (pdss_one (pds_ret (pd_tup (pda_cons (pv' 1) (pda_cons (pv' 3) (pda_cons (pv' 4) (pda_cons (pd_tup (pda_cons (pd_callTy b_tuple call_tuple_of rfl e.n_tuple bt_tuple (pda_cons (pd_lc false [("k", 7)] rfl nd (pid_rng1 rfl e.n_range (pda_cons (pv' 1) (pda_nil))) (by kernel_rfl) (fun _ _ _ _ _ => pgd_name 7 nd) (fun _ _ _ _ _ => ptd_one (pt_cmp' (op_eqD (hu64 hr)) o2_eq (pd_ix (hu65 hr) (pv' 5) (pv' 7)) (pd_int))) (fun _ _ _ _ _ => pv' 7)) (pda_nil))) (pda_cons (pd_callTy b_tuple call_tuple_of rfl e.n_tuple bt_tuple (pda_cons (pd_lc false [("k", 7)] rfl nd (pid_rng1 rfl e.n_range (pda_cons (pv' 1) (pda_nil))) (by kernel_rfl) (fun _ _ _ _ _ => pgd_name 7 nd) (fun _ _ _ _ _ => ptd_one (pt_cmp' (op_eqD (hu64 hr)) o2_eq (pd_ix (hu65 hr) (pv' 5) (pv' 7)) (pd_int))) (fun _ _ _ _ _ => pv' 7)) (pda_nil))) (pda_nil)))) (pda_nil))))))))))
/-! _law_subsets -/
def b__law_subsets : DS := dSeq (dAsg (.nm 1) (dLst (dCons (dTup (dNil)) (dNil)))) (dSeq (dFor (dSrc (dVar 0)) (.nm 2) (dAsg (.nm 1) (dBin fAdd (dVar 1) (dLc false [4] (dSrc (dVar 1)) (.nm 4) (dYes) (dBin fAdd (dVar 4) (dTup (dCons (dVar 2) (dNil)))))))) (dRet (dLc false [3, 4] (dSrc (dCall (fSorted false) (dCons (dLc false [4] (dSrc (dVar 1)) (.nm 4) (dYes) (dTup (dCons (dCall fLen (dCons (dVar 4) (dNil))) (dCons (dVar 4) (dNil))))) (dNil)))) (.tup [.nm 3, .nm 4]) (dYes) (dVar 4))))
def d__law_subsets : List T → M T := dDef false 1 5 b__law_subsets
theorem sc__law_subsets : FnScope ["things", "found", "thing", "size", "row"] ["things"] (defScope s__law_subsets) := ⟨rfl, rfl, rfl, by decide +kernel, rfl, by decide +kernel, by decide +kernel⟩
theorem bd__law_subsets (e : Env K mg base) : Binds K e.fd__law_subsets ["things"] [] := e.F__law_subsets.bindsN fun _ _ _ _ _ _ us hl => match us, hl with | [_], _ => rfl
theorem ok__law_subsets (e : Env K mg base) : FnOk P w K mg base CX0 1 e.a__law_subsets e.fd__law_subsets ["things"] (spD K mg 1 d__law_subsets) := by
  have nd := sc__law_subsets.nd
  refine FunD.okC e.F__law_subsets sc__law_subsets (fun vs H Q E h => h.1) (fun A outer s H vs Q E hr h => ⟨tS K mg E b__law_subsets, PSs.nox ?_, def_read h⟩)
  exact pdss_cons (pds_set 1 nd (pd_lst (pda_cons (pd_tup (pda_nil)) (pda_nil)))) (pdss_cons (pds_for PassesOwn.never rfl (pid_src (pv' 0)) (pgd_name 2 nd) (pdss_one (pds_set 1 nd (pd_add (pv' 1) (pd_lc false [("row", 4)] rfl nd (pid_src (pv' 1)) (by kernel_rfl) (fun _ _ _ _ _ => pgd_name 4 nd) (fun _ _ _ _ _ => ptd_nil) (fun _ _ _ _ _ => pd_add (pv' 4) (pd_tup (pda_cons (pv' 2) (pda_nil))))))))) (pdss_one (pds_ret (pd_lc false [("size", 3), ("row", 4)] rfl nd (pid_src (pd_callB b_sorted (cr_sortedA rfl (hu66 hr)) rfl e.n_sorted bt_sorted (pda_cons (pd_lc false [("row", 4)] rfl nd (pid_src (pv' 1)) (by kernel_rfl) (fun _ _ _ _ _ => pgd_name 4 nd) (fun _ _ _ _ _ => ptd_nil) (fun _ _ _ _ _ => pd_tup (pda_cons (pd_callB b_len cr_len rfl e.n_len bt_len (pda_cons (pv' 4) (pda_nil))) (pda_cons (pv' 4) (pda_nil))))) (pda_nil)))) (by kernel_rfl) (fun _ _ _ _ _ => pgd_tup rfl (pgds_cons (pgd_name 3 nd) (pgds_cons (pgd_name 4 nd) (pgds_nil)))) (fun _ _ _ _ _ => ptd_nil) (fun _ _ _ _ _ => pv' 4)))))
/-! after -/
def b_after : DS := dSeq (dAsg (.nm 2) (dLc false [3] (dSrc (dVar 1)) (.nm 3) (dB (dBin fNotIn (dVar 3) (dBin fIx (dVar 0) (dC (.int 3))))) (dVar 3))) (dRet (dCall fTuple (dCons (dCall (fSorted false) (dCons (dBin fAdd (dVar 2) (dLc false [3] (dSrc (dBin fIx (dVar 0) (dC (.int 2)))) (.nm 3) (dB (dBin fNotIn (dVar 3) (dVar 2))) (dVar 3))) (dNil))) (dNil))))
def d_after : List T → M T := dDef false 2 4 b_after
theorem sc_after : FnScope ["deed", "state", "kept", "fact"] ["deed", "state"] (defScope s_after) := ⟨rfl, rfl, rfl, by decide +kernel, rfl, by decide +kernel, by decide +kernel⟩
theorem bd_after (e : Env K mg base) : Binds K e.fd_after ["deed", "state"] [] := e.F_after.bindsN fun _ _ _ _ _ _ us hl => match us, hl with | [_, _], _ => rfl
theorem ok_after (e : Env K mg base) : FnOk P w K mg base CX0 1 e.a_after e.fd_after ["deed", "state"] (spD K mg 2 d_after) := by
  have nd := sc_after.nd
  refine FunD.okC e.F_after sc_after (fun vs H Q E h => h.1) (fun A outer s H vs Q E hr h => ⟨tS K mg E b_after, PSs.nox ?_, def_read h⟩)
  exact pdss_cons (pds_set 2 nd (pd_lc false [("fact", 3)] rfl nd (pid_src (pv' 1)) (by kernel_rfl) (fun _ _ _ _ _ => pgd_name 3 nd) (fun _ _ _ _ _ => ptd_one (pt_cmp' (or_notin (hu65 hr)) o2_notin (pv' 3) (pd_ix (hu65 hr) (pv' 0) (pd_int)))) (fun _ _ _ _ _ => pv' 3))) (pdss_one (pds_ret (pd_callTy b_tuple call_tuple_of rfl e.n_tuple bt_tuple (pda_cons (pd_callB b_sorted (cr_sortedA rfl (hu66 hr)) rfl e.n_sorted bt_sorted (pda_cons (pd_add (pv' 2) (pd_lc false [("fact", 3)] rfl nd (pid_src (pd_ix (hu65 hr) (pv' 0) (pd_int))) (by kernel_rfl) (fun _ _ _ _ _ => pgd_name 3 nd) (fun _ _ _ _ _ => ptd_one (pt_cmp' (or_notin (hu65 hr)) o2_notin (pv' 3) (pv' 2))) (fun _ _ _ _ _ => pv' 3))) (pda_nil))) (pda_nil)))))
/-! learnt -/
def b_learnt : DS := dSeq (dIfS (dNot (dTru (dVar 1))) (dRaise "InvalidPlan") (dNx)) (dSeq (dAsg (.nm 2) (dLc false [7] (dRng1 (dCons (dVar 0) (dNil))) (.nm 7) (dTru (dCall fAll (dCons (dLc false [8, 9] (dSrc (dVar 1)) (.tup [.nm 8, .nm 9]) (dYes) (dBin fIn (dVar 7) (dVar 8))) (dNil)))) (dVar 7))) (dSeq (dAsg (.nm 3) (dLc false [7] (dRng1 (dCons (dVar 0) (dNil))) (.nm 7) (dNot (dTru (dCall fAny (dCons (dLc false [8, 9] (dSrc (dVar 1)) (.tup [.nm 8, .nm 9]) (dYes) (dBin fIn (dVar 7) (dVar 8))) (dNil))))) (dVar 7))) (dSeq (dAsg (.nm 4) (dLc false [7] (dRng1 (dCons (dVar 0) (dNil))) (.nm 7) (dTru (dCall fAny (dCons (dLc false [8, 10] (dSrc (dVar 1)) (.tup [.nm 8, .nm 10]) (dYes) (dAndV (dBin fIn (dVar 7) (dVar 10)) (dBin fNotIn (dVar 7) (dVar 8)))) (dNil)))) (dVar 7))) (dSeq (dAsg (.nm 5) (dLc false [7] (dRng1 (dCons (dVar 0) (dNil))) (.nm 7) (dTru (dCall fAny (dCons (dLc false [8, 10] (dSrc (dVar 1)) (.tup [.nm 8, .nm 10]) (dYes) (dAndV (dBin fIn (dVar 7) (dVar 8)) (dBin fNotIn (dVar 7) (dVar 10)))) (dNil)))) (dVar 7))) (dSeq (dAsg (.nm 6) (dTup (dCons (dCall fTuple (dCons (dVar 2) (dNil))) (dCons (dCall fTuple (dCons (dVar 3) (dNil))) (dCons (dCall fTuple (dCons (dVar 4) (dNil))) (dCons (dCall fTuple (dCons (dVar 5) (dNil))) (dCons (dC (.int 0)) (dNil)))))))) (dSeq (dIfS (dOr (dTru (dCall fAny (dCons (dLc false [7] (dSrc (dVar 4)) (.nm 7) (dYes) (dBin fIn (dVar 7) (dVar 5))) (dNil)))) (dNot (dTru (dCall fAll (dCons (dLc false [8, 10] (dSrc (dVar 1)) (.tup [.nm 8, .nm 10]) (dYes) (dBin fEq (dCall (fun ts => if ts.length = 2 then d_after ts else bot) (dCons (dVar 6) (dCons (dVar 8) (dNil)))) (dCall fTuple (dCons (dVar 10) (dNil))))) (dNil)))))) (dRet (dC .non)) (dNx)) (dRet (dSl (dVar 6) (dPN) (dPS (dC (.int 4)))))))))))
def d_learnt : List T → M T := dDef false 2 11 b_learnt
theorem sc_learnt : FnScope ["many", "samples", "needs", "bars", "adds", "drops", "deed", "fact", "one", "_", "other"] ["many", "samples"] (defScope s_learnt) := ⟨rfl, rfl, rfl, by decide +kernel, rfl, by decide +kernel, by decide +kernel⟩
theorem bd_learnt (e : Env K mg base) : Binds K e.fd_learnt ["many", "samples"] [] := e.F_learnt.bindsN fun _ _ _ _ _ _ us hl => match us, hl with | [_, _], _ => rfl
theorem ok_learnt (e : Env K mg base) : FnOk P w K mg base (L2.CX P w) 2 e.a_learnt e.fd_learnt ["many", "samples"] (spD K mg 2 d_learnt) := by
  have nd := sc_learnt.nd
  refine FunD.okC e.F_learnt sc_learnt (fun vs H Q E h => h.1) (fun A outer s H vs Q E hr h => ⟨tS K mg E b_learnt, ?_, def_read h⟩)
  have tk := tk_def (CX := L2.CX P w) (P := P) (w := w) (K := K) (mg := mg) (base := base) (N := ["many", "samples", "needs", "bars", "adds", "drops", "deed", "fact", "one", "_", "other"]) (q := "learnt") (sc := defScope s_learnt) (f := e.a_learnt) (cd := e.fd_learnt.code) (A := A) (outer := outer) (s := s) (H := H) (E := E)
  have po := po_def (CX := L2.CX P w) (P := P) (w := w) (K := K) (mg := mg) (base := base) (N := ["many", "samples", "needs", "bars", "adds", "drops", "deed", "fact", "one", "_", "other"]) (q := "learnt") (sc := defScope s_learnt) (f := e.a_learnt) (cd := e.fd_learnt.code) (A := A) (outer := outer) (s := s) (H := H) (E := E)
  have hx := ps_def tk
  exact pdss_cons (pds_if (pt_not' (pt_tru (pv' 1))) (pdss_one (pds_raise rfl tk e.x_InvalidPlan rfl)) (pdss_nil)) (pdss_cons (pds_setLc false [("fact", 7)] 2 rfl nd (sw_true rfl rfl rfl rfl) (pid_rng1 rfl e.n_range (pda_cons (pv' 0) (pda_nil))) (by kernel_rfl) (fun _ _ _ _ _ => pgd_name 7 nd) (fun _ _ _ _ _ => ptd_one (pt_tru (pd_callB b_all (cr_all rfl) rfl e.n_all bt_all (pda_cons (pd_lc false [("one", 8), ("_", 9)] rfl nd (pid_src (pv' 1)) (by kernel_rfl) (fun _ _ _ _ _ => pgd_tup rfl (pgds_cons (pgd_name 8 nd) (pgds_cons (pgd_name 9 nd) (pgds_nil)))) (fun _ _ _ _ _ => ptd_nil) (fun _ _ _ _ _ => pd_cmp (or_in (hu65 hr)) o2_in (pv' 7) (pv' 8))) (pda_nil))))) (fun _ _ _ _ _ => pv' 7)) (pdss_cons (pds_setLc false [("fact", 7)] 3 rfl nd (sw_true rfl rfl rfl rfl) (pid_rng1 rfl e.n_range (pda_cons (pv' 0) (pda_nil))) (by kernel_rfl) (fun _ _ _ _ _ => pgd_name 7 nd) (fun _ _ _ _ _ => ptd_one (pt_not' (pt_tru (pd_callB b_any (cr_any rfl) rfl e.n_any bt_any (pda_cons (pd_lc false [("one", 8), ("_", 9)] rfl nd (pid_src (pv' 1)) (by kernel_rfl) (fun _ _ _ _ _ => pgd_tup rfl (pgds_cons (pgd_name 8 nd) (pgds_cons (pgd_name 9 nd) (pgds_nil)))) (fun _ _ _ _ _ => ptd_nil) (fun _ _ _ _ _ => pd_cmp (or_in (hu65 hr)) o2_in (pv' 7) (pv' 8))) (pda_nil)))))) (fun _ _ _ _ _ => pv' 7)) (pdss_cons (pds_setLc false [("fact", 7)] 4 rfl nd (sw_true rfl rfl rfl rfl) (pid_rng1 rfl e.n_range (pda_cons (pv' 0) (pda_nil))) (by kernel_rfl) (fun _ _ _ _ _ => pgd_name 7 nd) (fun _ _ _ _ _ => ptd_one (pt_tru (pd_callB b_any (cr_any rfl) rfl e.n_any bt_any (pda_cons (pd_lc false [("one", 8), ("other", 10)] rfl nd (pid_src (pv' 1)) (by kernel_rfl) (fun _ _ _ _ _ => pgd_tup rfl (pgds_cons (pgd_name 8 nd) (pgds_cons (pgd_name 10 nd) (pgds_nil)))) (fun _ _ _ _ _ => ptd_nil) (fun _ _ _ _ _ => pd_and (pd_cmp (or_in (hu65 hr)) o2_in (pv' 7) (pv' 10)) (pd_one (pd_cmp (or_notin (hu65 hr)) o2_notin (pv' 7) (pv' 8))))) (pda_nil))))) (fun _ _ _ _ _ => pv' 7)) (pdss_cons (pds_set 5 nd (pd_lc false [("fact", 7)] rfl nd (pid_rng1 rfl e.n_range (pda_cons (pv' 0) (pda_nil))) (by kernel_rfl) (fun _ _ _ _ _ => pgd_name 7 nd) (fun _ _ _ _ _ => ptd_one (pt_tru (pd_callB b_any (cr_any rfl) rfl e.n_any bt_any (pda_cons (pd_lc false [("one", 8), ("other", 10)] rfl nd (pid_src (pv' 1)) (by kernel_rfl) (fun _ _ _ _ _ => pgd_tup rfl (pgds_cons (pgd_name 8 nd) (pgds_cons (pgd_name 10 nd) (pgds_nil)))) (fun _ _ _ _ _ => ptd_nil) (fun _ _ _ _ _ => pd_and (pd_cmp (or_in (hu65 hr)) o2_in (pv' 7) (pv' 8)) (pd_one (pd_cmp (or_notin (hu65 hr)) o2_notin (pv' 7) (pv' 10))))) (pda_nil))))) (fun _ _ _ _ _ => pv' 7))) (pdss_cons (pds_set 6 nd (pd_tup (pda_cons (pd_callTy b_tuple call_tuple_of rfl e.n_tuple bt_tuple (pda_cons (pv' 2) (pda_nil))) (pda_cons (pd_callTy b_tuple call_tuple_of rfl e.n_tuple bt_tuple (pda_cons (pv' 3) (pda_nil))) (pda_cons (pd_callTy b_tuple call_tuple_of rfl e.n_tuple bt_tuple (pda_cons (pv' 4) (pda_nil))) (pda_cons (pd_callTy b_tuple call_tuple_of rfl e.n_tuple bt_tuple (pda_cons (pv' 5) (pda_nil))) (pda_cons (pd_int) (pda_nil)))))))) (pdss_cons (pds_if (pt_w (pw_or' (pt_tru (pd_callB b_any (cr_any rfl) rfl e.n_any bt_any (pda_cons (pd_lc false [("fact", 7)] rfl nd (pid_src (pv' 4)) (by kernel_rfl) (fun _ _ _ _ _ => pgd_name 7 nd) (fun _ _ _ _ _ => ptd_nil) (fun _ _ _ _ _ => pd_cmp (or_in (hu65 hr)) o2_in (pv' 7) (pv' 5))) (pda_nil)))) (pw_one_or (pt_not' (pt_tru (pd_callB b_all (cr_all rfl) rfl e.n_all bt_all (pda_cons (pd_lc false [("one", 8), ("other", 10)] rfl nd (pid_src (pv' 1)) (by kernel_rfl) (fun _ _ _ _ _ => pgd_tup rfl (pgds_cons (pgd_name 8 nd) (pgds_cons (pgd_name 10 nd) (pgds_nil)))) (fun _ _ _ _ _ => ptd_nil) (fun _ _ _ _ _ => pd_cmp (op_eqD (hu64 hr)) o2_eq (pd_call (ok_after e) (hr.mono (by decide)) rfl e.g_after e.F_after.kp (bd_after e) pass0 (pda_cons (pv' 6) (pda_cons (pv' 8) (pda_nil)))) (pd_callTy b_tuple call_tuple_of rfl e.n_tuple bt_tuple (pda_cons (pv' 10) (pda_nil))))) (pda_nil)))))))) (pdss_one (pds_ret (pd_non))) (pdss_nil)) (pdss_one (pds_ret (pd_slice (pv' 6) (pdo_none) (pdo_some (pd_int)))))))))))
/-! is_facts -/
def b_is_facts : DS := dRet (dAndV (dCall fAll (dCons (dLc false [2] (dSrc (dVar 0)) (.nm 2) (dYes) (dChn fLe fLt (dC (.int 0)) (dVar 2) (dVar 1))) (dNil))) (dCall fAll (dCons (dLc false [3, 4] (dZip (dCons (dSl (dVar 0) (dPN) (dPS (dUn fNeg (dC (.int 1))))) (dCons (dSl (dVar 0) (dPS (dC (.int 1))) (dPN)) (dNil)))) (.tup [.nm 3, .nm 4]) (dYes) (dBin fLt (dVar 3) (dVar 4))) (dNil))))
def d_is_facts : List T → M T := dDef false 2 5 b_is_facts
theorem sc_is_facts : FnScope ["row", "many", "fact", "a", "b"] ["row", "many"] (defScope s_is_facts) := ⟨rfl, rfl, rfl, by decide +kernel, rfl, by decide +kernel, by decide +kernel⟩
theorem bd_is_facts (e : Env K mg base) : Binds K e.fd_is_facts ["row", "many"] [] := e.F_is_facts.bindsN fun _ _ _ _ _ _ us hl => match us, hl with | [_, _], _ => rfl
theorem ok_is_facts (e : Env K mg base) : FnOk P w K mg base CX0 1 e.a_is_facts e.fd_is_facts ["row", "many"] (spD K mg 2 d_is_facts) := by
  have nd := sc_is_facts.nd
  refine FunD.okC e.F_is_facts sc_is_facts (fun vs H Q E h => h.1) (fun A outer s H vs Q E hr h => ⟨tS K mg E b_is_facts, PSs.nox ?_, def_read h⟩)
  exact pdss_one (pds_ret (pd_and (pd_callB b_all (cr_all rfl) rfl e.n_all bt_all (pda_cons (pd_lc false [("fact", 2)] rfl nd (pid_src (pv' 0)) (by kernel_rfl) (fun _ _ _ _ _ => pgd_name 2 nd) (fun _ _ _ _ _ => ptd_nil) (fun _ _ _ _ _ => pd_chn op_le op_lt o2_le o2_lt (pd_int) (pv' 2) (pv' 1))) (pda_nil))) (pd_one (pd_callB b_all (cr_all rfl) rfl e.n_all bt_all (pda_cons (pd_lc false [("a", 3), ("b", 4)] rfl nd (pid_zip rfl e.n_zip (pda_cons (pd_slice (pv' 0) (pdo_none) (pdo_some (pd_neg (pd_int)))) (pda_cons (pd_slice (pv' 0) (pdo_some (pd_int)) (pdo_none)) (pda_nil)))) (by kernel_rfl) (fun _ _ _ _ _ => pgd_tup rfl (pgds_cons (pgd_name 3 nd) (pgds_cons (pgd_name 4 nd) (pgds_nil)))) (fun _ _ _ _ _ => ptd_nil) (fun _ _ _ _ _ => pd_cmp op_lt o2_lt (pv' 3) (pv' 4))) (pda_nil))))))
/-! check_deed -/
def b_check_deed : DS := dSeq (dAsg (.tup [.nm 2, .nm 3, .nm 4, .nm 5, .nm 6]) (dVar 0)) (dSeq (dIfS (dNot (dTru (dCall fAll (dCons (dLc false [7] (dSrc (dTup (dCons (dVar 2) (dCons (dVar 3) (dCons (dVar 4) (dCons (dVar 5) (dNil))))))) (.nm 7) (dYes) (dCall (fun ts => if ts.length = 2 then d_is_facts ts else bot) (dCons (dVar 7) (dCons (dVar 1) (dNil))))) (dNil))))) (dRaise "InvalidWorld") (dNx)) (dSeq (dIfS (dOr (dTru (dCall fAny (dCons (dLc false [8] (dSrc (dVar 2)) (.nm 8) (dYes) (dBin fIn (dVar 8) (dVar 3))) (dNil)))) (dTru (dCall fAny (dCons (dLc false [8] (dSrc (dVar 4)) (.nm 8) (dYes) (dBin fIn (dVar 8) (dVar 5))) (dNil))))) (dRaise "InvalidWorld") (dNx)) (dIfS (dNot (dB (dChn fLe fLe (dC (.int 0)) (dVar 6) (dC (.int 99))))) (dRaise "InvalidWorld") (dNx))))
def d_check_deed : List T → M T := dDef false 2 9 b_check_deed
theorem sc_check_deed : FnScope ["deed", "many", "needs", "bars", "adds", "drops", "cost", "row", "fact"] ["deed", "many"] (defScope s_check_deed) := ⟨rfl, rfl, rfl, by decide +kernel, rfl, by decide +kernel, by decide +kernel⟩
theorem bd_check_deed (e : Env K mg base) : Binds K e.fd_check_deed ["deed", "many"] [] := e.F_check_deed.bindsN fun _ _ _ _ _ _ us hl => match us, hl with | [_, _], _ => rfl
theorem ok_check_deed (e : Env K mg base) : FnOk P w K mg base (L2.CX P w) 2 e.a_check_deed e.fd_check_deed ["deed", "many"] (spD K mg 2 d_check_deed) := by
  have nd := sc_check_deed.nd
  refine FunD.okC e.F_check_deed sc_check_deed (fun vs H Q E h => h.1) (fun A outer s H vs Q E hr h => ⟨tS K mg E b_check_deed, ?_, def_read h⟩)
  have tk := tk_def (CX := L2.CX P w) (P := P) (w := w) (K := K) (mg := mg) (base := base) (N := ["deed", "many", "needs", "bars", "adds", "drops", "cost", "row", "fact"]) (q := "check_deed") (sc := defScope s_check_deed) (f := e.a_check_deed) (cd := e.fd_check_deed.code) (A := A) (outer := outer) (s := s) (H := H) (E := E)
  have po := po_def (CX := L2.CX P w) (P := P) (w := w) (K := K) (mg := mg) (base := base) (N := ["deed", "many", "needs", "bars", "adds", "drops", "cost", "row", "fact"]) (q := "check_deed") (sc := defScope s_check_deed) (f := e.a_check_deed) (cd := e.fd_check_deed.code) (A := A) (outer := outer) (s := s) (H := H) (E := E)
  have hx := ps_def tk
  exact pdss_cons (pds_asg (pv' 0) (pgd_tup rfl (pgds_cons (pgd_name 2 nd) (pgds_cons (pgd_name 3 nd) (pgds_cons (pgd_name 4 nd) (pgds_cons (pgd_name 5 nd) (pgds_cons (pgd_name 6 nd) (pgds_nil)))))))) (pdss_cons (pds_if (pt_not' (pt_tru (pd_callB b_all (cr_all rfl) rfl e.n_all bt_all (pda_cons (pd_lc false [("row", 7)] rfl nd (pid_src (pd_tup (pda_cons (pv' 2) (pda_cons (pv' 3) (pda_cons (pv' 4) (pda_cons (pv' 5) (pda_nil))))))) (by kernel_rfl) (fun _ _ _ _ _ => pgd_name 7 nd) (fun _ _ _ _ _ => ptd_nil) (fun _ _ _ _ _ => pd_call (ok_is_facts e) (hr.mono (by decide)) rfl e.g_is_facts e.F_is_facts.kp (bd_is_facts e) pass0 (pda_cons (pv' 7) (pda_cons (pv' 1) (pda_nil))))) (pda_nil))))) (pdss_one (pds_raise rfl tk e.x_InvalidWorld rfl)) (pdss_nil)) (pdss_cons (pds_if (pt_w (pw_or' (pt_tru (pd_callB b_any (cr_any rfl) rfl e.n_any bt_any (pda_cons (pd_lc false [("fact", 8)] rfl nd (pid_src (pv' 2)) (by kernel_rfl) (fun _ _ _ _ _ => pgd_name 8 nd) (fun _ _ _ _ _ => ptd_nil) (fun _ _ _ _ _ => pd_cmp (or_in (hu65 hr)) o2_in (pv' 8) (pv' 3))) (pda_nil)))) (pw_one_or (pt_tru (pd_callB b_any (cr_any rfl) rfl e.n_any bt_any (pda_cons (pd_lc false [("fact", 8)] rfl nd (pid_src (pv' 4)) (by kernel_rfl) (fun _ _ _ _ _ => pgd_name 8 nd) (fun _ _ _ _ _ => ptd_nil) (fun _ _ _ _ _ => pd_cmp (or_in (hu65 hr)) o2_in (pv' 8) (pv' 5))) (pda_nil))))))) (pdss_one (pds_raise rfl tk e.x_InvalidWorld rfl)) (pdss_nil)) (pdss_one (pds_if (pt_not' (pt_chn op_le op_le o2_le o2_le (pd_int) (pv' 6) (pd_int))) (pdss_one (pds_raise rfl tk e.x_InvalidWorld rfl)) (pdss_nil)))))
/-! check_world -/
def b_check_world : DS := dSeq (dAsg (.tup [.nm 1, .nm 2, .nm 3, .nm 4]) (dVar 0)) (dSeq (dIfS (dOr (dNot (dB (dChn fLe fLe (dC (.int 1)) (dVar 1) (dC (.int 12))))) (dB (dBin fGt (dCall fLen (dCons (dVar 2) (dNil))) (dC (.int 24))))) (dRaise "InvalidWorld") (dNx)) (dSeq (dFor (dSrc (dVar 2)) (.nm 5) (dExpr (dCall (fun ts => if ts.length = 2 then d_check_deed ts else bot) (dCons (dVar 5) (dCons (dVar 1) (dNil)))))) (dSeq (dAsg (.tup [.nm 6, .nm 7]) (dVar 4)) (dSeq (dIfS (dOr (dNot (dTru (dCall (fun ts => if ts.length = 2 then d_is_facts ts else bot) (dCons (dVar 3) (dCons (dVar 1) (dNil)))))) (dOr (dNot (dTru (dCall (fun ts => if ts.length = 2 then d_is_facts ts else bot) (dCons (dVar 6) (dCons (dVar 1) (dNil)))))) (dNot (dTru (dCall (fun ts => if ts.length = 2 then d_is_facts ts else bot) (dCons (dVar 7) (dCons (dVar 1) (dNil)))))))) (dRaise "InvalidWorld") (dNx)) (dIfS (dTru (dCall fAny (dCons (dLc false [8] (dSrc (dVar 6)) (.nm 8) (dYes) (dBin fIn (dVar 8) (dVar 7))) (dNil)))) (dRaise "InvalidWorld") (dNx))))))
def d_check_world : List T → M T := dDef false 1 9 b_check_world
theorem sc_check_world : FnScope ["world", "many", "deeds", "start", "goal", "deed", "needs", "bars", "fact"] ["world"] (defScope s_check_world) := ⟨rfl, rfl, rfl, by decide +kernel, rfl, by decide +kernel, by decide +kernel⟩
theorem bd_check_world (e : Env K mg base) : Binds K e.fd_check_world ["world"] [] := e.F_check_world.bindsN fun _ _ _ _ _ _ us hl => match us, hl with | [_], _ => rfl
theorem ok_check_world (e : Env K mg base) : FnOk P w K mg base (L2.CX P w) 3 e.a_check_world e.fd_check_world ["world"] (spD K mg 1 d_check_world) := by
  have nd := sc_check_world.nd
  refine FunD.okC e.F_check_world sc_check_world (fun vs H Q E h => h.1) (fun A outer s H vs Q E hr h => ⟨tS K mg E b_check_world, ?_, def_read h⟩)
  have tk := tk_def (CX := L2.CX P w) (P := P) (w := w) (K := K) (mg := mg) (base := base) (N := ["world", "many", "deeds", "start", "goal", "deed", "needs", "bars", "fact"]) (q := "check_world") (sc := defScope s_check_world) (f := e.a_check_world) (cd := e.fd_check_world.code) (A := A) (outer := outer) (s := s) (H := H) (E := E)
  have po := po_def (CX := L2.CX P w) (P := P) (w := w) (K := K) (mg := mg) (base := base) (N := ["world", "many", "deeds", "start", "goal", "deed", "needs", "bars", "fact"]) (q := "check_world") (sc := defScope s_check_world) (f := e.a_check_world) (cd := e.fd_check_world.code) (A := A) (outer := outer) (s := s) (H := H) (E := E)
  have hx := ps_def tk
  exact pdss_cons (pds_asg (pv' 0) (pgd_tup rfl (pgds_cons (pgd_name 1 nd) (pgds_cons (pgd_name 2 nd) (pgds_cons (pgd_name 3 nd) (pgds_cons (pgd_name 4 nd) (pgds_nil))))))) (pdss_cons (pds_if (pt_w (pw_or' (pt_not' (pt_chn op_le op_le o2_le o2_le (pd_int) (pv' 1) (pd_glob rfl e.c_MOST_FACTS))) (pw_one_or (pt_cmp' op_gt o2_gt (pd_callB b_len cr_len rfl e.n_len bt_len (pda_cons (pv' 2) (pda_nil))) (pd_glob rfl e.c_MOST_DEEDS))))) (pdss_one (pds_raise rfl tk e.x_InvalidWorld rfl)) (pdss_nil)) (pdss_cons (pds_for po rfl (pid_src (pv' 2)) (pgd_name 5 nd) (pdss_one (pds_expr (pd_call (ok_check_deed e) (hr.mono (by decide)) rfl e.g_check_deed e.F_check_deed.kp (bd_check_deed e) hx (pda_cons (pv' 5) (pda_cons (pv' 1) (pda_nil))))))) (pdss_cons (pds_asg (pv' 4) (pgd_tup rfl (pgds_cons (pgd_name 6 nd) (pgds_cons (pgd_name 7 nd) (pgds_nil))))) (pdss_cons (pds_if (pt_w (pw_or' (pt_not' (pt_tru (pd_call (ok_is_facts e) (hr.mono (by decide)) rfl e.g_is_facts e.F_is_facts.kp (bd_is_facts e) pass0 (pda_cons (pv' 3) (pda_cons (pv' 1) (pda_nil)))))) (pw_or' (pt_not' (pt_tru (pd_call (ok_is_facts e) (hr.mono (by decide)) rfl e.g_is_facts e.F_is_facts.kp (bd_is_facts e) pass0 (pda_cons (pv' 6) (pda_cons (pv' 1) (pda_nil)))))) (pw_one_or (pt_not' (pt_tru (pd_call (ok_is_facts e) (hr.mono (by decide)) rfl e.g_is_facts e.F_is_facts.kp (bd_is_facts e) pass0 (pda_cons (pv' 7) (pda_cons (pv' 1) (pda_nil)))))))))) (pdss_one (pds_raise rfl tk e.x_InvalidWorld rfl)) (pdss_nil)) (pdss_one (pds_if (pt_tru (pd_callB b_any (cr_any rfl) rfl e.n_any bt_any (pda_cons (pd_lc false [("fact", 8)] rfl nd (pid_src (pv' 6)) (by kernel_rfl) (fun _ _ _ _ _ => pgd_name 8 nd) (fun _ _ _ _ _ => ptd_nil) (fun _ _ _ _ _ => pd_cmp (or_in (hu65 hr)) o2_in (pv' 8) (pv' 7))) (pda_nil)))) (pdss_one (pds_raise rfl tk e.x_InvalidWorld rfl)) (pdss_nil)))))))
/-! holds -/
def b_holds : DS := dSeq (dAsg (.tup [.nm 2, .nm 3]) (dVar 0)) (dRet (dAndV (dCall fAll (dCons (dLc false [4] (dSrc (dVar 2)) (.nm 4) (dYes) (dBin fIn (dVar 4) (dVar 1))) (dNil))) (dNotV (dCall fAny (dCons (dLc false [4] (dSrc (dVar 3)) (.nm 4) (dYes) (dBin fIn (dVar 4) (dVar 1))) (dNil))))))
def d_holds : List T → M T := dDef false 2 5 b_holds
theorem sc_holds : FnScope ["condition", "state", "needs", "bars", "fact"] ["condition", "state"] (defScope s_holds) := ⟨rfl, rfl, rfl, by decide +kernel, rfl, by decide +kernel, by decide +kernel⟩
theorem bd_holds (e : Env K mg base) : Binds K e.fd_holds ["condition", "state"] [] := e.F_holds.bindsN fun _ _ _ _ _ _ us hl => match us, hl with | [_, _], _ => rfl
theorem ok_holds (e : Env K mg base) : FnOk P w K mg base CX0 1 e.a_holds e.fd_holds ["condition", "state"] (spD K mg 2 d_holds) := by
  have nd := sc_holds.nd
  refine FunD.okC e.F_holds sc_holds (fun vs H Q E h => h.1) (fun A outer s H vs Q E hr h => ⟨tS K mg E b_holds, PSs.nox ?_, def_read h⟩)
  exact pdss_cons (pds_asg (pv' 0) (pgd_tup rfl (pgds_cons (pgd_name 2 nd) (pgds_cons (pgd_name 3 nd) (pgds_nil))))) (pdss_one (pds_ret (pd_and (pd_callB b_all (cr_all rfl) rfl e.n_all bt_all (pda_cons (pd_lc false [("fact", 4)] rfl nd (pid_src (pv' 2)) (by kernel_rfl) (fun _ _ _ _ _ => pgd_name 4 nd) (fun _ _ _ _ _ => ptd_nil) (fun _ _ _ _ _ => pd_cmp (or_in (hu65 hr)) o2_in (pv' 4) (pv' 1))) (pda_nil))) (pd_one (pd_not (pd_callB b_any (cr_any rfl) rfl e.n_any bt_any (pda_cons (pd_lc false [("fact", 4)] rfl nd (pid_src (pv' 3)) (by kernel_rfl) (fun _ _ _ _ _ => pgd_name 4 nd) (fun _ _ _ _ _ => ptd_nil) (fun _ _ _ _ _ => pd_cmp (or_in (hu65 hr)) o2_in (pv' 4) (pv' 1))) (pda_nil))))))))
/-! can -/
def b_can : DS := dRet (dCall (fun ts => if ts.length = 2 then d_holds ts else bot) (dCons (dSl (dVar 0) (dPN) (dPS (dC (.int 2)))) (dCons (dVar 1) (dNil))))
def d_can : List T → M T := dDef false 2 2 b_can
theorem sc_can : FnScope ["deed", "state"] ["deed", "state"] (defScope s_can) := ⟨rfl, rfl, rfl, by decide +kernel, rfl, by decide +kernel, by decide +kernel⟩
theorem bd_can (e : Env K mg base) : Binds K e.fd_can ["deed", "state"] [] := e.F_can.bindsN fun _ _ _ _ _ _ us hl => match us, hl with | [_, _], _ => rfl
theorem ok_can (e : Env K mg base) : FnOk P w K mg base CX0 2 e.a_can e.fd_can ["deed", "state"] (spD K mg 2 d_can) := by
  have nd := sc_can.nd
  refine FunD.okC e.F_can sc_can (fun vs H Q E h => h.1) (fun A outer s H vs Q E hr h => ⟨tS K mg E b_can, PSs.nox ?_, def_read h⟩)
  exact pdss_one (pds_ret (pd_call (ok_holds e) (hr.mono (by decide)) rfl e.g_holds e.F_holds.kp (bd_holds e) pass0 (pda_cons (pd_slice (pv' 0) (pdo_none) (pdo_some (pd_int))) (pda_cons (pv' 1) (pda_nil)))))
/-! next_states -/
def b_next_states : DS := dRet (dLc false [2, 3] (dEnum (dCons (dBin fIx (dVar 0) (dC (.int 1))) (dNil))) (.tup [.nm 2, .nm 3]) (dTru (dCall (fun ts => if ts.length = 2 then d_can ts else bot) (dCons (dVar 3) (dCons (dVar 1) (dNil))))) (dTup (dCons (dVar 2) (dCons (dCall (fun ts => if ts.length = 2 then d_after ts else bot) (dCons (dVar 3) (dCons (dVar 1) (dNil)))) (dNil)))))
def d_next_states : List T → M T := dDef false 2 4 b_next_states
theorem sc_next_states : FnScope ["world", "state", "k", "deed"] ["world", "state"] (defScope s_next_states) := ⟨rfl, rfl, rfl, by decide +kernel, rfl, by decide +kernel, by decide +kernel⟩
theorem bd_next_states (e : Env K mg base) : Binds K e.fd_next_states ["world", "state"] [] := e.F_next_states.bindsN fun _ _ _ _ _ _ us hl => match us, hl with | [_, _], _ => rfl
theorem ok_next_states (e : Env K mg base) : FnOk P w K mg base CX0 3 e.a_next_states e.fd_next_states ["world", "state"] (spD K mg 2 d_next_states) := by
  have nd := sc_next_states.nd
  refine FunD.okC e.F_next_states sc_next_states (fun vs H Q E h => h.1) (fun A outer s H vs Q E hr h => ⟨tS K mg E b_next_states, PSs.nox ?_, def_read h⟩)
  exact pdss_one (pds_ret (pd_lc false [("k", 2), ("deed", 3)] rfl nd (pid_enum rfl e.n_enumerate (pda_cons (pd_ix (hu65 hr) (pv' 0) (pd_int)) (pda_nil))) (by kernel_rfl) (fun _ _ _ _ _ => pgd_tup rfl (pgds_cons (pgd_name 2 nd) (pgds_cons (pgd_name 3 nd) (pgds_nil)))) (fun _ _ _ _ _ => ptd_one (pt_tru (pd_call (ok_can e) (hr.mono (by decide)) rfl e.g_can e.F_can.kp (bd_can e) pass0 (pda_cons (pv' 3) (pda_cons (pv' 1) (pda_nil)))))) (fun _ _ _ _ _ => pd_tup (pda_cons (pv' 2) (pda_cons (pd_call (ok_after e) (hr.mono (by decide)) rfl e.g_after e.F_after.kp (bd_after e) pass0 (pda_cons (pv' 3) (pda_cons (pv' 1) (pda_nil)))) (pda_nil))))))
/-! cheapest -/
def b_cheapest : DS := dSeq (dExpr (dCall (fun ts => if ts.length = 1 then d_check_world ts else bot) (dCons (dVar 0) (dNil)))) (dSeq (dAsg (.nm 1) (dCall fTuple (dCons (dBin fIx (dVar 0) (dC (.int 2))) (dNil)))) (dSeq (dAsg (.tup [.nm 2, .nm 3, .nm 4]) (dTup (dCons (dDisp true [(dVar 1, dTup (dCons (dC (.int 0)) (dCons (dC (.int 0)) (dCons (dTup (dNil)) (dNil)))))]) (dCons (dNewT) (dCons (dLstO (dCons (dVar 1) (dNil))) (dNil)))))) (dSeq (dWhile fuel (dTru (dVar 4)) (dSeq (dAsg (.nm 5) (dMinK (dVar 4) (dTup (dCons (dBin fIx (dVar 2) (dVar 12)) (dCons (dVar 12) (dNil)))))) (dSeq (dExpr (dMeth .list fRemove (dVar 4) (dCons (dVar 5) (dNil)))) (dSeq (dSet (dC (.bl true)) (dVar 3) (dVar 5)) (dSeq (dAsg (.tup [.nm 6, .nm 7, .nm 8]) (dBin fIx (dVar 2) (dVar 5))) (dSeq (dIfS (dTru (dCall (fun ts => if ts.length = 2 then d_holds ts else bot) (dCons (dBin fIx (dVar 0) (dC (.int 3))) (dCons (dVar 5) (dNil))))) (dRet (dTup (dCons (dVar 6) (dCons (dVar 8) (dNil))))) (dNx)) (dFor (dSrc (dCall (fun ts => if ts.length = 2 then d_next_states ts else bot) (dCons (dVar 0) (dCons (dVar 5) (dNil))))) (.tup [.nm 9, .nm 10]) (dSeq (dAsg (.nm 11) (dTup (dCons (dBin fAdd (dVar 6) (dBin fIx (dBin fIx (dBin fIx (dVar 0) (dC (.int 1))) (dVar 9)) (dC (.int 4)))) (dCons (dBin fAdd (dVar 7) (dC (.int 1))) (dCons (dBin fAdd (dVar 8) (dTup (dCons (dVar 9) (dNil)))) (dNil)))))) (dIfS (dAnd (dB (dBin fNotIn (dVar 10) (dVar 3))) (dOr (dB (dBin fNotIn (dVar 10) (dVar 2))) (dB (dBin fLtD (dVar 11) (dBin fIx (dVar 2) (dVar 10)))))) (dSeq (dIfS (dB (dBin fNotIn (dVar 10) (dVar 2))) (dExpr (dMeth .list fAppend (dVar 4) (dCons (dVar 10) (dNil)))) (dNx)) (dSet (dVar 11) (dVar 2) (dVar 10))) (dNx)))))))))) (dRet (dC .non)))))
def d_cheapest : List T → M T := dDef false 1 12 b_cheapest
theorem sc_cheapest : FnScope ["world", "start", "best", "done", "waiting", "state", "cost", "steps", "plan", "k", "other", "told"] ["world"] (defScope s_cheapest) := ⟨rfl, rfl, rfl, by decide +kernel, rfl, by decide +kernel, by decide +kernel⟩
theorem bd_cheapest (e : Env K mg base) : Binds K e.fd_cheapest ["world"] [] := e.F_cheapest.bindsN fun _ _ _ _ _ _ us hl => match us, hl with | [_], _ => rfl
theorem ok_cheapest (e : Env K mg base) : FnOk P w K mg base (L2.CX P w) 4 e.a_cheapest e.fd_cheapest ["world"] (spD K mg 1 d_cheapest) := by
  have nd := sc_cheapest.nd
  refine FunD.okC e.F_cheapest sc_cheapest (fun vs H Q E h => h.1) (fun A outer s H vs Q E hr h => ⟨tS K mg E b_cheapest, ?_, def_read h⟩)
  have tk := tk_def (CX := L2.CX P w) (P := P) (w := w) (K := K) (mg := mg) (base := base) (N := ["world", "start", "best", "done", "waiting", "state", "cost", "steps", "plan", "k", "other", "told"]) (q := "cheapest") (sc := defScope s_cheapest) (f := e.a_cheapest) (cd := e.fd_cheapest.code) (A := A) (outer := outer) (s := s) (H := H) (E := E)
  have po := po_def (CX := L2.CX P w) (P := P) (w := w) (K := K) (mg := mg) (base := base) (N := ["world", "start", "best", "done", "waiting", "state", "cost", "steps", "plan", "k", "other", "told"]) (q := "cheapest") (sc := defScope s_cheapest) (f := e.a_cheapest) (cd := e.fd_cheapest.code) (A := A) (outer := outer) (s := s) (H := H) (E := E)
  have hx := ps_def tk
  exact pdss_cons (pds_expr (pd_call (ok_check_world e) (hr.mono (by decide)) rfl e.g_check_world e.F_check_world.kp (bd_check_world e) hx (pda_cons (pv' 0) (pda_nil)))) (pdss_cons (pds_set 1 nd (pd_callTy b_tuple call_tuple_of rfl e.n_tuple bt_tuple (pda_cons (pd_ix (hu65 hr) (pv' 0) (pd_int)) (pda_nil)))) (pdss_cons (pds_asg (pd_tup (pda_cons (pd_dispT (hu65 hr) (ppd_cons (pv' 1) (pd_tup (pda_cons (pd_int) (pda_cons (pd_int) (pda_cons (pd_tup (pda_nil)) (pda_nil))))) (ppd_nil))) (pda_cons (pd_newT) (pda_cons (pd_lstO (pda_cons (pv' 1) (pda_nil))) (pda_nil))))) (pgd_tup rfl (pgds_cons (pgd_name 2 nd) (pgds_cons (pgd_name 3 nd) (pgds_cons (pgd_name 4 nd) (pgds_nil)))))) (pdss_cons (pds_while fuel po (pt_tru (pv' 4)) (pdss_cons (pds_set 5 nd (pd_minK (k := 0) (a := "told") rfl rfl e.n_min (pv' 4) e.kt_cheapest rfl (hr.mono (by decide)) (lam1_by (by kernel_rfl)) rfl (fun _ _ _ _ _ _ => rfl) (fun _ _ _ _ _ _ hr => pd_tup (pda_cons (pd_ix (hu65 hr) (pv' 2) (pv' 12)) (pda_cons (pv' 12) (pda_nil)))))) (pdss_cons (pds_expr (pd_meth (ty := .list) m_remD PySem.F.plainAttrs_list PySem.F.slot_list_remove PySem.F.type_list_remove (mt_remD (hu65 hr)) (pv' 4) (pda_cons (pv' 5) (pda_nil)))) (pdss_cons (pds_sub (hu65 hr) (pd_bl) (pv' 3) (pv' 5)) (pdss_cons (pds_asg (pd_ix (hu65 hr) (pv' 2) (pv' 5)) (pgd_tup rfl (pgds_cons (pgd_name 6 nd) (pgds_cons (pgd_name 7 nd) (pgds_cons (pgd_name 8 nd) (pgds_nil)))))) (pdss_cons (pds_if (pt_tru (pd_call (ok_holds e) (hr.mono (by decide)) rfl e.g_holds e.F_holds.kp (bd_holds e) pass0 (pda_cons (pd_ix (hu65 hr) (pv' 0) (pd_int)) (pda_cons (pv' 5) (pda_nil))))) (pdss_one (pds_ret (pd_tup (pda_cons (pv' 6) (pda_cons (pv' 8) (pda_nil)))))) (pdss_nil)) (pdss_one (pds_for po rfl (pid_src (pd_call (ok_next_states e) (hr.mono (by decide)) rfl e.g_next_states e.F_next_states.kp (bd_next_states e) pass0 (pda_cons (pv' 0) (pda_cons (pv' 5) (pda_nil))))) (pgd_tup rfl (pgds_cons (pgd_name 9 nd) (pgds_cons (pgd_name 10 nd) (pgds_nil)))) (pdss_cons (pds_set 11 nd (pd_tup (pda_cons (pd_add (pv' 6) (pd_ix (hu65 hr) (pd_ix (hu65 hr) (pd_ix (hu65 hr) (pv' 0) (pd_int)) (pv' 9)) (pd_int))) (pda_cons (pd_add (pv' 7) (pd_int)) (pda_cons (pd_add (pv' 8) (pd_tup (pda_cons (pv' 9) (pda_nil)))) (pda_nil)))))) (pdss_one (pds_if (pt_w (pw_and' (pt_cmp' (or_notin (hu65 hr)) o2_notin (pv' 10) (pv' 3)) (pw_one_and (pt_w (pw_or' (pt_cmp' (or_notin (hu65 hr)) o2_notin (pv' 10) (pv' 2)) (pw_one_or (pt_cmp' (op_ltD (hu64 hr)) o2_ltD (pv' 11) (pd_ix (hu65 hr) (pv' 2) (pv' 10))))))))) (pdss_cons (pds_if (pt_cmp' (or_notin (hu65 hr)) o2_notin (pv' 10) (pv' 2)) (pdss_one (pds_expr (pd_meth (ty := .list) m_append PySem.F.plainAttrs_list PySem.F.slot_list_append PySem.F.type_list_append mt_append (pv' 4) (pda_cons (pv' 10) (pda_nil))))) (pdss_nil)) (pdss_one (pds_sub (hu65 hr) (pv' 11) (pv' 2) (pv' 10)))) (pdss_nil)))))))))))) (pdss_one (pds_ret (pd_non))))))
/-! missing_facts -/
def b_missing_facts : DS := dSeq (dExpr (dCall (fun ts => if ts.length = 1 then d_check_world ts else bot) (dCons (dVar 0) (dNil)))) (dSeq (dAsg (.tup [.nm 1, .nm 2, .nm 3, .nm 4]) (dVar 0)) (dSeq (dAsg (.nm 5) (dLst (dCons (dTup (dNil)) (dNil)))) (dSeq (dFor (dRng1 (dCons (dVar 1) (dNil))) (.nm 6) (dIfS (dB (dBin fNotIn (dVar 6) (dVar 3))) (dAsg (.nm 5) (dBin fAdd (dVar 5) (dLc false [7] (dSrc (dVar 5)) (.nm 7) (dYes) (dBin fAdd (dVar 7) (dTup (dCons (dVar 6) (dNil))))))) (dNx))) (dSeq (dFor (dSrc (dSortK false (dVar 5) (dTup (dCons (dCall fLen (dCons (dVar 8) (dNil))) (dCons (dVar 8) (dNil)))))) (.nm 7) (dIfS (dB (dBin fNot (dCall (fun ts => if ts.length = 1 then d_cheapest ts else bot) (dCons (dTup (dCons (dVar 1) (dCons (dVar 2) (dCons (dCall fTuple (dCons (dCall (fSorted false) (dCons (dBin fAdd (dCall fTuple (dCons (dVar 3) (dNil))) (dVar 7)) (dNil))) (dNil))) (dCons (dVar 4) (dNil)))))) (dNil))) (dC .non))) (dRet (dVar 7)) (dNx))) (dRet (dC .non))))))
def d_missing_facts : List T → M T := dDef false 1 8 b_missing_facts
theorem sc_missing_facts : FnScope ["world", "many", "deeds", "start", "goal", "rows", "fact", "row"] ["world"] (defScope s_missing_facts) := ⟨rfl, rfl, rfl, by decide +kernel, rfl, by decide +kernel, by decide +kernel⟩
theorem bd_missing_facts (e : Env K mg base) : Binds K e.fd_missing_facts ["world"] [] := e.F_missing_facts.bindsN fun _ _ _ _ _ _ us hl => match us, hl with | [_], _ => rfl
theorem ok_missing_facts (e : Env K mg base) : FnOk P w K mg base (L2.CX P w) 5 e.a_missing_facts e.fd_missing_facts ["world"] (spD K mg 1 d_missing_facts) := by
  have nd := sc_missing_facts.nd
  refine FunD.okC e.F_missing_facts sc_missing_facts (fun vs H Q E h => h.1) (fun A outer s H vs Q E hr h => ⟨tS K mg E b_missing_facts, ?_, def_read h⟩)
  have tk := tk_def (CX := L2.CX P w) (P := P) (w := w) (K := K) (mg := mg) (base := base) (N := ["world", "many", "deeds", "start", "goal", "rows", "fact", "row"]) (q := "missing_facts") (sc := defScope s_missing_facts) (f := e.a_missing_facts) (cd := e.fd_missing_facts.code) (A := A) (outer := outer) (s := s) (H := H) (E := E)
  have po := po_def (CX := L2.CX P w) (P := P) (w := w) (K := K) (mg := mg) (base := base) (N := ["world", "many", "deeds", "start", "goal", "rows", "fact", "row"]) (q := "missing_facts") (sc := defScope s_missing_facts) (f := e.a_missing_facts) (cd := e.fd_missing_facts.code) (A := A) (outer := outer) (s := s) (H := H) (E := E)
  have hx := ps_def tk
  exact pdss_cons (pds_expr (pd_call (ok_check_world e) (hr.mono (by decide)) rfl e.g_check_world e.F_check_world.kp (bd_check_world e) hx (pda_cons (pv' 0) (pda_nil)))) (pdss_cons (pds_asg (pv' 0) (pgd_tup rfl (pgds_cons (pgd_name 1 nd) (pgds_cons (pgd_name 2 nd) (pgds_cons (pgd_name 3 nd) (pgds_cons (pgd_name 4 nd) (pgds_nil))))))) (pdss_cons (pds_set 5 nd (pd_lst (pda_cons (pd_tup (pda_nil)) (pda_nil)))) (pdss_cons (pds_for po rfl (pid_rng1 rfl e.n_range (pda_cons (pv' 1) (pda_nil))) (pgd_name 6 nd) (pdss_one (pds_if (pt_cmp' (or_notin (hu65 hr)) o2_notin (pv' 6) (pv' 3)) (pdss_one (pds_set 5 nd (pd_add (pv' 5) (pd_lc false [("row", 7)] rfl nd (pid_src (pv' 5)) (by kernel_rfl) (fun _ _ _ _ _ => pgd_name 7 nd) (fun _ _ _ _ _ => ptd_nil) (fun _ _ _ _ _ => pd_add (pv' 7) (pd_tup (pda_cons (pv' 6) (pda_nil)))))))) (pdss_nil)))) (pdss_cons (pds_for po rfl (pid_src (pd_sortK (k := 0) (a := "told") rfl rfl e.n_sorted (pv' 5) e.kt_missing_facts rfl (hr.mono (by decide)) (lam1_by (by kernel_rfl)) rfl (fun _ _ _ _ _ _ => rfl) (fun _ _ _ _ _ _ hr => pd_tup (pda_cons (pd_callB b_len cr_len rfl e.n_len bt_len (pda_cons (pv' 8) (pda_nil))) (pda_cons (pv' 8) (pda_nil)))))) (pgd_name 7 nd) (pdss_one (pds_if (pt_cmp' or_not o2_not (pd_call (ok_cheapest e) (hr.mono (by decide)) rfl e.g_cheapest e.F_cheapest.kp (bd_cheapest e) hx (pda_cons (pd_tup (pda_cons (pv' 1) (pda_cons (pv' 2) (pda_cons (pd_callTy b_tuple call_tuple_of rfl e.n_tuple bt_tuple (pda_cons (pd_callB b_sorted (cr_sortedA rfl (hu66 hr)) rfl e.n_sorted bt_sorted (pda_cons (pd_add (pd_callTy b_tuple call_tuple_of rfl e.n_tuple bt_tuple (pda_cons (pv' 3) (pda_nil))) (pv' 7)) (pda_nil))) (pda_nil))) (pda_cons (pv' 4) (pda_nil)))))) (pda_nil))) (pd_non)) (pdss_one (pds_ret (pv' 7))) (pdss_nil)))) (pdss_one (pds_ret (pd_non)))))))
/-! _law_after -/
def b__law_after : DS := dRet (dCall fTuple (dCons (dLc false [2] (dRng1 (dCons (dC (.int 16)) (dNil))) (.nm 2) (dOr (dB (dBin fIn (dVar 2) (dBin fIx (dVar 0) (dC (.int 2))))) (dAnd (dB (dBin fIn (dVar 2) (dVar 1))) (dB (dBin fNotIn (dVar 2) (dBin fIx (dVar 0) (dC (.int 3))))))) (dVar 2)) (dNil)))
def d__law_after : List T → M T := dDef false 2 3 b__law_after
theorem sc__law_after : FnScope ["deed", "state", "fact"] ["deed", "state"] (defScope s__law_after) := ⟨rfl, rfl, rfl, by decide +kernel, rfl, by decide +kernel, by decide +kernel⟩
theorem bd__law_after (e : Env K mg base) : Binds K e.fd__law_after ["deed", "state"] [] := e.F__law_after.bindsN fun _ _ _ _ _ _ us hl => match us, hl with | [_, _], _ => rfl
theorem ok__law_after (e : Env K mg base) : FnOk P w K mg base CX0 1 e.a__law_after e.fd__law_after ["deed", "state"] (spD K mg 2 d__law_after) := by
  have nd := sc__law_after.nd
  refine FunD.okC e.F__law_after sc__law_after (fun vs H Q E h => h.1) (fun A outer s H vs Q E hr h => ⟨tS K mg E b__law_after, PSs.nox ?_, def_read h⟩)
  exact pdss_one (pds_ret (pd_callTy b_tuple call_tuple_of rfl e.n_tuple bt_tuple (pda_cons (pd_lc false [("fact", 2)] rfl nd (pid_rng1 rfl e.n_range (pda_cons (pd_int) (pda_nil))) (by kernel_rfl) (fun _ _ _ _ _ => pgd_name 2 nd) (fun _ _ _ _ _ => ptd_one (pt_w (pw_or' (pt_cmp' (or_in (hu65 hr)) o2_in (pv' 2) (pd_ix (hu65 hr) (pv' 0) (pd_int))) (pw_one_or (pt_w (pw_and' (pt_cmp' (or_in (hu65 hr)) o2_in (pv' 2) (pv' 1)) (pw_one_and (pt_cmp' (or_notin (hu65 hr)) o2_notin (pv' 2) (pd_ix (hu65 hr) (pv' 0) (pd_int)))))))))) (fun _ _ _ _ _ => pv' 2)) (pda_nil))))
/-! _law_fits -/
def b__law_fits : DS := dRet (dAndV (dCall fAll (dCons (dLc false [2] (dSrc (dBin fIx (dVar 0) (dC (.int 0)))) (.nm 2) (dYes) (dBin fIn (dVar 2) (dVar 1))) (dNil))) (dNotV (dCall fAny (dCons (dLc false [2] (dSrc (dBin fIx (dVar 0) (dC (.int 1)))) (.nm 2) (dYes) (dBin fIn (dVar 2) (dVar 1))) (dNil)))))
def d__law_fits : List T → M T := dDef false 2 3 b__law_fits
theorem sc__law_fits : FnScope ["condition", "state", "fact"] ["condition", "state"] (defScope s__law_fits) := ⟨rfl, rfl, rfl, by decide +kernel, rfl, by decide +kernel, by decide +kernel⟩
theorem bd__law_fits (e : Env K mg base) : Binds K e.fd__law_fits ["condition", "state"] [] := e.F__law_fits.bindsN fun _ _ _ _ _ _ us hl => match us, hl with | [_, _], _ => rfl
theorem ok__law_fits (e : Env K mg base) : FnOk P w K mg base CX0 1 e.a__law_fits e.fd__law_fits ["condition", "state"] (spD K mg 2 d__law_fits) := by
  have nd := sc__law_fits.nd
  refine FunD.okC e.F__law_fits sc__law_fits (fun vs H Q E h => h.1) (fun A outer s H vs Q E hr h => ⟨tS K mg E b__law_fits, PSs.nox ?_, def_read h⟩)
  exact pdss_one (pds_ret (pd_and (pd_callB b_all (cr_all rfl) rfl e.n_all bt_all (pda_cons (pd_lc false [("fact", 2)] rfl nd (pid_src (pd_ix (hu65 hr) (pv' 0) (pd_int))) (by kernel_rfl) (fun _ _ _ _ _ => pgd_name 2 nd) (fun _ _ _ _ _ => ptd_nil) (fun _ _ _ _ _ => pd_cmp (or_in (hu65 hr)) o2_in (pv' 2) (pv' 1))) (pda_nil))) (pd_one (pd_not (pd_callB b_any (cr_any rfl) rfl e.n_any bt_any (pda_cons (pd_lc false [("fact", 2)] rfl nd (pid_src (pd_ix (hu65 hr) (pv' 0) (pd_int))) (by kernel_rfl) (fun _ _ _ _ _ => pgd_name 2 nd) (fun _ _ _ _ _ => ptd_nil) (fun _ _ _ _ _ => pd_cmp (or_in (hu65 hr)) o2_in (pv' 2) (pv' 1))) (pda_nil)))))))
/-! _law_next -/
def b__law_next : DS := dRet (dLc false [2] (dRng1 (dCons (dCall fLen (dCons (dBin fIx (dVar 0) (dC (.int 1))) (dNil))) (dNil))) (.nm 2) (dTru (dCall (fun ts => if ts.length = 2 then d__law_fits ts else bot) (dCons (dBin fIx (dBin fIx (dVar 0) (dC (.int 1))) (dVar 2)) (dCons (dVar 1) (dNil))))) (dTup (dCons (dVar 2) (dCons (dCall (fun ts => if ts.length = 2 then d__law_after ts else bot) (dCons (dBin fIx (dBin fIx (dVar 0) (dC (.int 1))) (dVar 2)) (dCons (dVar 1) (dNil)))) (dNil)))))
def d__law_next : List T → M T := dDef false 2 3 b__law_next
theorem sc__law_next : FnScope ["world", "state", "k"] ["world", "state"] (defScope s__law_next) := ⟨rfl, rfl, rfl, by decide +kernel, rfl, by decide +kernel, by decide +kernel⟩
theorem bd__law_next (e : Env K mg base) : Binds K e.fd__law_next ["world", "state"] [] := e.F__law_next.bindsN fun _ _ _ _ _ _ us hl => match us, hl with | [_, _], _ => rfl
theorem ok__law_next (e : Env K mg base) : FnOk P w K mg base CX0 2 e.a__law_next e.fd__law_next ["world", "state"] (spD K mg 2 d__law_next) := by
  have nd := sc__law_next.nd
  refine FunD.okC e.F__law_next sc__law_next (fun vs H Q E h => h.1) (fun A outer s H vs Q E hr h => ⟨tS K mg E b__law_next, PSs.nox ?_, def_read h⟩)
  exact pdss_one (pds_ret (pd_lc false [("k", 2)] rfl nd (pid_rng1 rfl e.n_range (pda_cons (pd_callB b_len cr_len rfl e.n_len bt_len (pda_cons (pd_ix (hu65 hr) (pv' 0) (pd_int)) (pda_nil))) (pda_nil))) (by kernel_rfl) (fun _ _ _ _ _ => pgd_name 2 nd) (fun _ _ _ _ _ => ptd_one (pt_tru (pd_call (ok__law_fits e) (hr.mono (by decide)) rfl e.g__law_fits e.F__law_fits.kp (bd__law_fits e) pass0 (pda_cons (pd_ix (hu65 hr) (pd_ix (hu65 hr) (pv' 0) (pd_int)) (pv' 2)) (pda_cons (pv' 1) (pda_nil)))))) (fun _ _ _ _ _ => pd_tup (pda_cons (pv' 2) (pda_cons (pd_call (ok__law_after e) (hr.mono (by decide)) rfl e.g__law_after e.F__law_after.kp (bd__law_after e) pass0 (pda_cons (pd_ix (hu65 hr) (pd_ix (hu65 hr) (pv' 0) (pd_int)) (pv' 2)) (pda_cons (pv' 1) (pda_nil)))) (pda_nil))))))
/-! _law_reached -/
def b__law_reached : DS := dSeq (dAsg (.nm 1) (dLst (dCons (dBin fIx (dVar 0) (dC (.int 2))) (dNil)))) (dSeq (dAsg (.nm 2) (dC (.int 0))) (dSeq (dWhile fuel (dB (dBin fLt (dVar 2) (dCall fLen (dCons (dVar 1) (dNil))))) (dSeq (dFor (dSrc (dCall (fun ts => if ts.length = 2 then d__law_next ts else bot) (dCons (dVar 0) (dCons (dBin fIx (dVar 1) (dVar 2)) (dNil))))) (.tup [.nm 3, .nm 4]) (dIfS (dB (dBin fNotIn (dVar 4) (dVar 1))) (dAsg (.nm 1) (dBin fAdd (dVar 1) (dLst (dCons (dVar 4) (dNil))))) (dNx))) (dAsg (.nm 2) (dBin fAdd (dVar 2) (dC (.int 1)))))) (dRet (dCall (fSorted false) (dCons (dVar 1) (dNil))))))
def d__law_reached : List T → M T := dDef false 1 5 b__law_reached
theorem sc__law_reached : FnScope ["world", "found", "at", "k", "other"] ["world"] (defScope s__law_reached) := ⟨rfl, rfl, rfl, by decide +kernel, rfl, by decide +kernel, by decide +kernel⟩
theorem bd__law_reached (e : Env K mg base) : Binds K e.fd__law_reached ["world"] [] := e.F__law_reached.bindsN fun _ _ _ _ _ _ us hl => match us, hl with | [_], _ => rfl
theorem ok__law_reached (e : Env K mg base) : FnOk P w K mg base CX0 3 e.a__law_reached e.fd__law_reached ["world"] (spD K mg 1 d__law_reached) := by
  have nd := sc__law_reached.nd
  refine FunD.okC e.F__law_reached sc__law_reached (fun vs H Q E h => h.1) (fun A outer s H vs Q E hr h => ⟨tS K mg E b__law_reached, PSs.nox ?_, def_read h⟩)
  exact pdss_cons (pds_set 1 nd (pd_lst (pda_cons (pd_ix (hu65 hr) (pv' 0) (pd_int)) (pda_nil)))) (pdss_cons (pds_set 2 nd (pd_int)) (pdss_cons (pds_while fuel PassesOwn.never (pt_cmp' op_lt o2_lt (pv' 2) (pd_callB b_len cr_len rfl e.n_len bt_len (pda_cons (pv' 1) (pda_nil)))) (pdss_cons (pds_for PassesOwn.never rfl (pid_src (pd_call (ok__law_next e) (hr.mono (by decide)) rfl e.g__law_next e.F__law_next.kp (bd__law_next e) pass0 (pda_cons (pv' 0) (pda_cons (pd_ix (hu65 hr) (pv' 1) (pv' 2)) (pda_nil))))) (pgd_tup rfl (pgds_cons (pgd_name 3 nd) (pgds_cons (pgd_name 4 nd) (pgds_nil)))) (pdss_one (pds_if (pt_cmp' (or_notin (hu65 hr)) o2_notin (pv' 4) (pv' 1)) (pdss_one (pds_set 1 nd (pd_add (pv' 1) (pd_lst (pda_cons (pv' 4) (pda_nil)))))) (pdss_nil)))) (pdss_one (pds_set 2 nd (pd_add (pv' 2) (pd_int)))))) (pdss_one (pds_ret (pd_callB b_sorted (cr_sortedA rfl (hu66 hr)) rfl e.n_sorted bt_sorted (pda_cons (pv' 1) (pda_nil)))))))
/-! _law_costs -/
def b__law_costs : DS := dSeq (dAsg (.nm 1) (dCall (fun ts => if ts.length = 1 then d__law_reached ts else bot) (dCons (dVar 0) (dNil)))) (dSeq (dAsg (.nm 2) (dCall (fDictP true true) (dCons (dLc false [4] (dSrc (dVar 1)) (.nm 4) (dYes) (dTup (dCons (dVar 4) (dCons (dIf (dTru (dCall (fun ts => if ts.length = 2 then d__law_fits ts else bot) (dCons (dBin fIx (dVar 0) (dC (.int 3))) (dCons (dVar 4) (dNil))))) (dC (.int 0)) (dC .non)) (dNil))))) (dNil)))) (dSeq (dFor (dRng1 (dCons (dCall fLen (dCons (dVar 1) (dNil))) (dNil))) (.nm 3) (dFor (dSrc (dVar 1)) (.nm 4) (dSeq (dAsg (.nm 5) (dLc false [6, 7] (dSrc (dCall (fun ts => if ts.length = 2 then d__law_next ts else bot) (dCons (dVar 0) (dCons (dVar 4) (dNil))))) (.tup [.nm 6, .nm 7]) (dB (dBin fNot (dBin fIx (dVar 2) (dVar 7)) (dC .non))) (dBin fAdd (dBin fIx (dBin fIx (dBin fIx (dVar 0) (dC (.int 1))) (dVar 6)) (dC (.int 4))) (dBin fIx (dVar 2) (dVar 7))))) (dIfS (dAnd (dB (dBin fGt (dCall fLen (dCons (dVar 5) (dNil))) (dC (.int 0)))) (dOr (dB (dBin fIs (dBin fIx (dVar 2) (dVar 4)) (dC .non))) (dB (dBin fLt (dCall fMin (dCons (dVar 5) (dNil))) (dBin fIx (dVar 2) (dVar 4)))))) (dSet (dCall fMin (dCons (dVar 5) (dNil))) (dVar 2) (dVar 4)) (dNx))))) (dRet (dVar 2))))
def d__law_costs : List T → M T := dDef true 1 8 b__law_costs
theorem sc__law_costs : FnScope ["world", "states", "best", "turn", "state", "told", "k", "other"] ["world"] (defScope s__law_costs) := ⟨rfl, rfl, rfl, by decide +kernel, rfl, by decide +kernel, by decide +kernel⟩
theorem bd__law_costs (e : Env K mg base) : Binds K e.fd__law_costs ["world"] [] := e.F__law_costs.bindsN fun _ _ _ _ _ _ us hl => match us, hl with | [_], _ => rfl
theorem ok__law_costs (e : Env K mg base) : FnOk P w K mg base CX0 4 e.a__law_costs e.fd__law_costs ["world"] (spD K mg 1 d__law_costs) := by
  have nd := sc__law_costs.nd
  refine FunD.okC e.F__law_costs sc__law_costs (fun vs H Q E h => h.1) (fun A outer s H vs Q E hr h => ⟨tS K mg E b__law_costs, PSs.nox ?_, def_read h⟩)
  exact pdss_cons (pds_set 1 nd (pd_call (ok__law_reached e) (hr.mono (by decide)) rfl e.g__law_reached e.F__law_reached.kp (bd__law_reached e) pass0 (pda_cons (pv' 0) (pda_nil)))) (pdss_cons (pds_set 2 nd (pd_callTy b_dictPT (call_dictPT rfl (hu65 hr)) rfl e.n_dict bt_dict (pda_cons (pd_lc false [("state", 4)] rfl nd (pid_src (pv' 1)) (by kernel_rfl) (fun _ _ _ _ _ => pgd_name 4 nd) (fun _ _ _ _ _ => ptd_nil) (fun _ _ _ _ _ => pd_tup (pda_cons (pv' 4) (pda_cons (pd_if (pt_tru (pd_call (ok__law_fits e) (hr.mono (by decide)) rfl e.g__law_fits e.F__law_fits.kp (bd__law_fits e) pass0 (pda_cons (pd_ix (hu65 hr) (pv' 0) (pd_int)) (pda_cons (pv' 4) (pda_nil))))) (pd_int) (pd_non)) (pda_nil))))) (pda_nil)))) (pdss_cons (pds_for PassesOwn.never rfl (pid_rng1 rfl e.n_range (pda_cons (pd_callB b_len cr_len rfl e.n_len bt_len (pda_cons (pv' 1) (pda_nil))) (pda_nil))) (pgd_name 3 nd) (pdss_one (pds_for PassesOwn.never rfl (pid_src (pv' 1)) (pgd_name 4 nd) (pdss_cons (pds_setLc false [("k", 6), ("other", 7)] 5 rfl nd (sw_true rfl rfl rfl rfl) (pid_src (pd_call (ok__law_next e) (hr.mono (by decide)) rfl e.g__law_next e.F__law_next.kp (bd__law_next e) pass0 (pda_cons (pv' 0) (pda_cons (pv' 4) (pda_nil))))) (by kernel_rfl) (fun _ _ _ _ _ => pgd_tup rfl (pgds_cons (pgd_name 6 nd) (pgds_cons (pgd_name 7 nd) (pgds_nil)))) (fun _ _ _ _ _ => ptd_one (pt_cmp' or_not o2_not (pd_ix (hu65 hr) (pv' 2) (pv' 7)) (pd_non))) (fun _ _ _ _ _ => pd_add (pd_ix (hu65 hr) (pd_ix (hu65 hr) (pd_ix (hu65 hr) (pv' 0) (pd_int)) (pv' 6)) (pd_int)) (pd_ix (hu65 hr) (pv' 2) (pv' 7)))) (pdss_one (pds_if (pt_w (pw_and' (pt_cmp' op_gt o2_gt (pd_callB b_len cr_len rfl e.n_len bt_len (pda_cons (pv' 5) (pda_nil))) (pd_int)) (pw_one_and (pt_w (pw_or' (pt_cmp' or_is o2_is (pd_ix (hu65 hr) (pv' 2) (pv' 4)) (pd_non)) (pw_one_or (pt_cmp' op_lt o2_lt (pd_callB b_min (cr_min2 rfl) rfl e.n_min bt_min (pda_cons (pv' 5) (pda_nil))) (pd_ix (hu65 hr) (pv' 2) (pv' 4))))))))) (pdss_one (pds_sub (hu65 hr) (pd_callB b_min (cr_min2 rfl) rfl e.n_min bt_min (pda_cons (pv' 5) (pda_nil))) (pv' 2) (pv' 4))) (pdss_nil))))))) (pdss_one (pds_ret (pv' 2)))))
/-! _law_can -/
def b__law_can : DS := dSeq (dAsg (.nm 3) (dTup (dCons (dBin fIx (dVar 0) (dC (.int 0))) (dCons (dBin fIx (dVar 0) (dC (.int 1))) (dCons (dVar 1) (dCons (dVar 2) (dNil))))))) (dRet (dBin fNot (dBin fIx (dCall (fun ts => if ts.length = 1 then d__law_costs ts else bot) (dCons (dVar 3) (dNil))) (dVar 1)) (dC .non)))
def d__law_can : List T → M T := dDef false 3 4 b__law_can
theorem sc__law_can : FnScope ["world", "start", "goal", "own"] ["world", "start", "goal"] (defScope s__law_can) := ⟨rfl, rfl, rfl, by decide +kernel, rfl, by decide +kernel, by decide +kernel⟩
theorem bd__law_can (e : Env K mg base) : Binds K e.fd__law_can ["world", "start", "goal"] [] := e.F__law_can.bindsN fun _ _ _ _ _ _ us hl => match us, hl with | [_, _, _], _ => rfl
theorem ok__law_can (e : Env K mg base) : FnOk P w K mg base CX0 5 e.a__law_can e.fd__law_can ["world", "start", "goal"] (spD K mg 3 d__law_can) := by
  have nd := sc__law_can.nd
  refine FunD.okC e.F__law_can sc__law_can (fun vs H Q E h => h.1) (fun A outer s H vs Q E hr h => ⟨tS K mg E b__law_can, PSs.nox ?_, def_read h⟩)
  exact pdss_cons (pds_set 3 nd (pd_tup (pda_cons (pd_ix (hu65 hr) (pv' 0) (pd_int)) (pda_cons (pd_ix (hu65 hr) (pv' 0) (pd_int)) (pda_cons (pv' 1) (pda_cons (pv' 2) (pda_nil))))))) (pdss_one (pds_ret (pd_cmp or_not o2_not (pd_ix (hu65 hr) (pd_call (ok__law_costs e) (hr.mono (by decide)) rfl e.g__law_costs e.F__law_costs.kp (bd__law_costs e) pass0 (pda_cons (pv' 3) (pda_nil))) (pv' 1)) (pd_non))))
/-! too_much -/
def b_too_much : DS := dSeq (dExpr (dCall (fun ts => if ts.length = 1 then d_check_world ts else bot) (dCons (dVar 0) (dNil)))) (dSeq (dAsg (.tup [.nm 1, .nm 2, .nm 3, .tup [.nm 4, .nm 5]]) (dVar 0)) (dSeq (dAsg (.nm 6) (dLst (dCons (dTup (dNil)) (dNil)))) (dSeq (dFor (dSrc (dCall (fSorted false) (dCons (dBin fAdd (dCall fTuple (dCons (dVar 4) (dNil))) (dCall fTuple (dCons (dVar 5) (dNil)))) (dNil)))) (.nm 7) (dAsg (.nm 6) (dBin fAdd (dVar 6) (dLc false [8] (dSrc (dVar 6)) (.nm 8) (dYes) (dBin fAdd (dVar 8) (dTup (dCons (dVar 7) (dNil)))))))) (dSeq (dFor (dSrc (dSortK false (dVar 6) (dTup (dCons (dCall fLen (dCons (dVar 10) (dNil))) (dCons (dVar 10) (dNil)))))) (.nm 8) (dSeq (dAsg (.nm 9) (dTup (dCons (dCall fTuple (dCons (dLc false [7] (dSrc (dVar 4)) (.nm 7) (dB (dBin fNotIn (dVar 7) (dVar 8))) (dVar 7)) (dNil))) (dCons (dCall fTuple (dCons (dLc false [7] (dSrc (dVar 5)) (.nm 7) (dB (dBin fNotIn (dVar 7) (dVar 8))) (dVar 7)) (dNil))) (dNil))))) (dIfS (dB (dBin fNot (dCall (fun ts => if ts.length = 1 then d_cheapest ts else bot) (dCons (dTup (dCons (dVar 1) (dCons (dVar 2) (dCons (dVar 3) (dCons (dVar 9) (dNil)))))) (dNil))) (dC .non))) (dRet (dVar 8)) (dNx)))) (dRaise "InvalidPlan")))))
def d_too_much : List T → M T := dDef false 1 10 b_too_much
theorem sc_too_much : FnScope ["world", "many", "deeds", "start", "needs", "bars", "rows", "fact", "row", "goal"] ["world"] (defScope s_too_much) := ⟨rfl, rfl, rfl, by decide +kernel, rfl, by decide +kernel, by decide +kernel⟩
theorem bd_too_much (e : Env K mg base) : Binds K e.fd_too_much ["world"] [] := e.F_too_much.bindsN fun _ _ _ _ _ _ us hl => match us, hl with | [_], _ => rfl
theorem ok_too_much (e : Env K mg base) : FnOk P w K mg base (L2.CX P w) 5 e.a_too_much e.fd_too_much ["world"] (spD K mg 1 d_too_much) := by
  have nd := sc_too_much.nd
  refine FunD.okC e.F_too_much sc_too_much (fun vs H Q E h => h.1) (fun A outer s H vs Q E hr h => ⟨tS K mg E b_too_much, ?_, def_read h⟩)
  have tk := tk_def (CX := L2.CX P w) (P := P) (w := w) (K := K) (mg := mg) (base := base) (N := ["world", "many", "deeds", "start", "needs", "bars", "rows", "fact", "row", "goal"]) (q := "too_much") (sc := defScope s_too_much) (f := e.a_too_much) (cd := e.fd_too_much.code) (A := A) (outer := outer) (s := s) (H := H) (E := E)
  have po := po_def (CX := L2.CX P w) (P := P) (w := w) (K := K) (mg := mg) (base := base) (N := ["world", "many", "deeds", "start", "needs", "bars", "rows", "fact", "row", "goal"]) (q := "too_much") (sc := defScope s_too_much) (f := e.a_too_much) (cd := e.fd_too_much.code) (A := A) (outer := outer) (s := s) (H := H) (E := E)
  have hx := ps_def tk
  exact pdss_cons (pds_expr (pd_call (ok_check_world e) (hr.mono (by decide)) rfl e.g_check_world e.F_check_world.kp (bd_check_world e) hx (pda_cons (pv' 0) (pda_nil)))) (pdss_cons (pds_asg (pv' 0) (pgd_tup rfl (pgds_cons (pgd_name 1 nd) (pgds_cons (pgd_name 2 nd) (pgds_cons (pgd_name 3 nd) (pgds_cons (pgd_tup rfl (pgds_cons (pgd_name 4 nd) (pgds_cons (pgd_name 5 nd) (pgds_nil)))) (pgds_nil))))))) (pdss_cons (pds_set 6 nd (pd_lst (pda_cons (pd_tup (pda_nil)) (pda_nil)))) (pdss_cons (pds_for po rfl (pid_src (pd_callB b_sorted (cr_sortedA rfl (hu66 hr)) rfl e.n_sorted bt_sorted (pda_cons (pd_add (pd_callTy b_tuple call_tuple_of rfl e.n_tuple bt_tuple (pda_cons (pv' 4) (pda_nil))) (pd_callTy b_tuple call_tuple_of rfl e.n_tuple bt_tuple (pda_cons (pv' 5) (pda_nil)))) (pda_nil)))) (pgd_name 7 nd) (pdss_one (pds_set 6 nd (pd_add (pv' 6) (pd_lc false [("row", 8)] rfl nd (pid_src (pv' 6)) (by kernel_rfl) (fun _ _ _ _ _ => pgd_name 8 nd) (fun _ _ _ _ _ => ptd_nil) (fun _ _ _ _ _ => pd_add (pv' 8) (pd_tup (pda_cons (pv' 7) (pda_nil))))))))) (pdss_cons (pds_for po rfl (pid_src (pd_sortK (k := 0) (a := "told") rfl rfl e.n_sorted (pv' 6) e.kt_too_much rfl (hr.mono (by decide)) (lam1_by (by kernel_rfl)) rfl (fun _ _ _ _ _ _ => rfl) (fun _ _ _ _ _ _ hr => pd_tup (pda_cons (pd_callB b_len cr_len rfl e.n_len bt_len (pda_cons (pv' 10) (pda_nil))) (pda_cons (pv' 10) (pda_nil)))))) (pgd_name 8 nd) (pdss_cons (pds_set 9 nd (pd_tup (pda_cons (pd_callTy b_tuple call_tuple_of rfl e.n_tuple bt_tuple (pda_cons (pd_lc false [("fact", 7)] rfl nd (pid_src (pv' 4)) (by kernel_rfl) (fun _ _ _ _ _ => pgd_name 7 nd) (fun _ _ _ _ _ => ptd_one (pt_cmp' (or_notin (hu65 hr)) o2_notin (pv' 7) (pv' 8))) (fun _ _ _ _ _ => pv' 7)) (pda_nil))) (pda_cons (pd_callTy b_tuple call_tuple_of rfl e.n_tuple bt_tuple (pda_cons (pd_lc false [("fact", 7)] rfl nd (pid_src (pv' 5)) (by kernel_rfl) (fun _ _ _ _ _ => pgd_name 7 nd) (fun _ _ _ _ _ => ptd_one (pt_cmp' (or_notin (hu65 hr)) o2_notin (pv' 7) (pv' 8))) (fun _ _ _ _ _ => pv' 7)) (pda_nil))) (pda_nil))))) (pdss_one (pds_if (pt_cmp' or_not o2_not (pd_call (ok_cheapest e) (hr.mono (by decide)) rfl e.g_cheapest e.F_cheapest.kp (bd_cheapest e) hx (pda_cons (pd_tup (pda_cons (pv' 1) (pda_cons (pv' 2) (pda_cons (pv' 3) (pda_cons (pv' 9) (pda_nil)))))) (pda_nil))) (pd_non)) (pdss_one (pds_ret (pv' 8))) (pdss_nil))))) (pdss_one (pds_raise rfl tk e.x_InvalidPlan rfl))))))
/-! _law_deeds -/
def b__law_deeds : DS := dSeq (dAsg (.nm 1) (dLst (dCons (dTup (dCons (dTup (dNil)) (dCons (dTup (dNil)) (dCons (dTup (dNil)) (dCons (dTup (dNil)) (dNil)))))) (dNil)))) (dSeq (dFor (dRng1 (dCons (dVar 0) (dNil))) (.nm 2) (dSeq (dAsg (.nm 3) (dLst (dNil))) (dSeq (dFor (dSrc (dVar 1)) (.tup [.nm 4, .nm 5, .nm 6, .nm 7]) (dFor (dSrc (dTup (dCons (dTup (dCons (dVar 4) (dCons (dVar 5) (dNil)))) (dCons (dTup (dCons (dBin fAdd (dVar 4) (dTup (dCons (dVar 2) (dNil)))) (dCons (dVar 5) (dNil)))) (dCons (dTup (dCons (dVar 4) (dCons (dBin fAdd (dVar 5) (dTup (dCons (dVar 2) (dNil)))) (dNil)))) (dNil)))))) (.nm 8) (dAsg (.nm 3) (dBin fAdd (dVar 3) (dLc false [9] (dSrc (dTup (dCons (dTup (dCons (dVar 6) (dCons (dVar 7) (dNil)))) (dCons (dTup (dCons (dBin fAdd (dVar 6) (dTup (dCons (dVar 2) (dNil)))) (dCons (dVar 7) (dNil)))) (dCons (dTup (dCons (dVar 6) (dCons (dBin fAdd (dVar 7) (dTup (dCons (dVar 2) (dNil)))) (dNil)))) (dNil)))))) (.nm 9) (dYes) (dBin fAdd (dVar 8) (dVar 9))))))) (dAsg (.nm 1) (dVar 3))))) (dRet (dVar 1)))
def d__law_deeds : List T → M T := dDef false 1 10 b__law_deeds
theorem sc__law_deeds : FnScope ["many", "rows", "fact", "longer", "needs", "bars", "adds", "drops", "one", "two"] ["many"] (defScope s__law_deeds) := ⟨rfl, rfl, rfl, by decide +kernel, rfl, by decide +kernel, by decide +kernel⟩
theorem bd__law_deeds (e : Env K mg base) : Binds K e.fd__law_deeds ["many"] [] := e.F__law_deeds.bindsN fun _ _ _ _ _ _ us hl => match us, hl with | [_], _ => rfl
theorem ok__law_deeds (e : Env K mg base) : FnOk P w K mg base CX0 1 e.a__law_deeds e.fd__law_deeds ["many"] (spD K mg 1 d__law_deeds) := by
  have nd := sc__law_deeds.nd
  refine FunD.okC e.F__law_deeds sc__law_deeds (fun vs H Q E h => h.1) (fun A outer s H vs Q E hr h => ⟨tS K mg E b__law_deeds, PSs.nox ?_, def_read h⟩)
  exact pdss_cons (pds_set 1 nd (pd_lst (pda_cons (pd_tup (pda_cons (pd_tup (pda_nil)) (pda_cons (pd_tup (pda_nil)) (pda_cons (pd_tup (pda_nil)) (pda_cons (pd_tup (pda_nil)) (pda_nil)))))) (pda_nil)))) (pdss_cons (pds_for PassesOwn.never rfl (pid_rng1 rfl e.n_range (pda_cons (pv' 0) (pda_nil))) (pgd_name 2 nd) (pdss_cons (pds_set 3 nd (pd_lst (pda_nil))) (pdss_cons (pds_for PassesOwn.never rfl (pid_src (pv' 1)) (pgd_tup rfl (pgds_cons (pgd_name 4 nd) (pgds_cons (pgd_name 5 nd) (pgds_cons (pgd_name 6 nd) (pgds_cons (pgd_name 7 nd) (pgds_nil)))))) (pdss_one (pds_for PassesOwn.never rfl (pid_src (pd_tup (pda_cons (pd_tup (pda_cons (pv' 4) (pda_cons (pv' 5) (pda_nil)))) (pda_cons (pd_tup (pda_cons (pd_add (pv' 4) (pd_tup (pda_cons (pv' 2) (pda_nil)))) (pda_cons (pv' 5) (pda_nil)))) (pda_cons (pd_tup (pda_cons (pv' 4) (pda_cons (pd_add (pv' 5) (pd_tup (pda_cons (pv' 2) (pda_nil)))) (pda_nil)))) (pda_nil)))))) (pgd_name 8 nd) (pdss_one (pds_set 3 nd (pd_add (pv' 3) (pd_lc false [("two", 9)] rfl nd (pid_src (pd_tup (pda_cons (pd_tup (pda_cons (pv' 6) (pda_cons (pv' 7) (pda_nil)))) (pda_cons (pd_tup (pda_cons (pd_add (pv' 6) (pd_tup (pda_cons (pv' 2) (pda_nil)))) (pda_cons (pv' 7) (pda_nil)))) (pda_cons (pd_tup (pda_cons (pv' 6) (pda_cons (pd_add (pv' 7) (pd_tup (pda_cons (pv' 2) (pda_nil)))) (pda_nil)))) (pda_nil)))))) (by kernel_rfl) (fun _ _ _ _ _ => pgd_name 9 nd) (fun _ _ _ _ _ => ptd_nil) (fun _ _ _ _ _ => pd_add (pv' 8) (pv' 9))))))))) (pdss_one (pds_set 1 nd (pv' 3)))))) (pdss_one (pds_ret (pv' 1))))
/-! explains -/
def b_explains : DS := dRet (dCall fAll (dCons (dLc false [2, 3] (dSrc (dVar 1)) (.tup [.nm 2, .nm 3]) (dYes) (dAndV (dCall (fun ts => if ts.length = 2 then d_can ts else bot) (dCons (dVar 0) (dCons (dVar 2) (dNil)))) (dBin fEq (dCall (fun ts => if ts.length = 2 then d_after ts else bot) (dCons (dVar 0) (dCons (dVar 2) (dNil)))) (dCall fTuple (dCons (dVar 3) (dNil)))))) (dNil)))
def d_explains : List T → M T := dDef false 2 4 b_explains
theorem sc_explains : FnScope ["deed", "samples", "one", "other"] ["deed", "samples"] (defScope s_explains) := ⟨rfl, rfl, rfl, by decide +kernel, rfl, by decide +kernel, by decide +kernel⟩
theorem bd_explains (e : Env K mg base) : Binds K e.fd_explains ["deed", "samples"] [] := e.F_explains.bindsN fun _ _ _ _ _ _ us hl => match us, hl with | [_, _], _ => rfl
theorem ok_explains (e : Env K mg base) : FnOk P w K mg base CX0 3 e.a_explains e.fd_explains ["deed", "samples"] (spD K mg 2 d_explains) := by
  have nd := sc_explains.nd
  refine FunD.okC e.F_explains sc_explains (fun vs H Q E h => h.1) (fun A outer s H vs Q E hr h => ⟨tS K mg E b_explains, PSs.nox ?_, def_read h⟩)
  exact pdss_one (pds_ret (pd_callB b_all (cr_all rfl) rfl e.n_all bt_all (pda_cons (pd_lc false [("one", 2), ("other", 3)] rfl nd (pid_src (pv' 1)) (by kernel_rfl) (fun _ _ _ _ _ => pgd_tup rfl (pgds_cons (pgd_name 2 nd) (pgds_cons (pgd_name 3 nd) (pgds_nil)))) (fun _ _ _ _ _ => ptd_nil) (fun _ _ _ _ _ => pd_and (pd_call (ok_can e) (hr.mono (by decide)) rfl e.g_can e.F_can.kp (bd_can e) pass0 (pda_cons (pv' 0) (pda_cons (pv' 2) (pda_nil)))) (pd_one (pd_cmp (op_eqD (hu64 hr)) o2_eq (pd_call (ok_after e) (hr.mono (by decide)) rfl e.g_after e.F_after.kp (bd_after e) pass0 (pda_cons (pv' 0) (pda_cons (pv' 2) (pda_nil)))) (pd_callTy b_tuple call_tuple_of rfl e.n_tuple bt_tuple (pda_cons (pv' 3) (pda_nil))))))) (pda_nil))))
/-! law -/
def t_law_23 : DS := dRet (dRefused cs__law_refused (dCall (fun ts => if ts.length = 2 then d_learnt ts else bot) (dCons (dVar 11) (dCons (dTup (dNil)) (dNil)))))
def t_law_22 : DS := dSeq (dIfS (dB (dBin fNot (dVar 15) (dC .non))) (dSeq (dIfS (dOr (dB (dBin fNotIn (dBin fAdd (dVar 15) (dTup (dCons (dC (.int 0)) (dNil)))) (dVar 17))) (dB (dBin fNe (dCall (fun ts => if ts.length = 2 then d_explains ts else bot) (dCons (dVar 12) (dCons (dCall fTuple (dCons (dVar 13) (dNil))) (dNil)))) (dCall fAll (dCons (dLc false [25, 26] (dSrc (dVar 13)) (.tup [.nm 25, .nm 26]) (dYes) (dAndV (dCall (fun ts => if ts.length = 2 then d__law_fits ts else bot) (dCons (dVar 12) (dCons (dVar 25) (dNil)))) (dBin fEq (dCall (fun ts => if ts.length = 2 then d__law_after ts else bot) (dCons (dVar 12) (dCons (dVar 25) (dNil)))) (dVar 26)))) (dNil)))))) (dRet (dC (.bl false))) (dNx)) (dFor (dSrc (dVar 17)) (.tup [.nm 19, .nm 20, .nm 21, .nm 22, .nm 23]) (dSeq (dIfS (dOr (dTru (dCall fAny (dCons (dLc false [24] (dSrc (dVar 19)) (.nm 24) (dYes) (dBin fNotIn (dVar 24) (dBin fIx (dVar 15) (dC (.int 0))))) (dNil)))) (dTru (dCall fAny (dCons (dLc false [24] (dSrc (dVar 20)) (.nm 24) (dYes) (dBin fNotIn (dVar 24) (dBin fIx (dVar 15) (dC (.int 1))))) (dNil))))) (dRet (dC (.bl false))) (dNx)) (dIfS (dOr (dTru (dCall fAny (dCons (dLc false [24] (dSrc (dBin fIx (dVar 15) (dC (.int 2)))) (.nm 24) (dYes) (dBin fNotIn (dVar 24) (dVar 21))) (dNil)))) (dTru (dCall fAny (dCons (dLc false [24] (dSrc (dBin fIx (dVar 15) (dC (.int 3)))) (.nm 24) (dYes) (dBin fNotIn (dVar 24) (dVar 22))) (dNil))))) (dRet (dC (.bl false))) (dNx))))) (dNx)) t_law_23
def t_law_21 : DS := dSeq (dFor (dSrc (dSl (dVar 16) (dPN) (dPS (dC (.int 40))))) (.nm 18) (dIfS (dB (dBin fNe (dCall (fun ts => if ts.length = 2 then d_explains ts else bot) (dCons (dVar 18) (dCons (dCall fTuple (dCons (dVar 13) (dNil))) (dNil)))) (dBin fIn (dVar 18) (dVar 17)))) (dRet (dC (.bl false))) (dNx))) t_law_22
def t_law_20 : DS := dSeq (dIfS (dB (dBin fNe (dBin fIs (dVar 15) (dC .non)) (dBin fEq (dCall fLen (dCons (dVar 17) (dNil))) (dC (.int 0))))) (dRet (dC (.bl false))) (dNx)) t_law_21
def t_law_19 : DS := dSeq (dAsg (.nm 17) (dLc false [18] (dSrc (dVar 16)) (.nm 18) (dTru (dCall fAll (dCons (dLc false [25, 26] (dSrc (dVar 13)) (.tup [.nm 25, .nm 26]) (dYes) (dAndV (dCall (fun ts => if ts.length = 2 then d__law_fits ts else bot) (dCons (dVar 18) (dCons (dVar 25) (dNil)))) (dBin fEq (dCall (fun ts => if ts.length = 2 then d__law_after ts else bot) (dCons (dVar 18) (dCons (dVar 25) (dNil)))) (dVar 26)))) (dNil)))) (dVar 18))) t_law_20
def t_law_18 : DS := dSeq (dAsg (.nm 16) (dLc false [18] (dSrc (dCall (fun ts => if ts.length = 1 then d__law_deeds ts else bot) (dCons (dVar 11) (dNil)))) (.nm 18) (dYes) (dBin fAdd (dVar 18) (dTup (dCons (dC (.int 0)) (dNil)))))) t_law_19
def t_law_17 : DS := dSeq (dAsg (.nm 15) (dCall (fun ts => if ts.length = 2 then d_learnt ts else bot) (dCons (dVar 11) (dCons (dCall fTuple (dCons (dVar 13) (dNil))) (dNil))))) t_law_18
def t_law_16 : DS := dSeq (dIfS (dB (dBin fEq (dCall (fun ts => if ts.length = 2 then d__law_take ts else bot) (dCons (dVar 1) (dCons (dC (.int 4)) (dNil)))) (dC (.int 0)))) (dSet (dTup (dCons (dBin fIx (dBin fIx (dVar 13) (dC (.int 0))) (dC (.int 0))) (dCons (dCall fTuple (dCons (dLc false [24] (dRng1 (dCons (dVar 11) (dNil))) (.nm 24) (dB (dBin fEq (dCall (fun ts => if ts.length = 2 then d__law_take ts else bot) (dCons (dVar 1) (dCons (dC (.int 2)) (dNil)))) (dC (.int 0)))) (dVar 24)) (dNil))) (dNil)))) (dVar 13) (dC (.int 0))) (dNx)) t_law_17
def t_law_15 : DS := dSeq (dIfS (dB (dBin fEq (dCall fLen (dCons (dVar 13) (dNil))) (dC (.int 0)))) (dSeq (dAsg (.nm 14) (dBin fIx (dVar 12) (dC (.int 0)))) (dExpr (dMeth .list fAppend (dVar 13) (dCons (dTup (dCons (dVar 14) (dCons (dCall (fun ts => if ts.length = 2 then d__law_after ts else bot) (dCons (dVar 12) (dCons (dVar 14) (dNil)))) (dNil)))) (dNil))))) (dNx)) t_law_16
def t_law_14 : DS := dSeq (dFor (dSrc (dCall (fun ts => if ts.length = 1 then d__law_subsets ts else bot) (dCons (dRgv1 true false (dVar 11)) (dNil)))) (.nm 14) (dSeq (dAsg (.nm 14) (dCall fTuple (dCons (dCall (fSorted false) (dCons (dVar 14) (dNil))) (dNil)))) (dIfS (dAnd (dTru (dCall (fun ts => if ts.length = 2 then d__law_fits ts else bot) (dCons (dVar 12) (dCons (dVar 14) (dNil))))) (dB (dBin fEq (dCall (fun ts => if ts.length = 2 then d__law_take ts else bot) (dCons (dVar 1) (dCons (dC (.int 2)) (dNil)))) (dC (.int 0))))) (dExpr (dMeth .list fAppend (dVar 13) (dCons (dTup (dCons (dVar 14) (dCons (dCall (fun ts => if ts.length = 2 then d__law_after ts else bot) (dCons (dVar 12) (dCons (dVar 14) (dNil)))) (dNil)))) (dNil)))) (dNx)))) t_law_15
def t_law_13 : DS := dSeq (dAsg (.nm 13) (dLstO (dNil))) t_law_14
def t_law_12 : DS := dSeq (dAsg (.nm 12) (dCall (fun ts => if ts.length = 2 then d__law_deed ts else bot) (dCons (dVar 1) (dCons (dVar 11) (dNil))))) t_law_13
def t_law_11 : DS := dSeq (dAsg (.nm 11) (dBin fAdd (dC (.int 1)) (dCall (fun ts => if ts.length = 2 then d__law_take ts else bot) (dCons (dVar 1) (dCons (dC (.int 3)) (dNil)))))) t_law_12
def t_law_10 : DS := dSeq (dIfS (dOr (dB (dBin fNe (dCall (fun ts => if ts.length = 1 then d_too_much ts else bot) (dCons (dVar 3) (dNil))) (dBin fIx (dCall fMinD (dCons (dVar 7) (dNil))) (dC (.int 1))))) (dB (dBin fNe (dBin fEq (dCall (fun ts => if ts.length = 1 then d_too_much ts else bot) (dCons (dVar 3) (dNil))) (dTup (dNil))) (dBin fEq (dCall (fun ts => if ts.length = 1 then d_missing_facts ts else bot) (dCons (dVar 3) (dNil))) (dTup (dNil)))))) (dRet (dC (.bl false))) (dNx)) t_law_11
def t_law_9 : DS := dSeq (dFor (dSrc (dVar 8)) (.nm 9) (dSeq (dAsg (.nm 10) (dTup (dCons (dCall fTuple (dCons (dLc false [24] (dSrc (dBin fIx (dVar 5) (dC (.int 0)))) (.nm 24) (dB (dBin fNotIn (dVar 24) (dVar 9))) (dVar 24)) (dNil))) (dCons (dCall fTuple (dCons (dLc false [24] (dSrc (dBin fIx (dVar 5) (dC (.int 1)))) (.nm 24) (dB (dBin fNotIn (dVar 24) (dVar 9))) (dVar 24)) (dNil))) (dNil))))) (dIfS (dTru (dCall (fun ts => if ts.length = 3 then d__law_can ts else bot) (dCons (dVar 3) (dCons (dVar 4) (dCons (dVar 10) (dNil)))))) (dExpr (dMeth .list fAppend (dVar 7) (dCons (dTup (dCons (dCall fLen (dCons (dVar 9) (dNil))) (dCons (dVar 9) (dNil)))) (dNil)))) (dNx)))) t_law_10
def t_law_8 : DS := dSeq (dAsg (.nm 7) (dLstO (dNil))) t_law_9
def t_law_7 : DS := dSeq (dAsg (.nm 8) (dLc false [9] (dSrc (dCall (fun ts => if ts.length = 1 then d__law_subsets ts else bot) (dCons (dCall fTuple (dCons (dCall (fSorted false) (dCons (dBin fAdd (dBin fIx (dVar 5) (dC (.int 0))) (dBin fIx (dVar 5) (dC (.int 1)))) (dNil))) (dNil))) (dNil)))) (.nm 9) (dYes) (dCall fTuple (dCons (dCall (fSorted false) (dCons (dVar 9) (dNil))) (dNil))))) t_law_8
def t_law_6 : DS := dSeq (dIfS (dB (dBin fNe (dCall (fun ts => if ts.length = 1 then d_missing_facts ts else bot) (dCons (dVar 3) (dNil))) (dIf (dB (dBin fGt (dCall fLen (dCons (dVar 7) (dNil))) (dC (.int 0)))) (dBin fIx (dBin fIx (dVar 7) (dC (.int 0))) (dC (.int 1))) (dC .non)))) (dRet (dC (.bl false))) (dNx)) t_law_7
def t_law_5 : DS := dSeq (dAsg (.nm 7) (dCall (fSorted true) (dCons (dLc false [9] (dSrc (dVar 6)) (.nm 9) (dTru (dCall (fun ts => if ts.length = 3 then d__law_can ts else bot) (dCons (dVar 3) (dCons (dCall fTuple (dCons (dCall (fSorted false) (dCons (dBin fAdd (dVar 4) (dVar 9)) (dNil))) (dNil))) (dCons (dVar 5) (dNil)))))) (dTup (dCons (dCall fLen (dCons (dVar 9) (dNil))) (dCons (dVar 9) (dNil))))) (dNil)))) t_law_6
def t_law_4 : DS := dSeq (dAsg (.nm 6) (dLc false [9] (dSrc (dCall (fun ts => if ts.length = 1 then d__law_subsets ts else bot) (dCons (dCall fTuple (dCons (dLc false [24] (dRng1 (dCons (dVar 2) (dNil))) (.nm 24) (dB (dBin fNotIn (dVar 24) (dVar 4))) (dVar 24)) (dNil))) (dNil)))) (.nm 9) (dYes) (dCall fTuple (dCons (dCall (fSorted false) (dCons (dVar 9) (dNil))) (dNil))))) t_law_5
def t_law_3 : DS := dSeq (dAsg (.tup [.nm 4, .nm 5]) (dTup (dCons (dBin fIx (dVar 3) (dC (.int 2))) (dCons (dBin fIx (dVar 3) (dC (.int 3))) (dNil))))) t_law_4
def t_law_2 : DS := dSeq (dAsg (.nm 3) (dCall (fun ts => if ts.length = 3 then d__law_world ts else bot) (dCons (dVar 1) (dCons (dVar 2) (dCons (dCall (fun ts => if ts.length = 2 then d__law_take ts else bot) (dCons (dVar 1) (dCons (dC (.int 6)) (dNil)))) (dNil)))))) t_law_3
def t_law_1 : DS := dSeq (dAsg (.nm 2) (dBin fAdd (dC (.int 1)) (dCall (fun ts => if ts.length = 2 then d__law_take ts else bot) (dCons (dVar 1) (dCons (dC (.int 4)) (dNil)))))) t_law_2
def b_law : DS := dSeq (dAsg (.nm 1) (dCall (fun ts => if ts.length = 1 then d__law_tape ts else bot) (dCons (dVar 0) (dNil)))) t_law_1
def d_law : List T → M T := dDef false 1 27 b_law
theorem sc_law : FnScope ["script", "tape", "many", "world", "start", "goal", "parts", "fits", "rows", "part", "less", "few", "deed", "samples", "state", "told", "every", "good", "row", "needs", "bars", "adds", "drops", "cost", "fact", "one", "other"] ["script"] (defScope s_law) := ⟨rfl, rfl, rfl, by decide +kernel, rfl, by decide +kernel, by decide +kernel⟩
theorem bd_law (e : Env K mg base) : Binds K e.fd_law ["script"] [] := e.F_law.bindsN fun _ _ _ _ _ _ us hl => match us, hl with | [_], _ => rfl
theorem ok_law (e : Env K mg base) : FnOk P w K mg base (L2.CX P w) 6 e.a_law e.fd_law ["script"] (spD K mg 1 d_law) := by
  have nd := sc_law.nd
  refine FunD.okC e.F_law sc_law (fun vs H Q E h => h.1) (fun A outer s H vs Q E hr h => ⟨tS K mg E b_law, ?_, def_read h⟩)
  have tk := tk_def (CX := L2.CX P w) (P := P) (w := w) (K := K) (mg := mg) (base := base) (N := ["script", "tape", "many", "world", "start", "goal", "parts", "fits", "rows", "part", "less", "few", "deed", "samples", "state", "told", "every", "good", "row", "needs", "bars", "adds", "drops", "cost", "fact", "one", "other"]) (q := "law") (sc := defScope s_law) (f := e.a_law) (cd := e.fd_law.code) (A := A) (outer := outer) (s := s) (H := H) (E := E)
  have po := po_def (CX := L2.CX P w) (P := P) (w := w) (K := K) (mg := mg) (base := base) (N := ["script", "tape", "many", "world", "start", "goal", "parts", "fits", "rows", "part", "less", "few", "deed", "samples", "state", "told", "every", "good", "row", "needs", "bars", "adds", "drops", "cost", "fact", "one", "other"]) (q := "law") (sc := defScope s_law) (f := e.a_law) (cd := e.fd_law.code) (A := A) (outer := outer) (s := s) (H := H) (E := E)
  have hx := ps_def tk
  exact pdss_cons (pds_set 1 nd (pd_call (ok__law_tape e) (hr.mono (by decide)) rfl e.g__law_tape e.F__law_tape.kp (bd__law_tape e) pass0 (pda_cons (pv' 0) (pda_nil)))) (pdss_cons (pds_set 2 nd (pd_add (pd_int) (pd_call (ok__law_take e) (hr.mono (by decide)) rfl e.g__law_take e.F__law_take.kp (bd__law_take e) pass0 (pda_cons (pv' 1) (pda_cons (pd_int) (pda_nil)))))) (pdss_cons (pds_set 3 nd (pd_call (ok__law_world e) (hr.mono (by decide)) rfl e.g__law_world e.F__law_world.kp (bd__law_world e) pass0 (pda_cons (pv' 1) (pda_cons (pv' 2) (pda_cons (pd_call (ok__law_take e) (hr.mono (by decide)) rfl e.g__law_take e.F__law_take.kp (bd__law_take e) pass0 (pda_cons (pv' 1) (pda_cons (pd_int) (pda_nil)))) (pda_nil)))))) (pdss_cons (pds_asg (pd_tup (pda_cons (pd_ix (hu65 hr) (pv' 3) (pd_int)) (pda_cons (pd_ix (hu65 hr) (pv' 3) (pd_int)) (pda_nil)))) (pgd_tup rfl (pgds_cons (pgd_name 4 nd) (pgds_cons (pgd_name 5 nd) (pgds_nil))))) (pdss_cons (pds_setLc false [("part", 9)] 6 rfl nd (sw_true rfl rfl rfl rfl) (pid_src (pd_call (ok__law_subsets e) (hr.mono (by decide)) rfl e.g__law_subsets e.F__law_subsets.kp (bd__law_subsets e) pass0 (pda_cons (pd_callTy b_tuple call_tuple_of rfl e.n_tuple bt_tuple (pda_cons (pd_lc false [("fact", 24)] rfl nd (pid_rng1 rfl e.n_range (pda_cons (pv' 2) (pda_nil))) (by kernel_rfl) (fun _ _ _ _ _ => pgd_name 24 nd) (fun _ _ _ _ _ => ptd_one (pt_cmp' (or_notin (hu65 hr)) o2_notin (pv' 24) (pv' 4))) (fun _ _ _ _ _ => pv' 24)) (pda_nil))) (pda_nil)))) (by kernel_rfl) (fun _ _ _ _ _ => pgd_name 9 nd) (fun _ _ _ _ _ => ptd_nil) (fun _ _ _ _ _ => pd_callTy b_tuple call_tuple_of rfl e.n_tuple bt_tuple (pda_cons (pd_callB b_sorted (cr_sortedA rfl (hu66 hr)) rfl e.n_sorted bt_sorted (pda_cons (pv' 9) (pda_nil))) (pda_nil)))) (pdss_cons (pds_set 7 nd (pd_callB b_sorted (cr_sortedA rfl (hu66 hr)) rfl e.n_sorted bt_sorted (pda_cons (pd_lc false [("part", 9)] rfl nd (pid_src (pv' 6)) (by kernel_rfl) (fun _ _ _ _ _ => pgd_name 9 nd) (fun _ _ _ _ _ => ptd_one (pt_tru (pd_call (ok__law_can e) (hr.mono (by decide)) rfl e.g__law_can e.F__law_can.kp (bd__law_can e) pass0 (pda_cons (pv' 3) (pda_cons (pd_callTy b_tuple call_tuple_of rfl e.n_tuple bt_tuple (pda_cons (pd_callB b_sorted (cr_sortedA rfl (hu66 hr)) rfl e.n_sorted bt_sorted (pda_cons (pd_add (pv' 4) (pv' 9)) (pda_nil))) (pda_nil))) (pda_cons (pv' 5) (pda_nil))))))) (fun _ _ _ _ _ => pd_tup (pda_cons (pd_callB b_len cr_len rfl e.n_len bt_len (pda_cons (pv' 9) (pda_nil))) (pda_cons (pv' 9) (pda_nil))))) (pda_nil)))) (pdss_cons (pds_if (pt_cmp' (op_neD (hu64 hr)) o2_ne (pd_call (ok_missing_facts e) (hr.mono (by decide)) rfl e.g_missing_facts e.F_missing_facts.kp (bd_missing_facts e) hx (pda_cons (pv' 3) (pda_nil))) (pd_if (pt_cmp' op_gt o2_gt (pd_callB b_len cr_len rfl e.n_len bt_len (pda_cons (pv' 7) (pda_nil))) (pd_int)) (pd_ix (hu65 hr) (pd_ix (hu65 hr) (pv' 7) (pd_int)) (pd_int)) (pd_non))) (pdss_one (pds_ret (pd_bl))) (pdss_nil)) (pdss_cons (pds_setLc false [("part", 9)] 8 rfl nd (sw_true rfl rfl rfl rfl) (pid_src (pd_call (ok__law_subsets e) (hr.mono (by decide)) rfl e.g__law_subsets e.F__law_subsets.kp (bd__law_subsets e) pass0 (pda_cons (pd_callTy b_tuple call_tuple_of rfl e.n_tuple bt_tuple (pda_cons (pd_callB b_sorted (cr_sortedA rfl (hu66 hr)) rfl e.n_sorted bt_sorted (pda_cons (pd_add (pd_ix (hu65 hr) (pv' 5) (pd_int)) (pd_ix (hu65 hr) (pv' 5) (pd_int))) (pda_nil))) (pda_nil))) (pda_nil)))) (by kernel_rfl) (fun _ _ _ _ _ => pgd_name 9 nd) (fun _ _ _ _ _ => ptd_nil) (fun _ _ _ _ _ => pd_callTy b_tuple call_tuple_of rfl e.n_tuple bt_tuple (pda_cons (pd_callB b_sorted (cr_sortedA rfl (hu66 hr)) rfl e.n_sorted bt_sorted (pda_cons (pv' 9) (pda_nil))) (pda_nil)))) (pdss_cons (pds_set 7 nd (pd_lstO (pda_nil))) (pdss_cons (pds_for po rfl (pid_src (pv' 8)) (pgd_name 9 nd) (pdss_cons (pds_set 10 nd (pd_tup (pda_cons (pd_callTy b_tuple call_tuple_of rfl e.n_tuple bt_tuple (pda_cons (pd_lc false [("fact", 24)] rfl nd (pid_src (pd_ix (hu65 hr) (pv' 5) (pd_int))) (by kernel_rfl) (fun _ _ _ _ _ => pgd_name 24 nd) (fun _ _ _ _ _ => ptd_one (pt_cmp' (or_notin (hu65 hr)) o2_notin (pv' 24) (pv' 9))) (fun _ _ _ _ _ => pv' 24)) (pda_nil))) (pda_cons (pd_callTy b_tuple call_tuple_of rfl e.n_tuple bt_tuple (pda_cons (pd_lc false [("fact", 24)] rfl nd (pid_src (pd_ix (hu65 hr) (pv' 5) (pd_int))) (by kernel_rfl) (fun _ _ _ _ _ => pgd_name 24 nd) (fun _ _ _ _ _ => ptd_one (pt_cmp' (or_notin (hu65 hr)) o2_notin (pv' 24) (pv' 9))) (fun _ _ _ _ _ => pv' 24)) (pda_nil))) (pda_nil))))) (pdss_one (pds_if (pt_tru (pd_call (ok__law_can e) (hr.mono (by decide)) rfl e.g__law_can e.F__law_can.kp (bd__law_can e) pass0 (pda_cons (pv' 3) (pda_cons (pv' 4) (pda_cons (pv' 10) (pda_nil)))))) (pdss_one (pds_expr (pd_meth (ty := .list) m_append PySem.F.plainAttrs_list PySem.F.slot_list_append PySem.F.type_list_append mt_append (pv' 7) (pda_cons (pd_tup (pda_cons (pd_callB b_len cr_len rfl e.n_len bt_len (pda_cons (pv' 9) (pda_nil))) (pda_cons (pv' 9) (pda_nil)))) (pda_nil))))) (pdss_nil))))) (pdss_cons (pds_if (pt_w (pw_or' (pt_cmp' (op_neD (hu64 hr)) o2_ne (pd_call (ok_too_much e) (hr.mono (by decide)) rfl e.g_too_much e.F_too_much.kp (bd_too_much e) hx (pda_cons (pv' 3) (pda_nil))) (pd_ix (hu65 hr) (pd_callB b_minD (cr_minD rfl (hu66 hr)) rfl e.n_min bt_min (pda_cons (pv' 7) (pda_nil))) (pd_int))) (pw_one_or (pt_cmp' (op_neD (hu64 hr)) o2_ne (pd_cmp (op_eqD (hu64 hr)) o2_eq (pd_call (ok_too_much e) (hr.mono (by decide)) rfl e.g_too_much e.F_too_much.kp (bd_too_much e) hx (pda_cons (pv' 3) (pda_nil))) (pd_tup (pda_nil))) (pd_cmp (op_eqD (hu64 hr)) o2_eq (pd_call (ok_missing_facts e) (hr.mono (by decide)) rfl e.g_missing_facts e.F_missing_facts.kp (bd_missing_facts e) hx (pda_cons (pv' 3) (pda_nil))) (pd_tup (pda_nil))))))) (pdss_one (pds_ret (pd_bl))) (pdss_nil)) (pdss_cons (pds_set 11 nd (pd_add (pd_int) (pd_call (ok__law_take e) (hr.mono (by decide)) rfl e.g__law_take e.F__law_take.kp (bd__law_take e) pass0 (pda_cons (pv' 1) (pda_cons (pd_int) (pda_nil)))))) (pdss_cons (pds_set 12 nd (pd_call (ok__law_deed e) (hr.mono (by decide)) rfl e.g__law_deed e.F__law_deed.kp (bd__law_deed e) pass0 (pda_cons (pv' 1) (pda_cons (pv' 11) (pda_nil))))) (pdss_cons (pds_set 13 nd (pd_lstO (pda_nil))) (pdss_cons (pds_for po rfl (pid_src (pd_call (ok__law_subsets e) (hr.mono (by decide)) rfl e.g__law_subsets e.F__law_subsets.kp (bd__law_subsets e) pass0 (pda_cons (pd_tupRg1 rfl rfl e.n_tuple rfl e.n_range (pv' 11)) (pda_nil)))) (pgd_name 14 nd) (pdss_cons (pds_set 14 nd (pd_callTy b_tuple call_tuple_of rfl e.n_tuple bt_tuple (pda_cons (pd_callB b_sorted (cr_sortedA rfl (hu66 hr)) rfl e.n_sorted bt_sorted (pda_cons (pv' 14) (pda_nil))) (pda_nil)))) (pdss_one (pds_if (pt_w (pw_and' (pt_tru (pd_call (ok__law_fits e) (hr.mono (by decide)) rfl e.g__law_fits e.F__law_fits.kp (bd__law_fits e) pass0 (pda_cons (pv' 12) (pda_cons (pv' 14) (pda_nil))))) (pw_one_and (pt_cmp' (op_eqD (hu64 hr)) o2_eq (pd_call (ok__law_take e) (hr.mono (by decide)) rfl e.g__law_take e.F__law_take.kp (bd__law_take e) pass0 (pda_cons (pv' 1) (pda_cons (pd_int) (pda_nil)))) (pd_int))))) (pdss_one (pds_expr (pd_meth (ty := .list) m_append PySem.F.plainAttrs_list PySem.F.slot_list_append PySem.F.type_list_append mt_append (pv' 13) (pda_cons (pd_tup (pda_cons (pv' 14) (pda_cons (pd_call (ok__law_after e) (hr.mono (by decide)) rfl e.g__law_after e.F__law_after.kp (bd__law_after e) pass0 (pda_cons (pv' 12) (pda_cons (pv' 14) (pda_nil)))) (pda_nil)))) (pda_nil))))) (pdss_nil))))) (pdss_cons (pds_if (pt_cmp' (op_eqD (hu64 hr)) o2_eq (pd_callB b_len cr_len rfl e.n_len bt_len (pda_cons (pv' 13) (pda_nil))) (pd_int)) (pdss_cons (pds_set 14 nd (pd_ix (hu65 hr) (pv' 12) (pd_int))) (pdss_one (pds_expr (pd_meth (ty := .list) m_append PySem.F.plainAttrs_list PySem.F.slot_list_append PySem.F.type_list_append mt_append (pv' 13) (pda_cons (pd_tup (pda_cons (pv' 14) (pda_cons (pd_call (ok__law_after e) (hr.mono (by decide)) rfl e.g__law_after e.F__law_after.kp (bd__law_after e) pass0 (pda_cons (pv' 12) (pda_cons (pv' 14) (pda_nil)))) (pda_nil)))) (pda_nil)))))) (pdss_nil)) (pdss_cons (pds_if (pt_cmp' (op_eqD (hu64 hr)) o2_eq (pd_call (ok__law_take e) (hr.mono (by decide)) rfl e.g__law_take e.F__law_take.kp (bd__law_take e) pass0 (pda_cons (pv' 1) (pda_cons (pd_int) (pda_nil)))) (pd_int)) (pdss_one (pds_sub (hu65 hr) (pd_tup (pda_cons (pd_ix (hu65 hr) (pd_ix (hu65 hr) (pv' 13) (pd_int)) (pd_int)) (pda_cons (pd_callTy b_tuple call_tuple_of rfl e.n_tuple bt_tuple (pda_cons (pd_lc false [("fact", 24)] rfl nd (pid_rng1 rfl e.n_range (pda_cons (pv' 11) (pda_nil))) (by kernel_rfl) (fun _ _ _ _ _ => pgd_name 24 nd) (fun _ _ _ _ _ => ptd_one (pt_cmp' (op_eqD (hu64 hr)) o2_eq (pd_call (ok__law_take e) (hr.mono (by decide)) rfl e.g__law_take e.F__law_take.kp (bd__law_take e) pass0 (pda_cons (pv' 1) (pda_cons (pd_int) (pda_nil)))) (pd_int))) (fun _ _ _ _ _ => pv' 24)) (pda_nil))) (pda_nil)))) (pv' 13) (pd_int))) (pdss_nil)) (pdss_cons (pds_set 15 nd (pd_call (ok_learnt e) (hr.mono (by decide)) rfl e.g_learnt e.F_learnt.kp (bd_learnt e) hx (pda_cons (pv' 11) (pda_cons (pd_callTy b_tuple call_tuple_of rfl e.n_tuple bt_tuple (pda_cons (pv' 13) (pda_nil))) (pda_nil))))) (pdss_cons (pds_setLc false [("row", 18)] 16 rfl nd (sw_true rfl rfl rfl rfl) (pid_src (pd_call (ok__law_deeds e) (hr.mono (by decide)) rfl e.g__law_deeds e.F__law_deeds.kp (bd__law_deeds e) pass0 (pda_cons (pv' 11) (pda_nil)))) (by kernel_rfl) (fun _ _ _ _ _ => pgd_name 18 nd) (fun _ _ _ _ _ => ptd_nil) (fun _ _ _ _ _ => pd_add (pv' 18) (pd_tup (pda_cons (pd_int) (pda_nil))))) (pdss_cons (pds_setLc false [("row", 18)] 17 rfl nd (sw_true rfl rfl rfl rfl) (pid_src (pv' 16)) (by kernel_rfl) (fun _ _ _ _ _ => pgd_name 18 nd) (fun _ _ _ _ _ => ptd_one (pt_tru (pd_callB b_all (cr_all rfl) rfl e.n_all bt_all (pda_cons (pd_lc false [("one", 25), ("other", 26)] rfl nd (pid_src (pv' 13)) (by kernel_rfl) (fun _ _ _ _ _ => pgd_tup rfl (pgds_cons (pgd_name 25 nd) (pgds_cons (pgd_name 26 nd) (pgds_nil)))) (fun _ _ _ _ _ => ptd_nil) (fun _ _ _ _ _ => pd_and (pd_call (ok__law_fits e) (hr.mono (by decide)) rfl e.g__law_fits e.F__law_fits.kp (bd__law_fits e) pass0 (pda_cons (pv' 18) (pda_cons (pv' 25) (pda_nil)))) (pd_one (pd_cmp (op_eqD (hu64 hr)) o2_eq (pd_call (ok__law_after e) (hr.mono (by decide)) rfl e.g__law_after e.F__law_after.kp (bd__law_after e) pass0 (pda_cons (pv' 18) (pda_cons (pv' 25) (pda_nil)))) (pv' 26))))) (pda_nil))))) (fun _ _ _ _ _ => pv' 18)) (pdss_cons (pds_if (pt_cmp' (op_neD (hu64 hr)) o2_ne (pd_cmp or_is o2_is (pv' 15) (pd_non)) (pd_cmp (op_eqD (hu64 hr)) o2_eq (pd_callB b_len cr_len rfl e.n_len bt_len (pda_cons (pv' 17) (pda_nil))) (pd_int))) (pdss_one (pds_ret (pd_bl))) (pdss_nil)) (pdss_cons (pds_for po rfl (pid_src (pd_slice (pv' 16) (pdo_none) (pdo_some (pd_int)))) (pgd_name 18 nd) (pdss_one (pds_if (pt_cmp' (op_neD (hu64 hr)) o2_ne (pd_call (ok_explains e) (hr.mono (by decide)) rfl e.g_explains e.F_explains.kp (bd_explains e) pass0 (pda_cons (pv' 18) (pda_cons (pd_callTy b_tuple call_tuple_of rfl e.n_tuple bt_tuple (pda_cons (pv' 13) (pda_nil))) (pda_nil)))) (pd_cmp (or_in (hu65 hr)) o2_in (pv' 18) (pv' 17))) (pdss_one (pds_ret (pd_bl))) (pdss_nil)))) (pdss_cons (pds_if (pt_cmp' or_not o2_not (pv' 15) (pd_non)) (pdss_cons (pds_if (pt_w (pw_or' (pt_cmp' (or_notin (hu65 hr)) o2_notin (pd_add (pv' 15) (pd_tup (pda_cons (pd_int) (pda_nil)))) (pv' 17)) (pw_one_or (pt_cmp' (op_neD (hu64 hr)) o2_ne (pd_call (ok_explains e) (hr.mono (by decide)) rfl e.g_explains e.F_explains.kp (bd_explains e) pass0 (pda_cons (pv' 12) (pda_cons (pd_callTy b_tuple call_tuple_of rfl e.n_tuple bt_tuple (pda_cons (pv' 13) (pda_nil))) (pda_nil)))) (pd_callB b_all (cr_all rfl) rfl e.n_all bt_all (pda_cons (pd_lc false [("one", 25), ("other", 26)] rfl nd (pid_src (pv' 13)) (by kernel_rfl) (fun _ _ _ _ _ => pgd_tup rfl (pgds_cons (pgd_name 25 nd) (pgds_cons (pgd_name 26 nd) (pgds_nil)))) (fun _ _ _ _ _ => ptd_nil) (fun _ _ _ _ _ => pd_and (pd_call (ok__law_fits e) (hr.mono (by decide)) rfl e.g__law_fits e.F__law_fits.kp (bd__law_fits e) pass0 (pda_cons (pv' 12) (pda_cons (pv' 25) (pda_nil)))) (pd_one (pd_cmp (op_eqD (hu64 hr)) o2_eq (pd_call (ok__law_after e) (hr.mono (by decide)) rfl e.g__law_after e.F__law_after.kp (bd__law_after e) pass0 (pda_cons (pv' 12) (pda_cons (pv' 25) (pda_nil)))) (pv' 26))))) (pda_nil))))))) (pdss_one (pds_ret (pd_bl))) (pdss_nil)) (pdss_one (pds_for po rfl (pid_src (pv' 17)) (pgd_tup rfl (pgds_cons (pgd_name 19 nd) (pgds_cons (pgd_name 20 nd) (pgds_cons (pgd_name 21 nd) (pgds_cons (pgd_name 22 nd) (pgds_cons (pgd_name 23 nd) (pgds_nil))))))) (pdss_cons (pds_if (pt_w (pw_or' (pt_tru (pd_callB b_any (cr_any rfl) rfl e.n_any bt_any (pda_cons (pd_lc false [("fact", 24)] rfl nd (pid_src (pv' 19)) (by kernel_rfl) (fun _ _ _ _ _ => pgd_name 24 nd) (fun _ _ _ _ _ => ptd_nil) (fun _ _ _ _ _ => pd_cmp (or_notin (hu65 hr)) o2_notin (pv' 24) (pd_ix (hu65 hr) (pv' 15) (pd_int)))) (pda_nil)))) (pw_one_or (pt_tru (pd_callB b_any (cr_any rfl) rfl e.n_any bt_any (pda_cons (pd_lc false [("fact", 24)] rfl nd (pid_src (pv' 20)) (by kernel_rfl) (fun _ _ _ _ _ => pgd_name 24 nd) (fun _ _ _ _ _ => ptd_nil) (fun _ _ _ _ _ => pd_cmp (or_notin (hu65 hr)) o2_notin (pv' 24) (pd_ix (hu65 hr) (pv' 15) (pd_int)))) (pda_nil))))))) (pdss_one (pds_ret (pd_bl))) (pdss_nil)) (pdss_one (pds_if (pt_w (pw_or' (pt_tru (pd_callB b_any (cr_any rfl) rfl e.n_any bt_any (pda_cons (pd_lc false [("fact", 24)] rfl nd (pid_src (pd_ix (hu65 hr) (pv' 15) (pd_int))) (by kernel_rfl) (fun _ _ _ _ _ => pgd_name 24 nd) (fun _ _ _ _ _ => ptd_nil) (fun _ _ _ _ _ => pd_cmp (or_notin (hu65 hr)) o2_notin (pv' 24) (pv' 21))) (pda_nil)))) (pw_one_or (pt_tru (pd_callB b_any (cr_any rfl) rfl e.n_any bt_any (pda_cons (pd_lc false [("fact", 24)] rfl nd (pid_src (pd_ix (hu65 hr) (pv' 15) (pd_int))) (by kernel_rfl) (fun _ _ _ _ _ => pgd_name 24 nd) (fun _ _ _ _ _ => ptd_nil) (fun _ _ _ _ _ => pd_cmp (or_notin (hu65 hr)) o2_notin (pv' 24) (pv' 22))) (pda_nil))))))) (pdss_one (pds_ret (pd_bl))) (pdss_nil))))))) (pdss_nil)) (pdss_one (pds_ret (pd_refusedF (k := 2) e.F__law_refused rfl e.g__law_refused (bd__law_refused e) sc__law_refused rfl (.inl rfl) (fun _ => ref_gives rfl e.e__law_refused (by decide) (fun _ => rfl)) e.kt_law rfl (hr.mono (by decide)) (LamX.lamS_by (by kernel_rfl)) rfl (fun _ _ _ _ _ => rfl) e.xs__law_refused (fun _ _ _ _ _ _ _ hr => pd_call (ok_learnt e) (hr.mono (by decide)) rfl e.g_learnt e.F_learnt.kp (bd_learnt e) (ps_def tk_lam) (pda_cons (pv' 11) (pda_cons (pd_tup (pda_nil)) (pda_nil)))))))))))))))))))))))))))))
end
end Z

/-! P1: what denotations compute, on encoded data. -/
namespace Z
open PySem
/-! ### encodings -/
class EO {α : Type} [DecidableEq α] (e : α → T) (d : outParam Nat) : Prop where
  lay : ∀ x, (e x).py.canLay0 = true
  dep : ∀ x, (e x).py.depth ≤ d
  eqv : ∀ x y, PyData.eqv (e x).py (e y).py = decide (x = y)
  low : ∀ x n, (e x).low n = true
theorem pysMap {α : Type} (e : α → T) : ∀ l : List α, T.pys (l.map e) = l.map fun x => (e x).py
  | [] => rfl
  | x :: l => by simp [T.pys, pysMap e l]
theorem lays_map {α : Type} (e : α → PyData) (h : ∀ x, (e x).canLay0 = true) : ∀ l : List α, PyData.canLayAll0 (l.map e) = true
  | [] => rfl
  | x :: l => by simp [PyData.canLayAll0, h x, lays_map e h l]
theorem deps_map {α : Type} (e : α → PyData) {n : Nat} (h : ∀ x, (e x).depth ≤ n) : ∀ l : List α, PyData.depthAll (l.map e) ≤ n
  | [] => by simp [PyData.depthAll]
  | x :: l => by
    have h1 := deps_map e h l
    have h2 := h x
    simp only [List.map_cons, PyData.depthAll]
    omega
theorem lows_map {α : Type} (e : α → T) {n : Nat} (h : ∀ x, (e x).low n = true) : ∀ l : List α, T.lows n (l.map e) = true
  | [] => rfl
  | x :: l => by simp [T.lows, h x, lows_map e h l]
theorem eqvs_map {α : Type} [DecidableEq α] (e : α → PyData) (h : ∀ x y, PyData.eqv (e x) (e y) = decide (x = y)) : ∀ l m : List α, PyData.eqvAll (l.map e) (m.map e) = decide (l = m)
  | [], [] => by simp [PyData.eqvAll]
  | [], y :: m => by simp [PyData.eqvAll]
  | x :: l, [] => by simp [PyData.eqvAll]
  | x :: l, y :: m => by
    simp only [List.map_cons, PyData.eqvAll, h x y, eqvs_map e h l m]
    by_cases h1 : x = y <;> by_cases h2 : l = m <;> simp [h1, h2]
instance : EO T.int 0 := ⟨fun x => rfl, fun x => Nat.le_refl _, fun x y => by
  show (x == y) = decide (x = y)
  by_cases h : x = y <;> simp [h], fun x n => rfl⟩
instance : EO T.bl 0 := ⟨fun x => rfl, fun x => Nat.le_refl _, fun x y => by
  show (x == y) = decide (x = y)
  by_cases h : x = y <;> simp [h], fun x n => rfl⟩
/-- a tuple of alike things -/
def eT {α : Type} (e : α → T) (l : List α) : T := .tup (l.map e)
def eL {α : Type} (e : α → T) (l : List α) : T := .lst (l.map e)
def eP {α β : Type} (e : α → T) (f : β → T) (p : α × β) : T := .tup [e p.1, f p.2]
section
variable {α β : Type} [DecidableEq α] [DecidableEq β] {e : α → T} {f : β → T} {d d2 : Nat}
instance [i : EO e d] : EO (eT e) (d + 1) := by
  refine ⟨fun l => ?_, fun l => ?_, fun x y => ?_, fun l n => ?_⟩
  · show PyData.canLayAll0 (T.pys (List.map e l)) = true
    rw [pysMap]
    exact lays_map _ i.lay l
  · show PyData.depthAll (T.pys (List.map e l)) + 1 ≤ d + 1
    rw [pysMap]
    exact Nat.succ_le_succ (deps_map _ i.dep l)
  · show PyData.eqvAll (T.pys (List.map e x)) (T.pys (List.map e y)) = _
    rw [pysMap, pysMap]
    exact eqvs_map _ i.eqv x y
  · exact lows_map e (fun x => i.low x n) l
instance [i : EO e d] : EO (eL e) (d + 1) := by
  refine ⟨fun l => ?_, fun l => ?_, fun x y => ?_, fun l n => ?_⟩
  · show PyData.canLayAll0 (T.pys (List.map e l)) = true
    rw [pysMap]
    exact lays_map _ i.lay l
  · show PyData.depthAll (T.pys (List.map e l)) + 1 ≤ d + 1
    rw [pysMap]
    exact Nat.succ_le_succ (deps_map _ i.dep l)
  · show PyData.eqvAll (T.pys (List.map e x)) (T.pys (List.map e y)) = _
    rw [pysMap, pysMap]
    exact eqvs_map _ i.eqv x y
  · exact lows_map e (fun x => i.low x n) l
instance [i : EO e d] [j : EO f d2] : EO (eP e f) (max d d2 + 1) := by
  refine ⟨fun p => ?_, fun p => ?_, fun x y => ?_, fun p n => ?_⟩
  · show PyData.canLayAll0 [(e p.1).py, (f p.2).py] = true
    simp [PyData.canLayAll0, i.lay, j.lay]
  · show PyData.depthAll [(e p.1).py, (f p.2).py] + 1 ≤ _
    have h1 := i.dep p.1
    have h2 := j.dep p.2
    simp only [PyData.depthAll]
    omega
  · show PyData.eqvAll [(e x.1).py, (f x.2).py] [(e y.1).py, (f y.2).py] = _
    obtain ⟨a, b⟩ := x
    obtain ⟨c, g⟩ := y
    simp only [PyData.eqvAll, i.eqv, j.eqv, Prod.mk.injEq]
    by_cases h1 : a = c <;> by_cases h2 : b = g <;> simp [h1, h2]
  · show ((e p.1).low n && ((f p.2).low n && true)) = true
    simp [i.low, j.low]
theorem EO.sh [i : EO e d] (x : α) (hd : d ≤ 64 := by decide) : SeqAt.shaped (e x).py = true := by
  show ((e x).py.canLay0 && decide ((e x).py.depth ≤ 64)) = true
  simp [i.lay x, Nat.le_trans (i.dep x) hd]
theorem EO.shL [i : EO e d] (l : List α) (hd : d + 1 ≤ 64 := by decide) : SeqAt.shaped (.list (T.pys (l.map e))) = true := EO.sh (e := eL e) l hd
theorem EO.dr [i : EO e d] (x : α) (h : Hv) : dr h (e x) = e x := by
  have := i.lay x
  cases q : e x with
  | ref n => rw [q] at this; cases this
  | _ => rfl
/-! ### operators -/
variable {h : Hv}
theorem op_eq [i : EO e d] (x y : α) (hd : d ≤ 64 := by decide) : fEq (e x) (e y) h = some (.ok (.bl (decide (x = y))), h) := by
  unfold fEq eqQ
  rw [EO.dr x h, EO.dr y h, EO.sh x hd, EO.sh y hd, i.eqv]
  rfl
theorem op_ne [i : EO e d] (x y : α) (hd : d ≤ 64 := by decide) : fNe (e x) (e y) h = some (.ok (.bl (decide (x ≠ y))), h) := by
  unfold fNe eqQ
  rw [EO.dr x h, EO.dr y h, EO.sh x hd, EO.sh y hd, i.eqv]
  simp
theorem in_core [i : EO e d] (x : α) (l : List α) (hd : d + 1 ≤ 64 := by decide) : inL (e x) (l.map e) = some (decide (x ∈ l)) := by
  unfold inL
  rw [EO.sh x (by omega), EO.shL l hd, pysMap]
  simp only [Bool.and_self, if_true, List.any_map, Option.some.injEq]
  induction l with
  | nil => simp
  | cons y l ih =>
    simp only [List.any_cons, Function.comp, List.mem_cons, i.eqv] at ih ⊢
    rw [ih]
    by_cases h1 : x = y
    · simp [h1]
    · have : ¬ y = x := fun z => h1 z.symm
      simp [h1, this]
theorem in_tup [i : EO e d] (x : α) (l : List α) (hd : d + 1 ≤ 64 := by decide) : fIn (e x) (.tup (l.map e)) h = some (.ok (.bl (decide (x ∈ l))), h) := by
  unfold fIn inQ
  rw [EO.dr x h]
  simp only [Z.dr, in_core x l hd]
theorem in_lst [i : EO e d] (x : α) (l : List α) (hd : d + 1 ≤ 64 := by decide) : fIn (e x) (.lst (l.map e)) h = some (.ok (.bl (decide (x ∈ l))), h) := by
  unfold fIn inQ
  rw [EO.dr x h]
  simp only [Z.dr, in_core x l hd]
theorem ni_tup [i : EO e d] (x : α) (l : List α) (hd : d + 1 ≤ 64 := by decide) : fNotIn (e x) (.tup (l.map e)) h = some (.ok (.bl (!decide (x ∈ l))), h) := by
  unfold fNotIn inQ
  rw [EO.dr x h]
  simp only [Z.dr, in_core x l hd]
theorem ni_lst [i : EO e d] (x : α) (l : List α) (hd : d + 1 ≤ 64 := by decide) : fNotIn (e x) (.lst (l.map e)) h = some (.ok (.bl (!decide (x ∈ l))), h) := by
  unfold fNotIn inQ
  rw [EO.dr x h]
  simp only [Z.dr, in_core x l hd]
end
/-! ### expressions -/
section
variable {sl sl' sl1 : Sl} {h h1 h2 h3 : Hv} {t x y z : T} {ts xs : List T} {d da db dc : D} {ds : DA} {ta tb : DB} {f g : T → T → M T} {F : List T → M T} {k k2 : Bool} {i n : Nat} {sr : DR} {s : Sr}
theorem ev_var (i : Nat) (e : sl[i]? = some (some t)) : dVar i sl h = some (.ok t, h) := by simp only [dVar, e, ret]
theorem ev_c : dC t sl h = some (.ok t, h) := rfl
theorem ev_bin (a : da sl h = some (.ok x, h1)) (b : db sl h1 = some (.ok y, h2)) (c : f x y h2 = some (.ok z, h3)) : dBin f da db sl h = some (.ok z, h3) := by simp only [dBin, bnd, a, b, c]
theorem ev_un {f : T → M T} (a : da sl h = some (.ok x, h1)) (c : f x h1 = some (.ok z, h2)) : dUn f da sl h = some (.ok z, h2) := by simp only [dUn, bnd, a, c]
theorem ev_dB (a : d sl h = some (.ok (.bl k), h1)) : dB d sl h = some (.ok k, h1) := by simp only [dB, bnd, a, asB, ret]
theorem ev_tru (a : d sl h = some (.ok x, h1)) (b : fTru x h1 = some (.ok k, h1)) : dTru d sl h = some (.ok k, h1) := by simp only [dTru, bnd, a, b]
theorem ev_truB (a : d sl h = some (.ok (.bl k), h1)) : dTru d sl h = some (.ok k, h1) := ev_tru a rfl
theorem ev_chn (a : da sl h = some (.ok x, h)) (b : db sl h = some (.ok y, h)) (c : f x y h = some (.ok (.bl k), h)) (e : dc sl h = some (.ok z, h)) (q : g y z h = some (.ok (.bl k2), h)) : dChn f g da db dc sl h = some (.ok (.bl (k && k2)), h) := by
  cases k <;> simp [dChn, bnd, ret, asB, a, b, c, e, q]
theorem ev_andV (a : da sl h = some (.ok (.bl k), h1)) (b : k = true → db sl h1 = some (.ok (.bl k2), h1)) : dAndV da db sl h = some (.ok (.bl (k && k2)), h1) := by
  cases k
  · simp [dAndV, bnd, ret, asB, a]
  · simp [dAndV, bnd, ret, asB, a, b]
theorem ev_orV (a : da sl h = some (.ok (.bl k), h1)) (b : k = false → db sl h1 = some (.ok (.bl k2), h1)) : dOrV da db sl h = some (.ok (.bl (k || k2)), h1) := by
  cases k
  · simp [dOrV, bnd, ret, asB, a, b]
  · simp [dOrV, bnd, ret, asB, a]
theorem ev_notV (a : da sl h = some (.ok (.bl k), h1)) : dNotV da sl h = some (.ok (.bl (!k)), h1) := by simp [dNotV, bnd, ret, asB, a]
theorem ev_and (a : ta sl h = some (.ok k, h1)) (b : k = true → tb sl h1 = some (.ok k2, h1)) : dAnd ta tb sl h = some (.ok (k && k2), h1) := by
  cases k
  · simp [dAnd, bnd, ret, a]
  · simp [dAnd, bnd, ret, a, b]
theorem ev_or (a : ta sl h = some (.ok k, h1)) (b : k = false → tb sl h1 = some (.ok k2, h1)) : dOr ta tb sl h = some (.ok (k || k2), h1) := by
  cases k
  · simp [dOr, bnd, ret, a, b]
  · simp [dOr, bnd, ret, a]
theorem ev_not (a : ta sl h = some (.ok k, h1)) : dNot ta sl h = some (.ok (!k), h1) := by simp [dNot, bnd, ret, a]
theorem ea_nil : dNil sl h = some (.ok [], h) := rfl
theorem ea_cons (a : d sl h = some (.ok x, h1)) (b : ds sl h1 = some (.ok xs, h2)) : dCons d ds sl h = some (.ok (x :: xs), h2) := by simp only [dCons, bnd, ret, a, b]
theorem ev_tup (a : ds sl h = some (.ok xs, h1)) (l : xs.length ≤ lim := by exact Nat.le_of_ble_eq_true rfl) : dTup ds sl h = some (.ok (.tup xs), h1) := by simp only [dTup, bnd, a, if_pos l, ret]
theorem ev_lst (a : ds sl h = some (.ok xs, h1)) (l : xs.length ≤ lim := by exact Nat.le_of_ble_eq_true rfl) : dLst ds sl h = some (.ok (.lst xs), h1) := by simp only [dLst, bnd, a, if_pos l, ret]
theorem ev_call (a : ds sl h = some (.ok ts, h1)) (b : F ts h1 = some (.ok t, h2)) : dCall F ds sl h = some (.ok t, h2) := by simp only [dCall, bnd, a, b]
theorem ev_callU {n : Nat} (a : ds sl h = some (.ok ts, h1)) (b : F ts h1 = some (.ok t, h2)) (hl : ts.length = n := by rfl) : dCall (fun ts => if ts.length = n then F ts else bot) ds sl h = some (.ok t, h2) := by simp only [dCall, bnd, a, if_pos hl, b]
theorem at_nat (h : xs[n]? = some t) : L2.atI xs (n : Int) = some t := by
  have hl := (List.getElem?_eq_some_iff.mp h).1
  unfold L2.atI L2.ixN
  rw [if_pos (Int.natCast_nonneg n), if_pos (by exact_mod_cast hl)]
  simpa using h
theorem ev_ix (a : da sl h = some (.ok (.tup xs), h1)) (b : db sl h1 = some (.ok (.int i), h2)) (c : xs[i]? = some t) : dBin fIx da db sl h = some (.ok t, h2) := ev_bin a b (by simp only [fIx, dr, at_nat c, Option.map_some])
theorem ev_ixL (a : da sl h = some (.ok (.lst xs), h1)) (b : db sl h1 = some (.ok (.int i), h2)) (c : xs[i]? = some t) : dBin fIx da db sl h = some (.ok t, h2) := ev_bin a b (by simp only [fIx, dr, at_nat c, Option.map_some])
/-! ### comprehensions -/
theorem lcL_ev {α γ : Type} (e : α → T) (turn : T → M (List γ)) (G : α → List γ) : ∀ (l : List α), (∀ x ∈ l, turn (e x) h = some (.ok (G x), h)) → lcL turn (l.map e) h = some (.ok (l.flatMap G), h)
  | [], _ => rfl
  | x :: l, H => by
    have h1 := H x (List.mem_cons_self ..)
    have h2 := lcL_ev e turn G l fun y hy => H y (List.mem_cons_of_mem _ hy)
    simp only [List.map_cons, lcL, bnd, h1, h2, ret, List.flatMap_cons]
theorem lcT_ev {g : Tg} (a : setTg g t sl = some sl1) (b : ta sl1 h = some (.ok k, h)) (c : k = true → d sl1 h = some (.ok y, h)) : lcT g ta d sl t h = some (.ok (if k then [y] else []), h) := by
  cases k
  · simp [lcT, a, bnd, b, ret]
  · simp [lcT, a, bnd, b, ret, c]
theorem flat_if {α γ : Type} (p : α → Bool) (G : α → γ) (l : List α) : (l.flatMap fun x => if p x then [G x] else []) = (l.filter p).map G := by
  induction l with
  | nil => rfl
  | cons x l ih => by_cases hp : p x <;> simp [List.flatMap_cons, hp, ih]
theorem lc_core {γ : Type} {turn : T → M (List γ)} {k : List γ → M T} {zs : List γ} (a : sr sl h = some (.ok (.fix xs), h1)) (b : lcL turn xs h1 = some (.ok zs, h2)) : bnd (sr sl) (fun s => bnd (nox (lcS turn s)) k) h = k zs h2 := by
  simp only [bnd, a, nox, lcS, b]
theorem lc_ev {α : Type} {e : α → T} {l : List α} {vs : List Nat} {g : Tg} {p : α → Bool} {G : α → T} (a : sr sl h = some (.ok (.fix (l.map e)), h1)) (H : ∀ x ∈ l, lcT g ta d (wipS sl vs) (e x) h1 = some (.ok (if p x then [G x] else []), h1)) (hl : l.length ≤ lim) :
    dLc false vs sr g ta d sl h = some (.ok (.lst ((l.filter p).map G)), h1) := by
  unfold dLc
  rw [lc_core a (lcL_ev e _ _ l H), flat_if]
  unfold lstR
  rw [if_pos (by rw [List.length_map]; exact Nat.le_trans (List.length_filter_le ..) hl)]
  rfl
theorem lc_evA {α : Type} {e : α → T} {l : List α} {vs : List Nat} {g : Tg} {G : α → T} (a : sr sl h = some (.ok (.fix (l.map e)), h1)) (H : ∀ x ∈ l, lcT g dYes d (wipS sl vs) (e x) h1 = some (.ok [G x], h1)) (hl : l.length ≤ lim) :
    dLc false vs sr g dYes d sl h = some (.ok (.lst (l.map G)), h1) := by
  have := lc_ev (p := fun _ => true) (G := G) a (fun x hx => by simpa using H x hx) hl
  rw [List.filter_eq_self.mpr (fun _ _ => rfl)] at this
  exact this
theorem lcY_ev {g : Tg} (a : setTg g t sl = some sl1) (c : d sl1 h = some (.ok y, h)) : lcT g dYes d sl t h = some (.ok [y], h) := by simp [lcT, a, bnd, dYes, ret, c]
/-! ### sources -/
theorem sr_tup (a : d sl h = some (.ok (.tup xs), h1)) : dSrc d sl h = some (.ok (.fix xs), h1) := by simp only [dSrc, bnd, a, fSrc]
theorem sr_lst (a : d sl h = some (.ok (.lst xs), h1)) : dSrc d sl h = some (.ok (.fix xs), h1) := by simp only [dSrc, bnd, a, fSrc]
/-! ### builtins -/
theorem bls_map {α : Type} (q : α → Bool) : ∀ l : List α, blsQ (l.map fun x => .bl (q x)) = some (l.map q)
  | [] => rfl
  | x :: l => by simp [blsQ, bls_map q l]
theorem ev_all {α : Type} {l : List α} {q : α → Bool} (a : d sl h = some (.ok (.lst (l.map fun x => .bl (q x))), h1)) : dCall fAll (dCons d dNil) sl h = some (.ok (.bl (l.all q)), h1) :=
  ev_call (ea_cons a ea_nil) (by simp only [fAll, fBools, slQ, dr, Option.bind_some, bls_map, List.all_map]; rfl)
theorem ev_any {α : Type} {l : List α} {q : α → Bool} (a : d sl h = some (.ok (.lst (l.map fun x => .bl (q x))), h1)) : dCall fAny (dCons d dNil) sl h = some (.ok (.bl (l.any q)), h1) :=
  ev_call (ea_cons a ea_nil) (by simp only [fAny, fBools, slQ, dr, Option.bind_some, bls_map, List.any_map]; rfl)
theorem ev_tuple {l : List T} (a : d sl h = some (.ok (.lst l), h1)) : dCall fTuple (dCons d dNil) sl h = some (.ok (.tup l), h1) := ev_call (ea_cons a ea_nil) rfl
theorem ev_tupleT {l : List T} (a : d sl h = some (.ok (.tup l), h1)) : dCall fTuple (dCons d dNil) sl h = some (.ok (.tup l), h1) := ev_call (ea_cons a ea_nil) rfl
theorem ev_lenT {l : List T} (a : d sl h = some (.ok (.tup l), h1)) : dCall fLen (dCons d dNil) sl h = some (.ok (.int l.length), h1) := ev_call (ea_cons a ea_nil) rfl
theorem ev_lenL {l : List T} (a : d sl h = some (.ok (.lst l), h1)) : dCall fLen (dCons d dNil) sl h = some (.ok (.int l.length), h1) := ev_call (ea_cons a ea_nil) rfl
end
end Z

/-! P2: what statements compute. -/
namespace Z
open PySem
/-- what is wanted of a statement's end -/
structure Po where
  nx : Sl → Hv → Prop
  bk : Sl → Hv → Prop
  ct : Sl → Hv → Prop
  rt : T → Hv → Prop
def WSr (r : Option (Fl × Sl × Hv)) (Q : Po) : Prop := match r with
  | some (.nx, sl, h) => Q.nx sl h
  | some (.bk, sl, h) => Q.bk sl h
  | some (.ct, sl, h) => Q.ct sl h
  | some (.rt t, _, h) => Q.rt t h
  | _ => False
/-- (a structure, so that nothing computes it by itself) -/
structure WS (r : Option (Fl × Sl × Hv)) (Q : Po) : Prop where
  ok : WSr r Q
section
variable {sl sl' sl1 : Sl} {h h1 h2 h3 : Hv} {t x y z : T} {ts xs : List T} {d da db dc : D} {ds : DA} {ta tb : DB} {f g : T → T → M T} {F : List T → M T} {k k2 : Bool} {i n : Nat} {sr : DR} {s : Sr} {Q Q' : Po} {a b : DS} {tg : Tg}
theorem WS.imp {r : Option (Fl × Sl × Hv)} (w : WS r Q) (h1 : ∀ sl h, Q.nx sl h → Q'.nx sl h) (h2 : ∀ sl h, Q.bk sl h → Q'.bk sl h) (h3 : ∀ sl h, Q.ct sl h → Q'.ct sl h) (h4 : ∀ t h, Q.rt t h → Q'.rt t h) : WS r Q' := by
  match r, w.ok with
  | some (.nx, sl, h), w => exact ⟨h1 _ _ w⟩
  | some (.bk, sl, h), w => exact ⟨h2 _ _ w⟩
  | some (.ct, sl, h), w => exact ⟨h3 _ _ w⟩
  | some (.rt t, _, h), w => exact ⟨h4 _ _ w⟩
theorem ws_seq (w : WS (a sl h) { Q with nx := fun sl h => WS (b sl h) Q }) : WS (dSeq a b sl h) Q := by
  have w := w.ok
  unfold dSeq
  cases e : a sl h with
  | none => rw [e] at w; exact w.elim
  | some r =>
    obtain ⟨fl, sl', h'⟩ := r
    rw [e] at w
    cases fl with
    | nx => exact w
    | _ => exact ⟨w⟩
theorem ws_nx (q : Q.nx sl h) : WS (dNx sl h) Q := ⟨q⟩
theorem ws_bk (q : Q.bk sl h) : WS (dBrk sl h) Q := ⟨q⟩
theorem ws_ct (q : Q.ct sl h) : WS (dCnt sl h) Q := ⟨q⟩
theorem ws_retN (q : Q.rt .non h) : WS (dRetN sl h) Q := ⟨q⟩
theorem ws_asg (e : d sl h = some (.ok t, h1)) (q : setTg tg t sl = some sl') (w : Q.nx sl' h1) : WS (dAsg tg d sl h) Q := by
  unfold dAsg stE
  rw [e]
  simp only [q]
  exact ⟨w⟩
theorem ws_ret (e : d sl h = some (.ok t, h1)) (w : Q.rt t h1) : WS (dRet d sl h) Q := by
  unfold dRet stE
  rw [e]
  exact ⟨w⟩
theorem ws_expr (e : d sl h = some (.ok t, h1)) (w : Q.nx sl h1) : WS (dExpr d sl h) Q := by
  unfold dExpr stE
  rw [e]
  exact ⟨w⟩
theorem ws_if (e : ta sl h = some (.ok k, h1)) (w1 : k = true → WS (a sl h1) Q) (w2 : k = false → WS (b sl h1) Q) : WS (dIfS ta a b sl h) Q := by
  unfold dIfS stE
  rw [e]
  cases k
  · exact w2 rfl
  · exact w1 rfl
theorem ws_no (e : ta sl h = some (.ok false, h)) (w : WS (b sl h) Q) : WS (dIfS ta a b sl h) Q := ws_if e (fun z => nomatch z) fun _ => w
theorem ws_yes (e : ta sl h = some (.ok true, h)) (w : WS (a sl h) Q) : WS (dIfS ta a b sl h) Q := ws_if e (fun _ => w) fun z => nomatch z
theorem ws_par (i j : Nat) (e : ds sl h = some (.ok [x, y], h1)) (w : Q.nx ((sl.set i (some x)).set j (some y)) h1) : WS (dPar i j ds sl h) Q := by
  unfold dPar stE
  rw [e]
  exact ⟨w⟩
theorem ws_aug (i : Nat) (q : sl[i]? = some (some x)) (e : d sl h = some (.ok y, h1)) (e2 : f x y h1 = some (.ok t, h2)) (w : Q.nx (sl.set i (some t)) h2) : WS (dAug i f d sl h) Q := by
  unfold dAug stE
  simp only [q, bnd, e, e2]
  exact ⟨w⟩
theorem ws_set {v o : T} (e : d sl h = some (.ok v, h1)) (e1 : da sl h1 = some (.ok o, h2)) (e2 : db sl h2 = some (.ok x, h3)) {h4 : Hv} (q : fSet o x v h3 = some h4) (w : Q.nx sl h4) : WS (dSet d da db sl h) Q := by
  unfold dSet stE
  simp only [bnd, e, e1, e2, ret, q]
  exact ⟨w⟩
/-! ### loops -/
/-- the rest's promise I; a turn may end the loop -/
theorem for_corP {α : Type} {e : α → T} {B : DS} (I : List α → Sl → Hv → Prop) (step : ∀ x r sl h, I (x :: r) sl h → ∃ sl1, setTg tg (e x) sl = some sl1 ∧ WS (B sl1 h) { nx := I r, ct := I r, bk := Q.nx, rt := Q.rt }) :
    ∀ (l : List α) (sl : Sl) (h : Hv), I l sl h → (∀ sl h, I [] sl h → Q.nx sl h) → WS (forL tg B (l.map e) sl h) Q
  | [], sl, h, h0, fin => ⟨fin _ _ h0⟩
  | x :: l, sl, h, h0, fin => by
    obtain ⟨sl1, q, w⟩ := step x l sl h h0
    have w := w.ok
    simp only [List.map_cons, forL, q]
    cases eb : B sl1 h with
    | none => rw [eb] at w; exact w.elim
    | some r =>
      obtain ⟨fl, sl', h'⟩ := r
      rw [eb] at w
      cases fl with
      | nx => exact for_corP I step l sl' h' w fin
      | ct => exact for_corP I step l sl' h' w fin
      | bk => exact ⟨w⟩
      | rt t => exact ⟨w⟩
      | exc c => exact w.elim
theorem ws_for {α : Type} {e : α → T} {B : DS} (l : List α) (I : List α → Sl → Hv → Prop) (es : sr sl h = some (.ok (.fix (l.map e)), h1)) (h0 : I l sl h1) (step : ∀ x r sl h, I (x :: r) sl h → ∃ sl1, setTg tg (e x) sl = some sl1 ∧ WS (B sl1 h) { nx := I r, ct := I r, bk := Q.nx, rt := Q.rt })
    (fin : ∀ sl h, I [] sl h → Q.nx sl h) : WS (dFor sr tg B sl h) Q := by
  unfold dFor stE
  rw [es]
  exact for_corP I step l sl h1 h0 fin
/-- a while loop; n falls at every turn -/
theorem while_corP {B : DS} (I : Nat → Sl → Hv → Prop) (step : ∀ n sl h, I n sl h → ∃ k h1, ta sl h = some (.ok k, h1) ∧ (if k then WS (B sl h1) { nx := fun sl h => ∃ m, m < n ∧ I m sl h, ct := fun sl h => ∃ m, m < n ∧ I m sl h, bk := Q.nx, rt := Q.rt } else Q.nx sl h1)) :
    ∀ (f n : Nat) (sl : Sl) (h : Hv), n < f → I n sl h → WS (whN ta B f sl h) Q
  | 0, n, sl, h, hf, _ => absurd hf (by omega)
  | f + 1, n, sl, h, hf, h0 => by
    obtain ⟨k, h1, e, w⟩ := step n sl h h0
    unfold whN stE
    rw [e]
    cases k with
    | false => exact ⟨w⟩
    | true =>
      simp only [if_true] at w ⊢
      have w := w.ok
      cases eb : B sl h1 with
      | none => rw [eb] at w; exact w.elim
      | some r =>
        obtain ⟨fl, sl', h'⟩ := r
        rw [eb] at w
        cases fl with
        | nx => obtain ⟨m, lt, q⟩ := w; exact while_corP I step f m sl' h' (by omega) q
        | ct => obtain ⟨m, lt, q⟩ := w; exact while_corP I step f m sl' h' (by omega) q
        | bk => exact ⟨w⟩
        | rt t => exact ⟨w⟩
        | exc c => exact w.elim
theorem ws_while {B : DS} (n : Nat) (I : Nat → Sl → Hv → Prop) (hn : n < fuel) (h0 : I n sl h) (step : ∀ n sl h, I n sl h → ∃ k h1, ta sl h = some (.ok k, h1) ∧ (if k then WS (B sl h1) { nx := fun sl h => ∃ m, m < n ∧ I m sl h, ct := fun sl h => ∃ m, m < n ∧ I m sl h, bk := Q.nx, rt := Q.rt } else Q.nx sl h1)) :
    WS (dWhile fuel ta B sl h) Q := while_corP I step fuel n sl h hn h0
/-! ### defs -/
def HOk (h : Hv) : Prop := h.all (O.low h.length) = true
theorem frT_low (hl : t.low 0 = true) : frT n h t = t := by
  cases t with
  | ref k => simp [T.low] at hl
  | _ => rfl
/-- a def's end -/
structure EndOk (h : Hv) (Q : T → Hv → Prop) (t : T) (h' : Hv) : Prop where
  low : ∀ n, t.low n = true
  hok : (h'.take h.length).all (O.low h.length) = true
  q : Q t (h'.take h.length)
theorem def_ws {np nl : Nat} {Q : T → Hv → Prop} (w : WS (b (ts.map some ++ List.replicate (nl - ts.length) none) h) ⟨fun _ h' => EndOk h Q .non h', fun _ _ => False, fun _ _ => False, EndOk h Q⟩) (hn : ts.length = np := by rfl) :
    ∃ t h', dDef false np nl b ts h = some (.ok t, h') ∧ Q t h' := by
  have w := w.ok
  unfold dDef
  rw [if_pos hn]
  cases e : b (ts.map some ++ List.replicate (nl - ts.length) none) h with
  | none => rw [e] at w; exact w.elim
  | some r =>
    obtain ⟨fl, sl', h'⟩ := r
    rw [e] at w
    have key : ∀ t, EndOk h Q t h' → ∃ u g, endD false h.length t h' = some (.ok u, g) ∧ Q u g := fun t w => by
      unfold endD
      rw [frT_low (w.low 0), w.low, w.hok]
      exact ⟨_, _, rfl, w.q⟩
    cases fl with
    | nx => exact key _ w
    | rt t => exact key _ w
    | bk => exact w.elim
    | ct => exact w.elim
    | exc c => exact w.elim
theorem endOk {Q : T → Hv → Prop} {ex : Hv} (hk : HOk h) (low : ∀ n, t.low n = true) (q : Q t h) : EndOk h Q t (h ++ ex) := by
  have e : (h ++ ex).take h.length = h := by simp
  exact ⟨low, by rw [e]; exact hk, by rw [e]; exact q⟩
theorem endOk0 {Q : T → Hv → Prop} (hk : HOk h) (low : ∀ n, t.low n = true) (q : Q t h) : EndOk h Q t h := by
  have := endOk (ex := []) hk low q
  rwa [List.append_nil] at this
/-- .. that gives a value -/
theorem def_val {np nl : Nat} {v : T} (hk : HOk h) (w : WS (b (ts.map some ++ List.replicate (nl - ts.length) none) h) ⟨fun _ h' => v = .non ∧ h' = h, fun _ _ => False, fun _ _ => False, fun t h' => t = v ∧ h' = h⟩) (low : ∀ n, v.low n = true := by intro _; rfl) (hn : ts.length = np := by rfl) :
    dDef false np nl b ts h = some (.ok v, h) := by
  obtain ⟨t, h', e, q1, q2⟩ := def_ws (Q := fun t h' => t = v ∧ h' = h) (np := np) (nl := nl) (b := b) (ts := ts) (h := h) (w.imp (fun sl h' ⟨q1, q2⟩ => by rw [q1] at low; rw [q2]; exact endOk0 hk low ⟨q1.symm, rfl⟩) (fun _ _ z => z) (fun _ _ z => z) (fun t h' ⟨q1, q2⟩ => by subst q1; rw [q2]; exact endOk0 hk low ⟨rfl, rfl⟩)) hn
  rw [e, q1, q2]
end
end Z

/-! P3: the world's functions. -/
namespace Z
open PySem
abbrev eF : List Int → T := eT T.int
structure Dd where
  n : List Int
  b : List Int
  a : List Int
  d : List Int
  c : Int
deriving DecidableEq
def eDd (x : Dd) : T := .tup [eF x.n, eF x.b, eF x.a, eF x.d, .int x.c]
instance : EO eDd 2 := by
  have i : EO eF 1 := inferInstance
  refine ⟨fun p => ?_, fun p => ?_, fun x y => ?_, fun p n => ?_⟩
  · show PyData.canLayAll0 [(eF p.n).py, (eF p.b).py, (eF p.a).py, (eF p.d).py, .int p.c] = true
    simp [PyData.canLayAll0, i.lay, PyData.canLay0]
  · show PyData.depthAll [(eF p.n).py, (eF p.b).py, (eF p.a).py, (eF p.d).py, .int p.c] + 1 ≤ _
    have h1 := i.dep p.n
    have h2 := i.dep p.b
    have h3 := i.dep p.a
    have h4 := i.dep p.d
    simp only [PyData.depthAll, PyData.depth]
    omega
  · show PyData.eqvAll [(eF x.n).py, (eF x.b).py, (eF x.a).py, (eF x.d).py, .int x.c] [(eF y.n).py, (eF y.b).py, (eF y.a).py, (eF y.d).py, .int y.c] = _
    obtain ⟨a1, a2, a3, a4, a5⟩ := x
    obtain ⟨b1, b2, b3, b4, b5⟩ := y
    simp only [PyData.eqvAll, i.eqv, Dd.mk.injEq, PyData.eqv]
    by_cases h1 : a1 = b1 <;> by_cases h2 : a2 = b2 <;> by_cases h3 : a3 = b3 <;> by_cases h4 : a4 = b4 <;> by_cases h5 : a5 = b5 <;> simp [h1, h2, h3, h4, h5]
  · show T.lows n [eF p.n, eF p.b, eF p.a, eF p.d, .int p.c] = true
    simp [T.lows, i.low, T.low]
structure Wd where
  m : Int
  ds : List Dd
  s : List Int
  gn : List Int
  gb : List Int
def eWd (w : Wd) : T := .tup [.int w.m, eT eDd w.ds, eF w.s, .tup [eF w.gn, eF w.gb]]
/-! ### is_facts -/
def Row (m : Int) (l : List Int) : Prop := l.Pairwise (· < ·) ∧ ∀ x ∈ l, 0 ≤ x ∧ x < m
theorem adj_of : ∀ {l : List Int}, l.Pairwise (· < ·) → ∀ p ∈ l.zip l.tail, p.1 < p.2 := by
  intro l h
  induction l with
  | nil => simp
  | cons x l ih =>
    cases l with
    | nil => simp
    | cons y l =>
      intro p hp
      simp only [List.tail_cons, List.zip_cons_cons, List.mem_cons] at hp
      rcases hp with rfl | hp
      · exact (List.pairwise_cons.mp h).1 y (List.mem_cons_self ..)
      · exact ih (List.pairwise_cons.mp h).2 p (by simpa using hp)
theorem zipT_ev (l m : List Int) : zipT (l.map .int) (m.map .int) = (l.zip m).map (eP T.int T.int) := by
  induction l generalizing m with
  | nil => rfl
  | cons x l ih => cases m with
    | nil => rfl
    | cons y m => simp [zipT, ih, eP]
theorem cut_init {α : Type} (l : List α) : cutT l none (some (-1)) = l.take (l.length - 1) := by
  unfold cutT HT.sIx
  simp
  congr 1
  omega
theorem cut_tail {α : Type} (l : List α) : cutT l (some 1) none = l.drop 1 := by
  unfold cutT HT.sIx
  cases l with
  | nil => rfl
  | cons x l => simp
theorem ev_sl {sl : Sl} {h h1 h2 h3 : Hv} {d : D} {dl dh : DO} {xs : List T} {lo hi : Option Int} (a : d sl h = some (.ok (.tup xs), h1)) (b : dl sl h1 = some (.ok lo, h2)) (c : dh sl h2 = some (.ok hi, h3)) : dSl d dl dh sl h = some (.ok (.tup (cutT xs lo hi)), h3) := by simp only [dSl, bnd, a, b, c, fSl, dr]
theorem sr_zip {sl : Sl} {h h1 : Hv} {da : DA} {xs ys : List T} (a : da sl h = some (.ok [.tup xs, .tup ys], h1)) : dZip da sl h = some (.ok (.fix (zipT xs ys)), h1) := by simp only [dZip, bnd, a, ret]
theorem ev_ps {sl : Sl} {h h1 : Hv} {d : D} {i : Int} (a : d sl h = some (.ok (.int i), h1)) : dPS d sl h = some (.ok (some i), h1) := by simp only [dPS, bnd, a, ret]
theorem zip_adj (l : List Int) : (l.take (l.length - 1)).zip (l.drop 1) = l.zip l.tail := by
  rw [List.drop_one]
  have : ∀ l : List Int, ∀ m : List Int, m.length ≤ l.length → (l.take m.length).zip m = l.zip m := by
    intro l m h
    induction l generalizing m with
    | nil => simp at h; subst h; rfl
    | cons x l ih => cases m with
      | nil => rfl
      | cons y m => simp at h ⊢; exact ih m h
  have h := this l l.tail (by simp)
  rwa [List.length_tail] at h
theorem row_len : ∀ {l : List Int} {m : Int}, Row m l → l.length ≤ m.toNat := by
  have : ∀ (l : List Int) (k m : Int), l.Pairwise (· < ·) → (∀ x ∈ l, k ≤ x ∧ x < m) → (l.length : Int) ≤ max (m - k) 0 := by
    intro l
    induction l with
    | nil => intro k m _ _; simp; omega
    | cons x l ih =>
      intro k m h1 h2
      have a := h2 x (List.mem_cons_self ..)
      have b := ih (x + 1) m (List.pairwise_cons.mp h1).2 fun y hy => ⟨by have := (List.pairwise_cons.mp h1).1 y hy; omega, (h2 y (List.mem_cons_of_mem _ hy)).2⟩
      simp only [List.length_cons]
      omega
  intro l m r
  have := this l 0 m r.1 r.2
  omega
theorem ev_is_facts {h : Hv} (hk : HOk h) {m : Int} {l : List Int} (r : Row m l) (hm : m ≤ 1000) : d_is_facts [eF l, .int m] h = some (.ok (.bl true), h) := by
  have hl : l.length ≤ lim := by
    have := row_len r
    have : lim = 16000000 := rfl
    omega
  refine def_val hk (ws_ret (t := .bl true) (h1 := h) ?_ ⟨rfl, rfl⟩)
  have e2 : zipT (cutT (l.map T.int) none (some (-1))) (cutT (l.map T.int) (some 1) none) = (l.zip l.tail).map (eP T.int T.int) := by
    rw [cut_init, cut_tail, List.length_map, ← List.map_take, ← List.map_drop, zipT_ev, zip_adj]
  refine (ev_andV (ev_all (lc_evA (e := T.int) (l := l) (sr_tup (ev_var 0 rfl)) (fun x hx => lcY_ev rfl (ev_chn ev_c (ev_var 2 rfl) rfl (ev_var 1 rfl) rfl)) hl)) fun _ =>
    ev_all (lc_evA (e := eP T.int T.int) (l := l.zip l.tail) (G := fun p => .bl (decide (p.1 < p.2))) ((sr_zip (ea_cons (ev_sl (ev_var 0 rfl) rfl (ev_ps (ev_un ev_c rfl))) (ea_cons (ev_sl (ev_var 0 rfl) (ev_ps ev_c) rfl) ea_nil))).trans (by rw [← e2])) (fun x hx => lcY_ev rfl (ev_bin (ev_var 3 rfl) (ev_var 4 rfl) rfl)) (by rw [List.length_zip]; omega))).trans ?_
  have a1 : (l.all fun x => decide (0 ≤ x) && decide (x < m)) = true := by
    rw [List.all_eq_true]
    intro x hx
    have := r.2 x hx
    simp [this]
  have a2 : ((l.zip l.tail).all fun p => decide (p.1 < p.2)) = true := by
    rw [List.all_eq_true]
    intro x hx
    exact decide_eq_true (adj_of r.1 x hx)
  rw [a1, a2]
  rfl
structure DdOk (m : Int) (x : Dd) : Prop where
  n : Row m x.n
  b : Row m x.b
  a : Row m x.a
  d : Row m x.d
  nb : ∀ f ∈ x.n, f ∉ x.b
  ad : ∀ f ∈ x.a, f ∉ x.d
  c : 0 ≤ x.c ∧ x.c ≤ 99
structure WdOk (w : Wd) : Prop where
  m : 1 ≤ w.m ∧ w.m ≤ 12
  len : w.ds.length ≤ 24
  ds : ∀ x ∈ w.ds, DdOk w.m x
  s : Row w.m w.s
  gn : Row w.m w.gn
  gb : Row w.m w.gb
  g : ∀ f ∈ w.gn, f ∉ w.gb
theorem any_no {l m : List Int} (h : ∀ f ∈ l, f ∉ m) : (l.any fun f => decide (f ∈ m)) = false := by
  rw [List.any_eq_false]
  intro x hx
  simp [h x hx]
theorem row_lim {l : List Int} {m : Int} (r : Row m l) (hm : m ≤ 1000) : l.length ≤ lim := by
  have := row_len r
  have : lim = 16000000 := rfl
  omega
theorem ev_check_deed {h : Hv} (hk : HOk h) {m : Int} (hm : m ≤ 1000) {x : Dd} (o : DdOk m x) : d_check_deed [eDd x, .int m] h = some (.ok .non, h) := by
  refine def_val hk (ws_seq (ws_asg (ev_var 0 rfl) rfl (ws_seq (ws_no ?_ (ws_nx (ws_seq (ws_no ?_ (ws_nx (ws_no ?_ (ws_nx ⟨rfl, rfl⟩))))))))))
  · refine (ev_not (ev_truB (ev_all (lc_evA (e := eF) (l := [x.n, x.b, x.a, x.d]) (G := fun _ => .bl true) (sr_tup (ev_tup (ea_cons (ev_var 2 rfl) (ea_cons (ev_var 3 rfl) (ea_cons (ev_var 4 rfl) (ea_cons (ev_var 5 rfl) ea_nil)))))) (fun r hr => lcY_ev rfl (ev_callU (ea_cons (ev_var 7 rfl) (ea_cons (ev_var 1 rfl) ea_nil)) (ev_is_facts hk ?_ hm))) (Nat.le_of_ble_eq_true rfl))))).trans ?_
    · simp at hr
      rcases hr with rfl | rfl | rfl | rfl
      · exact o.n
      · exact o.b
      · exact o.a
      · exact o.d
    · rfl
  · refine (ev_or (ev_truB (ev_any (lc_evA (e := T.int) (l := x.n) (sr_tup (ev_var 2 rfl)) (fun r hr => lcY_ev rfl (ev_bin (ev_var 8 rfl) (ev_var 3 rfl) (in_tup r x.b))) (row_lim o.n hm)))) fun _ =>
      ev_truB (ev_any (lc_evA (e := T.int) (l := x.a) (sr_tup (ev_var 4 rfl)) (fun r hr => lcY_ev rfl (ev_bin (ev_var 8 rfl) (ev_var 5 rfl) (in_tup r x.d))) (row_lim o.a hm)))).trans ?_
    rw [any_no o.nb, any_no o.ad]
    rfl
  · refine (ev_not (ev_dB (ev_chn ev_c (ev_var 6 rfl) rfl ev_c rfl))).trans ?_
    simp [o.c]
end Z

/-! P4: check_world, fits, after, next. -/
namespace Z
open PySem
theorem ev_check_world {h : Hv} (hk : HOk h) {w : Wd} (o : WdOk w) : d_check_world [eWd w] h = some (.ok .non, h) := by
  have hm : w.m ≤ 1000 := by have := o.m; omega
  have hd : w.ds.length ≤ lim := Nat.le_trans o.len (by decide)
  refine def_val hk (ws_seq (ws_asg (ev_var 0 rfl) rfl (ws_seq (ws_no ?_ (ws_nx (ws_seq (ws_for (e := eDd) w.ds (fun r sl g => g = h ∧ (∀ y ∈ r, y ∈ w.ds) ∧ ∃ t, sl = [some (eWd w), some (.int w.m), some (eT eDd w.ds), some (eF w.s), some (.tup [eF w.gn, eF w.gb]), t, none, none, none]) (sr_tup (ev_var 2 rfl)) ⟨rfl, fun _ z => z, _, rfl⟩ ?_ ?_)))))))
  · refine (ev_or (ev_not (ev_dB (ev_chn ev_c (ev_var 1 rfl) rfl ev_c rfl))) fun _ => ev_dB (ev_bin (ev_lenT (ev_var 2 rfl)) ev_c rfl)).trans ?_
    have := o.m
    have := o.len
    simp [*]
    omega
  · rintro x r sl g ⟨rfl, hr, t, rfl⟩
    exact ⟨_, rfl, ws_expr (ev_callU (ea_cons (ev_var 5 rfl) (ea_cons (ev_var 1 rfl) ea_nil)) (ev_check_deed hk hm (o.ds x (hr x (List.mem_cons_self ..))))) ⟨rfl, fun y hy => hr y (List.mem_cons_of_mem _ hy), _, rfl⟩⟩
  · rintro sl g ⟨rfl, hr, t, rfl⟩
    refine ws_seq (ws_asg (ev_var 4 rfl) rfl (ws_seq (ws_no ?_ (ws_nx (ws_no ?_ (ws_nx ⟨rfl, rfl⟩))))))
    · exact ev_or (ev_not (ev_truB (ev_callU (ea_cons (ev_var 3 rfl) (ea_cons (ev_var 1 rfl) ea_nil)) (ev_is_facts hk o.s hm)))) fun _ => ev_or (ev_not (ev_truB (ev_callU (ea_cons (ev_var 6 rfl) (ea_cons (ev_var 1 rfl) ea_nil)) (ev_is_facts hk o.gn hm)))) fun _ =>
        ev_not (ev_truB (ev_callU (ea_cons (ev_var 7 rfl) (ea_cons (ev_var 1 rfl) ea_nil)) (ev_is_facts hk o.gb hm)))
    · refine (ev_truB (ev_any (lc_evA (e := T.int) (l := w.gn) (sr_tup (ev_var 6 rfl)) (fun r hr => lcY_ev rfl (ev_bin (ev_var 8 rfl) (ev_var 7 rfl) (in_tup r w.gb))) (row_lim o.gn hm)))).trans ?_
      rw [any_no o.g]
/-! ### conditions, successors -/
def fitsB (n b s : List Int) : Bool := (n.all fun f => decide (f ∈ s)) && !(b.any fun f => decide (f ∈ s))
theorem fits_iff {n b s : List Int} : fitsB n b s = true ↔ (∀ f ∈ n, f ∈ s) ∧ ∀ f ∈ b, f ∉ s := by
  simp [fitsB]
theorem ev_fits_core {h : Hv} {n b s : List Int} (hn : n.length ≤ lim) (hb : b.length ≤ lim) {r : List T} (hk : HOk h) : d__law_fits [.tup (eF n :: eF b :: r), eF s] h = some (.ok (.bl (fitsB n b s)), h) := by
  refine def_val hk (ws_ret (ev_andV (ev_all (lc_evA (e := T.int) (l := n) (sr_tup (ev_ix (i := 0) (ev_var 0 rfl) ev_c rfl)) (fun x hx => lcY_ev rfl (ev_bin (ev_var 2 rfl) (ev_var 1 rfl) (in_tup x s))) hn)) fun _ => ev_notV
    (ev_any (lc_evA (e := T.int) (l := b) (sr_tup (ev_ix (i := 1) (ev_var 0 rfl) ev_c rfl)) (fun x hx => lcY_ev rfl (ev_bin (ev_var 2 rfl) (ev_var 1 rfl) (in_tup x s))) hb))) ⟨rfl, rfl⟩)
theorem ev_holds {h : Hv} {n b s : List Int} (hn : n.length ≤ lim) (hb : b.length ≤ lim) (hk : HOk h) : d_holds [.tup [eF n, eF b], eF s] h = some (.ok (.bl (fitsB n b s)), h) := by
  refine def_val hk (ws_seq (ws_asg (ev_var 0 rfl) rfl (ws_ret (ev_andV (ev_all (lc_evA (e := T.int) (l := n) (sr_tup (ev_var 2 rfl)) (fun x hx => lcY_ev rfl (ev_bin (ev_var 4 rfl) (ev_var 1 rfl) (in_tup x s))) hn)) fun _ => ev_notV
    (ev_any (lc_evA (e := T.int) (l := b) (sr_tup (ev_var 3 rfl)) (fun x hx => lcY_ev rfl (ev_bin (ev_var 4 rfl) (ev_var 1 rfl) (in_tup x s))) hb))) ⟨rfl, rfl⟩)))
theorem ev_can {h : Hv} {x : Dd} {s : List Int} (hn : x.n.length ≤ lim) (hb : x.b.length ≤ lim) (hk : HOk h) : d_can [eDd x, eF s] h = some (.ok (.bl (fitsB x.n x.b s)), h) :=
  def_val hk (ws_ret (ev_callU (ea_cons (ev_sl (ev_var 0 rfl) rfl (ev_ps ev_c)) (ea_cons (ev_var 1 rfl) ea_nil)) (ev_holds hn hb hk)) ⟨rfl, rfl⟩)
/-- the state after a deed: as _law_after tells it -/
def aft (x : Dd) (s : List Int) : List Int := ((List.range 16).map fun k : Nat => (0 : Int) + k).filter fun f => decide (f ∈ x.a) || (decide (f ∈ s) && !decide (f ∈ x.d))
theorem rgT_ev (i j : Int) : rgT i j = ((List.range (j - i).toNat).map fun k : Nat => i + (k : Int)).map T.int := by
  unfold rgT
  rw [List.map_map]
  rfl
theorem sr_rng1 {sl : Sl} {h h1 : Hv} {d : D} {j : Int} (a : d sl h = some (.ok (.int j), h1)) (hj : in62 j = true) : dRng1 (dCons d dNil) sl h = some (.ok (.fix (((List.range j.toNat).map fun k : Nat => (0 : Int) + k).map T.int)), h1) := by
  have := rgT_ev 0 j
  rw [Int.sub_zero] at this
  simp only [dRng1, dCons, dNil, bnd, a, ret, hj, if_true, this]
theorem ev_law_after {h : Hv} {x : Dd} {s : List Int} (hk : HOk h) : d__law_after [eDd x, eF s] h = some (.ok (eF (aft x s)), h) := by
  refine def_val hk (ws_ret (ev_tuple (lc_ev (e := T.int) (G := T.int) (sr_rng1 ev_c (by decide)) (fun f hf => lcT_ev rfl (ev_or (ev_dB (ev_bin (ev_var 2 rfl) (ev_ix (i := 2) (ev_var 0 rfl) ev_c rfl) (in_tup f x.a))) fun _ =>
    ev_and (ev_dB (ev_bin (ev_var 2 rfl) (ev_var 1 rfl) (in_tup f s))) fun _ => ev_dB (ev_bin (ev_var 2 rfl) (ev_ix (i := 3) (ev_var 0 rfl) ev_c rfl) (ni_tup f x.d))) fun _ => ev_var 2 rfl) (by simp [lim]))) ⟨rfl, rfl⟩) (fun n => EO.low (e := eF) (aft x s) n)
end Z

/-! P5: sorting. -/
namespace Z
open PySem PySem.W
class EA {α : Type} (e : α → T) (tup : outParam Bool) : Prop where
  al : ∀ x y, alike (e x).py (e y).py = true
  tp : if tup then ∀ x, isTup (e x).py = true else ∀ x, noTup (e x).py = true
instance : EA T.int false := ⟨fun _ _ => rfl, fun _ => rfl⟩
theorem alls_map {α : Type} (e : α → PyData) (h : ∀ x y, alike (e x) (e y) = true) : ∀ l m : List α, alikeAll (l.map e) (m.map e) = true
  | [], m => by cases m <;> rfl
  | x :: l, [] => rfl
  | x :: l, y :: m => by simp [alikeAll, h x y, alls_map e h l m]
section
variable {α β : Type} {e : α → T} {f : β → T} {d d2 : Nat} {b c : Bool}
instance [i : EA e b] : EA (eT e) true := ⟨fun x y => by
  show alikeAll (T.pys (List.map e x)) (T.pys (List.map e y)) = true
  rw [pysMap, pysMap]
  exact alls_map _ i.al x y, fun _ => rfl⟩
instance [i : EA e b] [j : EA f c] : EA (eP e f) true := ⟨fun x y => by
  show alikeAll [(e x.1).py, (f x.2).py] [(e y.1).py, (f y.2).py] = true
  simp [alikeAll, i.al, j.al], fun _ => rfl⟩
theorem leT_trans (x y z : T) (h1 : leT x y = true) (h2 : leT y z = true) : leT x z = true := (sortLe_total (PyProof.Rows.listOrd PyProof.Rows.itemOrd) false fun b : T => keyToks b.py).trans x y z h1 h2
theorem leT_total (x y : T) : (leT x y || leT y x) = true := Bool.or_eq_true_iff.mpr <| (sortLe_total (PyProof.Rows.listOrd PyProof.Rows.itemOrd) false fun b : T => keyToks b.py).total x y
variable [DecidableEq α] [DecidableEq β]
theorem leT_anti [i : EO e d] [j : EA e b] {x y : α} (h1 : leT (e x) (e y) = true) (h2 : leT (e y) (e x) = true) : x = y := by
  have k : keyToks (e x).py = keyToks (e y).py := PyProof.Rows.lex_total (O := PyProof.Rows.itemOrd) _ _ (by simpa [leT, dataLe, sortLe] using h2) (by simpa [leT, dataLe, sortLe] using h1)
  by_cases hq : PyData.eqv (e x).py (e y).py = true
  · rw [i.eqv] at hq
    exact of_decide_eq_true hq
  · have := (toks_eqv _ _ (j.al x y)).2 (by simpa using hq) [] [.inl 0]
    rw [k] at this
    rw [PyProof.Rows.lex_irrefl (O := PyProof.Rows.itemOrd)] at this
    exfalso
    have pre : ∀ l : List (Int ⊕ List Nat), PyProof.Rows.lexLt PyProof.Rows.itemOrd (l ++ []) (l ++ [.inl 0]) = true := fun l => by rw [lex_pre]; rfl
    rw [pre] at this
    cases this
/-- .. sorted -/
def srt (e : α → T) (l : List α) : List α := l.mergeSort fun a b => leT (e a) (e b)
omit [DecidableEq α] in
theorem srt_perm (l : List α) : (srt e l).Perm l := List.mergeSort_perm ..
omit [DecidableEq α] in
theorem srt_map (l : List α) : sortT (l.map e) = (srt e l).map e := by
  unfold sortT srt
  exact (List.map_mergeSort (f := e) (r := fun a b => leT (e a) (e b)) (s := leT) (fun a _ b _ => rfl)).symm
omit [DecidableEq α] in
theorem srt_sorted (l : List α) : (srt e l).Pairwise fun a b => leT (e a) (e b) = true :=
  List.pairwise_mergeSort (le := fun a b => leT (e a) (e b)) (fun x y z h1 h2 => leT_trans _ _ _ h1 h2) (fun x y => leT_total _ _) l
omit [DecidableEq α] in
theorem srt_id {l : List α} (h : l.Pairwise fun a b => leT (e a) (e b) = true) : srt e l = l := List.mergeSort_of_pairwise h
theorem srt_eq [i : EO e d] [j : EA e b] {l m : List α} (h : l.Perm m) : srt e l = srt e m :=
  List.Perm.eq_of_pairwise (le := fun x y => leT (e x) (e y) = true) (fun x y _ _ h1 h2 => leT_anti h1 h2) (srt_sorted l) (srt_sorted m) ((srt_perm l).trans (h.trans (srt_perm m).symm))
theorem sOk_map [i : EO e d] [j : EA e b] (l : List α) (hd : d ≤ 64 := by decide) : sOkQ (l.map e) = true := by
  have t := j.tp
  unfold sOkQ
  simp only [List.all_map, Bool.and_eq_true, Bool.or_eq_true, List.all_eq_true, Function.comp]
  refine ⟨fun x hx => ⟨EO.sh x hd, fun y hy => j.al x y⟩, ?_⟩
  cases b with
  | true => exact .inl fun x _ => t x
  | false => exact .inr fun x _ => t x
theorem so_lst [i : EO e d] [j : EA e b] {h : Hv} (l : List α) (hd : d ≤ 64 := by decide) : fSorted false [.lst (l.map e)] h = some (.ok (.lst ((srt e l).map e)), h) := by
  simp [fSorted, itQ, dr, sOk_map l hd, srt_map]
theorem so_tup [i : EO e d] [j : EA e b] {h : Hv} (l : List α) (hd : d ≤ 64 := by decide) : fSorted false [.tup (l.map e)] h = some (.ok (.lst ((srt e l).map e)), h) := by
  simp [fSorted, itQ, dr, sOk_map l hd, srt_map]
end
theorem leT_lt (a b : T) : leT a b = !dataLt b.py a.py := rfl
theorem leT_int (a b : Int) : leT (.int a) (.int b) = decide (a ≤ b) := by
  rw [leT_lt]
  show (!dataLt (.int b) (.int a)) = _
  rw [dataLt_int]
  by_cases h : a ≤ b
  · simp [h]
  · simp [h]; omega
section
variable {α β : Type} {e : α → T} {f : β → T} {d d2 : Nat} {b c : Bool} [DecidableEq α] [DecidableEq β]
theorem leP_core [i : EO e d] [j : EA e b] [i2 : EO f d2] [j2 : EA f c] (p q : α × β) : leT (eP e f p) (eP e f q) = if p.1 = q.1 then leT (f p.2) (f q.2) else leT (e p.1) (e q.1) := by
  rw [leT_lt]
  show (!dataLt (.tuple [(e q.1).py, (f q.2).py]) (.tuple [(e p.1).py, (f p.2).py])) = _
  rw [dataLt_tuple, dataLt_cons (j.al _ _), i.eqv]
  by_cases h : p.1 = q.1
  · rw [if_pos h, if_pos (decide_eq_true h.symm), leT_lt, dataLt_cons (j2.al _ _), i2.eqv]
    by_cases h2 : q.2 = p.2
    · rw [if_pos (decide_eq_true h2), h2]
      have : dataLt (f p.2).py (f p.2).py = false := PyProof.Rows.lex_irrefl (O := PyProof.Rows.itemOrd) _
      rw [this]
      rfl
    · rw [if_neg (by simpa using h2)]
  · rw [if_neg h, if_neg (by simpa using fun z => h z.symm), leT_lt]
end
end Z

/-! P6: after, next. -/
namespace Z
open PySem
theorem mem_aft {x : Dd} {s : List Int} {m : Int} (hm : m ≤ 12) (hs : Row m s) (o : DdOk m x) {f : Int} : f ∈ aft x s ↔ f ∈ x.a ∨ (f ∈ s ∧ f ∉ x.d) := by
  unfold aft
  rw [List.mem_filter]
  constructor
  · rintro ⟨-, h⟩
    simpa using h
  · intro h
    have b : 0 ≤ f ∧ f < m := by
      rcases h with h | h
      · exact o.a.2 f h
      · exact hs.2 f h.1
    refine ⟨List.mem_map.mpr ⟨f.toNat, by simp; omega, by omega⟩, by simpa using h⟩
theorem aft_lt (x : Dd) (s : List Int) : (aft x s).Pairwise (· < ·) := by
  unfold aft
  refine List.Pairwise.filter _ ?_
  rw [List.pairwise_map]
  exact List.pairwise_lt_range.imp fun h => by omega
theorem aft_row {x : Dd} {s : List Int} {m : Int} (hm : m ≤ 12) (hs : Row m s) (o : DdOk m x) : Row m (aft x s) :=
  ⟨aft_lt x s, fun f hf => by
    rcases (mem_aft hm hs o).mp hf with h | h
    · exact o.a.2 f h
    · exact hs.2 f h.1⟩
theorem lt_nodup {l : List Int} (h : l.Pairwise (· < ·)) : l.Nodup := h.imp fun h => by omega
theorem srt_lt {l m : List Int} (h : l.Pairwise (· < ·)) (n : m.Nodup) (q : ∀ f, f ∈ m ↔ f ∈ l) : srt T.int m = l := by
  have p : m.Perm l := (List.perm_ext_iff_of_nodup n (lt_nodup h)).mpr q
  rw [srt_eq p, srt_id]
  exact h.imp fun h => by rw [leT_int]; exact decide_eq_true (by omega)
theorem row_ext {l m : List Int} (h1 : l.Pairwise (· < ·)) (h2 : m.Pairwise (· < ·)) (q : ∀ f, f ∈ m ↔ f ∈ l) : m = l := by
  rw [← srt_lt h1 (lt_nodup h2) q, srt_lt h2 (lt_nodup h2) fun _ => Iff.rfl]
theorem ev_addL {xs ys : List T} {h : Hv} (l : xs.length + ys.length ≤ lim) : fAdd (.lst xs) (.lst ys) h = some (.ok (.lst (xs ++ ys)), h) := by
  simp only [fAdd, lsO, if_pos l]
theorem op_cat {α : Type} {e : α → T} {xs ys : List α} {h : Hv} (l : xs.length + ys.length ≤ lim) : fAdd (.lst (xs.map e)) (.lst (ys.map e)) h = some (.ok (.lst ((xs ++ ys).map e)), h) := by
  rw [ev_addL (by simpa using l), List.map_append]
theorem ev_sortedL {α : Type} [DecidableEq α] {e : α → T} {d : Nat} {b : Bool} [EO e d] [EA e b] {l : List α} {dd : D} {sl : Sl} {h h1 : Hv} (a : dd sl h = some (.ok (.lst (l.map e)), h1)) (hd : d ≤ 64 := by decide) : dCall (fSorted false) (dCons dd dNil) sl h = some (.ok (.lst ((srt e l).map e)), h1) :=
  ev_call (ea_cons a ea_nil) (so_lst l hd)
theorem ev_after {h : Hv} (hk : HOk h) {m : Int} (hm : m ≤ 12) {x : Dd} (o : DdOk m x) {s : List Int} (hs : Row m s) : d_after [eDd x, eF s] h = some (.ok (eF (aft x s)), h) := by
  have l1 : s.length ≤ lim := row_lim hs (by omega)
  have l2 : x.a.length ≤ lim := row_lim o.a (by omega)
  have l3 := row_len hs
  have l4 := row_len o.a
  refine def_val hk (ws_seq (ws_asg (lc_ev (e := T.int) (l := s) (G := T.int) (sr_tup (ev_var 1 rfl)) (fun f hf => lcT_ev rfl (ev_dB (ev_bin (ev_var 3 rfl) (ev_ix (i := 3) (ev_var 0 rfl) ev_c rfl) (ni_tup f x.d))) fun _ => ev_var 3 rfl) l1) rfl
    (ws_ret (ev_tuple (ev_sortedL (e := T.int) (l := (s.filter fun f => !decide (f ∈ x.d)) ++ (x.a.filter fun f => !decide (f ∈ s.filter fun f => !decide (f ∈ x.d)))) (ev_bin (ev_var 2 rfl) (lc_ev (e := T.int) (l := x.a) (G := T.int) (sr_tup (ev_ix (i := 2) (ev_var 0 rfl) ev_c rfl)) (fun f hf => lcT_ev rfl (ev_dB (ev_bin (ev_var 3 rfl) (ev_var 2 rfl) (ni_lst f _))) fun _ => ev_var 3 rfl) l2) (op_cat ?_)))) ?_)))
    (fun n => EO.low (e := eF) (aft x s) n)
  · have a1 := List.length_filter_le (fun f => !decide (f ∈ x.d)) s
    have a2 := List.length_filter_le (fun f => !decide (f ∈ s.filter fun f => !decide (f ∈ x.d))) x.a
    have : lim = 16000000 := rfl
    omega
  · refine ⟨?_, rfl⟩
    show T.tup _ = T.tup _
    congr 2
    refine srt_lt (aft_lt x s) ?_ fun f => ?_
    · rw [List.nodup_append]
      refine ⟨(lt_nodup hs.1).filter _, (lt_nodup o.a.1).filter _, fun y hy z hz e => ?_⟩
      subst e
      have := (List.mem_filter.mp hz).2
      simp only [Bool.not_eq_true', decide_eq_false_iff_not] at this
      exact this hy
    · rw [mem_aft hm hs o, List.mem_append, List.mem_filter, List.mem_filter]
      simp only [Bool.not_eq_true', decide_eq_false_iff_not, List.mem_filter]
      constructor
      · rintro (h | h)
        · exact .inr h
        · exact .inl h.1
      · rintro (h | h)
        · by_cases q : f ∈ s ∧ f ∉ x.d
          · exact .inl q
          · exact .inr ⟨h, q⟩
        · exact .inl h
/-! ### successors -/
def Nxt (w : Wd) (s t : List Int) : Prop := ∃ x ∈ w.ds, fitsB x.n x.b s = true ∧ t = aft x s
def IsNext (w : Wd) (s : List Int) (L : List (Int × List Int)) : Prop := (∀ p ∈ L, Nxt w s p.2) ∧ ∀ t, Nxt w s t → ∃ p ∈ L, p.2 = t
theorem enumT_ev {α : Type} (e : α → T) : ∀ (l : List α) (k : Nat), enumT k (l.map e) = (l.zipIdx k).map fun p => .tup [.int p.2, e p.1]
  | [], k => rfl
  | x :: l, k => by simp [enumT, List.zipIdx_cons, enumT_ev e l (k + 1)]
theorem sr_enum {α : Type} {e : α → T} {l : List α} {d : D} {sl : Sl} {h h1 : Hv} (a : d sl h = some (.ok (.tup (l.map e)), h1)) : dEnum (dCons d dNil) sl h = some (.ok (.fix (l.zipIdx.map fun p => .tup [.int p.2, e p.1])), h1) := by
  simp only [dEnum, dCons, dNil, bnd, a, ret, enumT_ev]
theorem ev_next_states {h : Hv} (hk : HOk h) {w : Wd} (o : WdOk w) {s : List Int} (hs : Row w.m s) : ∃ L, d_next_states [eWd w, eF s] h = some (.ok (.lst (L.map (eP T.int eF))), h) ∧ IsNext w s L := by
  have hm := o.m.2
  have hd : ∀ x ∈ w.ds, DdOk w.m x := o.ds
  refine ⟨(w.ds.zipIdx.filter fun p => fitsB p.1.n p.1.b s).map fun p => ((p.2 : Int), aft p.1 s), ?_, fun p hp => ?_, fun t ht => ?_⟩
  · rw [List.map_map]
    refine def_val hk (ws_ret (lc_ev (G := eP T.int eF ∘ fun p : Dd × Nat => ((p.2 : Int), aft p.1 s)) (sr_enum (e := eDd) (l := w.ds) (ev_ix (i := 1) (ev_var 0 rfl) ev_c rfl)) (fun p hp => ?_) ?_) ⟨rfl, rfl⟩) (fun n => lows_map _ (fun x => EO.low (e := eP T.int eF) _ n) _)
    · have ho := hd p.1 (List.fst_mem_of_mem_zipIdx hp)
      exact lcT_ev rfl (ev_truB (ev_callU (ea_cons (ev_var 3 rfl) (ea_cons (ev_var 1 rfl) ea_nil)) (ev_can (row_lim ho.n (by omega)) (row_lim ho.b (by omega)) hk))) fun _ => ev_tup (ea_cons (ev_var 2 rfl) (ea_cons (ev_callU (ea_cons (ev_var 3 rfl) (ea_cons (ev_var 1 rfl) ea_nil)) (ev_after hk hm ho hs)) ea_nil))
    · rw [List.length_zipIdx]
      exact Nat.le_trans o.len (by decide)
  · obtain ⟨q, h1, rfl⟩ := List.mem_map.mp hp
    obtain ⟨h2, h3⟩ := List.mem_filter.mp h1
    exact ⟨q.1, List.fst_mem_of_mem_zipIdx h2, h3, rfl⟩
  · obtain ⟨x, hx, h1, rfl⟩ := ht
    obtain ⟨i, hi, e⟩ := List.mem_iff_getElem.mp hx
    refine ⟨((i : Int), aft x s), List.mem_map.mpr ⟨(x, i), List.mem_filter.mpr ⟨?_, h1⟩, rfl⟩, rfl⟩
    rw [List.mem_zipIdx_iff_getElem?]
    simp [hi, e]
theorem sr_rngN {sl : Sl} {h h1 : Hv} {d : D} {n : Nat} (a : d sl h = some (.ok (.int n), h1)) (hj : n ≤ 16000000) : dRng1 (dCons d dNil) sl h = some (.ok (.fix ((List.range n).map fun k : Nat => T.int k)), h1) := by
  have e : in62 (n : Int) = true := by
    unfold in62
    exact decide_eq_true ⟨by omega, by omega⟩
  rw [sr_rng1 a e, List.map_map]
  simp [Function.comp_def]
theorem ev_law_next {h : Hv} (hk : HOk h) {w : Wd} (o : WdOk w) {s : List Int} (hs : Row w.m s) : ∃ L, d__law_next [eWd w, eF s] h = some (.ok (.lst (L.map (eP T.int eF))), h) ∧ IsNext w s L ∧ L.length ≤ 24 := by
  have hm := o.m.2
  have hd : ∀ x ∈ w.ds, DdOk w.m x := o.ds
  have hl := o.len
  let g : Nat → Dd := fun k => w.ds.getD k ⟨[], [], [], [], 0⟩
  have hg : ∀ k, k < w.ds.length → w.ds[k]? = some (g k) := fun k hk => by simp [g, hk]
  refine ⟨((List.range w.ds.length).filter fun k => fitsB (g k).n (g k).b s).map fun k : Nat => ((k : Int), aft (g k) s), ?_, ⟨fun p hp => ?_, fun t ht => ?_⟩, ?_⟩
  · rw [List.map_map]
    have src : dRng1 (dCons (dCall fLen (dCons (dBin fIx (dVar 0) (dC (.int 1))) (dNil))) (dNil)) [some (eWd w), some (eF s), none] h = some (.ok (.fix ((List.range w.ds.length).map fun k : Nat => T.int k)), h) := by
      have e0 := ev_lenT (ev_ix (i := 1) (ev_var (sl := [some (eWd w), some (eF s), none]) (h := h) 0 rfl) ev_c (t := eT eDd w.ds) rfl)
      rw [List.length_map] at e0
      exact sr_rngN e0 (by omega)
    have main := fun ta d q => lc_ev (ta := ta) (d := d) (e := fun k : Nat => T.int k) (l := List.range w.ds.length) (vs := [2]) (g := .nm 2) (p := fun k => fitsB (g k).n (g k).b s) (G := eP T.int eF ∘ fun k : Nat => ((k : Int), aft (g k) s)) src q (by rw [List.length_range]; exact Nat.le_trans hl (by decide))
    refine def_val hk (ws_ret (main _ _ fun k hk' => ?_) ⟨rfl, rfl⟩) (fun n => lows_map _ (fun x => EO.low (e := eP T.int eF) _ n) _)
    have hk2 := List.mem_range.mp hk'
    have ho := hd (g k) (List.mem_of_getElem? (hg k hk2))
    have e1 : (w.ds.map eDd)[k]? = some (eDd (g k)) := by rw [List.getElem?_map, hg k hk2]; rfl
    exact lcT_ev rfl (ev_truB (ev_callU (ea_cons (ev_ix (ev_ix (i := 1) (ev_var 0 rfl) ev_c rfl) (ev_var 2 rfl) e1) (ea_cons (ev_var 1 rfl) ea_nil)) (ev_fits_core (row_lim ho.n (by omega)) (row_lim ho.b (by omega)) hk))) fun _ =>
      ev_tup (ea_cons (ev_var 2 rfl) (ea_cons (ev_callU (ea_cons (ev_ix (ev_ix (i := 1) (ev_var 0 rfl) ev_c rfl) (ev_var 2 rfl) e1) (ea_cons (ev_var 1 rfl) ea_nil)) (ev_law_after hk)) ea_nil))
  · obtain ⟨k, h1, rfl⟩ := List.mem_map.mp hp
    obtain ⟨h2, h3⟩ := List.mem_filter.mp h1
    exact ⟨g k, List.mem_of_getElem? (hg k (List.mem_range.mp h2)), h3, rfl⟩
  · obtain ⟨x, hx, h1, rfl⟩ := ht
    obtain ⟨i, hi, e⟩ := List.mem_iff_getElem.mp hx
    have : g i = x := by simp [g, hi, e]
    refine ⟨((i : Int), aft x s), List.mem_map.mpr ⟨i, List.mem_filter.mpr ⟨List.mem_range.mpr hi, by rw [this]; exact h1⟩, by rw [this]⟩, rfl⟩
  · rw [List.length_map]
    exact Nat.le_trans (List.length_filter_le ..) (by rw [List.length_range]; exact hl)
end Z

/-! P7: the states that can be reached. -/
namespace Z
open PySem
theorem nodup_sub_len {α : Type} [DecidableEq α] : ∀ {l m : List α}, l.Nodup → (∀ x ∈ l, x ∈ m) → l.length ≤ m.length
  | [], m, _, _ => Nat.zero_le _
  | x :: l, m, h, s => by
    have hx := s x (List.mem_cons_self ..)
    have := nodup_sub_len (l := l) (m := m.erase x) (List.nodup_cons.mp h).2 fun y hy => by
      have ne : y ≠ x := fun z => (List.nodup_cons.mp h).1 (z ▸ hy)
      exact (List.mem_erase_of_ne ne).mpr (s y (List.mem_cons_of_mem _ hy))
    rw [List.length_erase_of_mem hx] at this
    have : 0 < m.length := List.length_pos_of_mem hx
    simp only [List.length_cons]
    omega
def allRows : Nat → List (List Int)
  | 0 => [[]]
  | n + 1 => allRows n ++ (allRows n).map (· ++ [(n : Int)])
theorem allRows_len : ∀ n, (allRows n).length = 2 ^ n
  | 0 => rfl
  | n + 1 => by simp [allRows, allRows_len n, Nat.pow_succ]; omega
theorem mem_allRows : ∀ {n : Nat} {l : List Int}, Row (n : Int) l ↔ l ∈ allRows n
  | 0, l => by
    constructor
    · intro r
      cases l with
      | nil => simp [allRows]
      | cons x l => have := r.2 x (List.mem_cons_self ..); omega
    · intro h
      simp [allRows] at h
      subst h
      exact ⟨List.Pairwise.nil, by simp⟩
  | n + 1, l => by
    simp only [allRows, List.mem_append, List.mem_map]
    constructor
    · intro r
      by_cases hn : (n : Int) ∈ l
      · right
        obtain ⟨a, b, rfl⟩ := List.append_of_mem hn
        have pw := List.pairwise_append.mp r.1
        have hb : b = [] := by
          cases b with
          | nil => rfl
          | cons y b =>
            have h1 := (List.pairwise_cons.mp pw.2.1).1 y (List.mem_cons_self ..)
            have h2 := (r.2 y (by simp)).2
            omega
        subst hb
        refine ⟨a, mem_allRows.mp ⟨pw.1, fun x hx => ⟨(r.2 x (by simp [hx])).1, pw.2.2 x hx _ (by simp)⟩⟩, rfl⟩
      · left
        refine mem_allRows.mp ⟨r.1, fun x hx => ?_⟩
        have := r.2 x hx
        have : x ≠ n := fun z => hn (z ▸ hx)
        omega
    · rintro (h | ⟨a, h, rfl⟩)
      · have r := mem_allRows.mpr h
        exact ⟨r.1, fun x hx => by have := r.2 x hx; omega⟩
      · have r := mem_allRows.mpr h
        refine ⟨List.pairwise_append.mpr ⟨r.1, by simp, fun x hx y hy => ?_⟩, fun x hx => ?_⟩
        · simp at hy; have := r.2 x hx; omega
        · rcases List.mem_append.mp hx with hx | hx
          · have := r.2 x hx; omega
          · simp at hx; omega
theorem rows_len {m : Int} (h0 : 0 ≤ m) (hm : m ≤ 12) {F : List (List Int)} (nd : F.Nodup) (h : ∀ s ∈ F, Row m s) : F.length ≤ 4096 := by
  have e : ((m.toNat : Nat) : Int) = m := by omega
  have := nodup_sub_len nd (m := allRows m.toNat) fun s hs => mem_allRows.mp (by rw [e]; exact h s hs)
  rw [allRows_len] at this
  have h2 : 2 ^ m.toNat ≤ 2 ^ 12 := Nat.pow_le_pow_right (by omega) (by omega)
  omega
inductive Reach (w : Wd) : List Int → Prop
  | start : Reach w w.s
  | step {s t : List Int} : Reach w s → Nxt w s t → Reach w t
theorem nxt_row {w : Wd} (o : WdOk w) {s t : List Int} (hs : Row w.m s) (n : Nxt w s t) : Row w.m t := by
  obtain ⟨x, hx, _, rfl⟩ := n
  exact aft_row o.m.2 hs (o.ds x hx)
theorem Reach.row {w : Wd} (o : WdOk w) {s : List Int} (r : Reach w s) : Row w.m s := by
  induction r with
  | start => exact o.s
  | step _ n ih => exact nxt_row o ih n
structure RI (w : Wd) (F : List (List Int)) : Prop where
  nd : F.Nodup
  rc : ∀ s ∈ F, Reach w s
  st : w.s ∈ F
theorem RI.len {w : Wd} (o : WdOk w) {F : List (List Int)} (r : RI w F) : F.length ≤ 4096 := rows_len (by have := o.m; omega) o.m.2 r.nd fun s hs => (r.rc s hs).row o
theorem RI.closed {w : Wd} {F : List (List Int)} (r : RI w F) (c : ∀ s ∈ F, ∀ t, Nxt w s t → t ∈ F) : ∀ s, s ∈ F ↔ Reach w s := fun s =>
  ⟨r.rc s, fun h => by
    induction h with
    | start => exact r.st
    | step _ n ih => exact c _ ih _ n⟩
theorem srt_srt (F : List (List Int)) : srt eF (srt eF F) = srt eF F := srt_id (srt_sorted F)
theorem ev_law_reachedS {h : Hv} (hk : HOk h) {w : Wd} (o : WdOk w) : ∃ F : List (List Int), d__law_reached [eWd w] h = some (.ok (.lst (F.map eF)), h) ∧ F.Nodup ∧ (∀ s, s ∈ F ↔ Reach w s) ∧ srt eF F = F := by
  have key : ∃ t h', d__law_reached [eWd w] h = some (.ok t, h') ∧ (h' = h ∧ ∃ F : List (List Int), t = .lst (F.map eF) ∧ F.Nodup ∧ (∀ s, s ∈ F ↔ Reach w s) ∧ srt eF F = F) := by
    refine def_ws (Q := fun t h' => h' = h ∧ ∃ F : List (List Int), t = .lst (F.map eF) ∧ F.Nodup ∧ (∀ s, s ∈ F ↔ Reach w s) ∧ srt eF F = F) ?_
    refine ws_seq (ws_asg (ev_lst (ea_cons (ev_ix (i := 2) (ev_var 0 rfl) ev_c rfl) ea_nil)) rfl (ws_seq (ws_asg ev_c rfl (ws_seq ?_))))
    refine ws_while 4096 (fun n sl g => g = h ∧ ∃ (F : List (List Int)) (i : Nat) (a b : Option T), RI w F ∧ i ≤ F.length ∧ n + i = 4096 ∧ (∀ j s, j < i → F[j]? = some s → ∀ t, Nxt w s t → t ∈ F) ∧ sl = [some (eWd w), some (.lst (F.map eF)), some (.int i), a, b]) (by decide)
      ⟨rfl, [w.s], 0, none, none, ⟨by simp, fun s hs => by simp at hs; subst hs; exact .start, by simp⟩, by simp, rfl, fun j s hj => by omega, rfl⟩ ?_
    rintro n sl g ⟨rfl, F, i, a, b, ri, hi, hn, hc, rfl⟩
    refine ⟨decide ((i : Int) < F.length), g, ?_, ?_⟩
    · have := ev_lenL (l := F.map eF) (ev_var (sl := [some (eWd w), some (.lst (F.map eF)), some (.int i), a, b]) (h := g) 1 rfl)
      rw [List.length_map] at this
      exact ev_dB (ev_bin (ev_var 2 rfl) this rfl)
    · by_cases hlt : i < F.length
      · rw [if_pos (decide_eq_true (by omega))]
        have hF : F[i]? = some F[i] := List.getElem?_eq_getElem hlt
        have hr := (ri.rc F[i] (List.getElem_mem hlt)).row o
        obtain ⟨L, eL, nx, _⟩ := ev_law_next hk o hr
        refine ws_seq (ws_for (e := eP T.int eF) L (fun r sl g' => g' = g ∧ ∃ (ex : List (List Int)) (a b : Option T), RI w (F ++ ex) ∧ (∀ p ∈ L, p ∈ r ∨ p.2 ∈ F ++ ex) ∧ (∀ p ∈ r, p ∈ L) ∧ sl = [some (eWd w), some (.lst ((F ++ ex).map eF)), some (.int i), a, b])
          (sr_lst (ev_callU (ea_cons (ev_var 0 rfl) (ea_cons (ev_ixL (i := i) (ev_var 1 rfl) (ev_var 2 rfl) (by rw [List.getElem?_map, hF]; rfl)) ea_nil)) eL)) ⟨rfl, [], a, b, by simpa using ri, fun p hp => .inl hp, fun _ z => z, by simp⟩ ?_ ?_)
        · rintro p r sl g' ⟨rfl, ex, a, b, ri2, q1, q2, rfl⟩
          refine ⟨_, rfl, ws_if (ev_dB (ev_bin (ev_var 4 rfl) (ev_var 1 rfl) (ni_lst (e := eF) p.2 _))) (fun hk' => ws_asg (ev_bin (ev_var 1 rfl) (ev_lst (ea_cons (ev_var 4 rfl) ea_nil)) (op_cat (e := eF) (ys := [p.2]) ?_)) rfl ?_) fun hk' => ws_nx ?_⟩
          · have := ri2.len o
            have : lim = 16000000 := rfl
            simp only [List.length_cons, List.length_nil]
            omega
          · have hn : p.2 ∉ F ++ ex := by simpa using hk'
            have hp := nx.1 p (q2 p (List.mem_cons_self ..))
            refine ⟨rfl, ex ++ [p.2], _, _, ⟨?_, ?_, ?_⟩, fun q hq => ?_, fun q hq => q2 q (List.mem_cons_of_mem _ hq), by rw [← List.append_assoc]; rfl⟩
            · rw [← List.append_assoc, List.nodup_append]
              exact ⟨ri2.nd, by simp, fun x hx y hy e => by simp at hy; subst hy e; exact hn hx⟩
            · rw [← List.append_assoc]
              intro s hs
              rcases List.mem_append.mp hs with hs | hs
              · exact ri2.rc s hs
              · simp at hs
                subst hs
                exact .step (ri.rc _ (List.getElem_mem hlt)) hp
            · rw [← List.append_assoc]
              exact List.mem_append.mpr (.inl ri2.st)
            · rw [← List.append_assoc]
              rcases q1 q hq with z | z
              · rcases List.mem_cons.mp z with rfl | z
                · exact .inr (by simp)
                · exact .inl z
              · exact .inr (List.mem_append.mpr (.inl z))
          · have hn : p.2 ∈ F ++ ex := by
              simpa only [Bool.not_eq_false', decide_eq_true_eq] using hk'
            refine ⟨rfl, ex, _, _, ri2, fun q hq => ?_, fun q hq => q2 q (List.mem_cons_of_mem _ hq), rfl⟩
            rcases q1 q hq with z | z
            · rcases List.mem_cons.mp z with rfl | z
              · exact .inr hn
              · exact .inl z
            · exact .inr z
        · rintro sl g' ⟨rfl, ex, a, b, ri2, q1, q2, rfl⟩
          refine ws_asg (ev_bin (ev_var 2 rfl) ev_c rfl) rfl ⟨n - 1, ?_, rfl, F ++ ex, i + 1, a, b, ri2, ?_, ?_, ?_, rfl⟩
          · have := ri.len o
            omega
          · rw [List.length_append]; omega
          · have := ri.len o
            omega
          · intro j s hj hs t ht
            by_cases hji : j = i
            · subst hji
              rw [List.getElem?_append_left hlt, hF] at hs
              cases hs
              obtain ⟨p, hp, rfl⟩ := nx.2 t ht
              rcases q1 p hp with z | z
              · cases z
              · exact z
            · rw [List.getElem?_append_left (by omega)] at hs
              exact List.mem_append.mpr (.inl (hc j s (by omega) hs t ht))
      · rw [if_neg (by simp; omega)]
        refine ws_ret (ev_sortedL (e := eF) (ev_var 1 rfl)) (endOk0 hk (fun n => lows_map _ (fun x => EO.low (e := eF) _ n) _) ⟨rfl, srt eF F, rfl, (srt_perm F).nodup_iff.mpr ri.nd, fun s => ?_, srt_srt F⟩)
        rw [(srt_perm F).mem_iff]
        refine ri.closed (fun s hs t ht => ?_) s
        obtain ⟨j, hj, e⟩ := List.mem_iff_getElem.mp hs
        exact hc j s (by omega) (by rw [List.getElem?_eq_getElem hj, e]) t ht
  obtain ⟨t, h', e, rfl, F, rfl, q⟩ := key
  exact ⟨F, e, q⟩
theorem ev_law_reached {h : Hv} (hk : HOk h) {w : Wd} (o : WdOk w) : ∃ F : List (List Int), d__law_reached [eWd w] h = some (.ok (.lst (F.map eF)), h) ∧ F.Nodup ∧ ∀ s, s ∈ F ↔ Reach w s := by
  obtain ⟨F, a, b, c, _⟩ := ev_law_reachedS hk o
  exact ⟨F, a, b, c⟩
end Z

/-! P8: own dicts and lists; reached. -/
namespace Z
open PySem
mutual
theorem low_mono {n m : Nat} (h : n ≤ m) : ∀ t : T, t.low n = true → t.low m = true
  | .non, _ => rfl
  | .bl _, _ => rfl
  | .int _, _ => rfl
  | .str _, _ => rfl
  | .tup xs, q => lows_mono h xs q
  | .lst xs, q => lows_mono h xs q
  | .arg xs, q => lows_mono h xs q
  | .dk _ xs, q => lows_mono h xs q
  | .dt _ xs, q => lows_mono h xs q
  | .ref k, q => by
    have : k < n := of_decide_eq_true q
    exact decide_eq_true (by omega)
theorem lows_mono {n m : Nat} (h : n ≤ m) : ∀ t : List T, T.lows n t = true → T.lows m t = true
  | [], _ => rfl
  | x :: xs, q => by
    simp only [T.lows, Bool.and_eq_true] at q ⊢
    exact ⟨low_mono h x q.1, lows_mono h xs q.2⟩
end
theorem olow_mono {n m : Nat} (h : n ≤ m) (o : O) (q : o.low n = true) : o.low m = true := by
  cases o <;> exact lows_mono h _ q
theorem HOk.app {h ex : Hv} (a : HOk h) (b : ∀ o ∈ ex, o.low 0 = true) : HOk (h ++ ex) := by
  unfold HOk at *
  rw [List.all_eq_true] at *
  intro o ho
  rcases List.mem_append.mp ho with ho | ho
  · exact olow_mono (by simp) o (a o ho)
  · exact olow_mono (by simp) o (b o ho)
section
variable {sl sl' sl1 : Sl} {h h0 h1 h2 h3 ex : Hv} {t x y z v : T} {ts xs : List T} {d da db dc : D} {ds : DA} {o o1 o2 : O} {n : Nat}
theorem g0 : (h0 ++ o :: ex)[h0.length]? = some o := by simp
theorem s0 : (h0 ++ o :: ex).set h0.length o1 = h0 ++ o1 :: ex := by simp
theorem g1 : (h0 ++ o :: o1 :: ex)[h0.length + 1]? = some o1 := by simp
theorem s1 : (h0 ++ o :: o1 :: ex).set (h0.length + 1) o2 = h0 ++ o :: o2 :: ex := by simp
theorem ev_lstO (a : ds sl h = some (.ok xs, h1)) (l : xs.length ≤ lim := by exact Nat.le_of_ble_eq_true rfl) : dLstO ds sl h = some (.ok (.ref h1.length), h1 ++ [.lst xs]) := by simp only [dLstO, bnd, a, if_pos l, own]
theorem ev_disp1 {k : List L2.Key} (a : da sl h = some (.ok x, h1)) (b : db sl h1 = some (.ok v, h2)) (q : keysOf x = some k) : dDisp true [(da, db)] sl h = some (.ok (.ref h2.length), h2 ++ [.dt false [k] [v]]) := by
  simp [dDisp, dPairs, nox, bnd, a, b, ret, dicR, mkD, insT, q, putKs, putV, own, lim]
theorem tru_lst (g : h[n]? = some (.lst xs)) : fTru (.ref n) h = some (.ok (!xs.isEmpty), h) := by simp only [fTru, g]
theorem ev_pop (a : d sl h = some (.ok (.ref n), h1)) (g : h1[n]? = some (.lst (xs ++ [x]))) : dMeth0 .list fPop d sl h = some (.ok x, h1.set n (.lst xs)) := by
  simp [dMeth0, bnd, a, tyQ, g, fPop]
theorem ev_append (a : d sl h = some (.ok (.ref n), h1)) (b : da sl h1 = some (.ok x, h1)) (g : h1[n]? = some (.lst xs)) (l : xs.length < lim) : dMeth .list fAppend d (dCons da dNil) sl h = some (.ok .non, h1.set n (.lst (xs ++ [x]))) := by
  simp [dMeth, bnd, a, tyQ, g, fAppend, dCons, dNil, b, ret, l]
end
theorem look_some {κ : Type} [DecidableEq κ] : ∀ {ks : List κ} {vs : List T} (j : κ), vs.length = ks.length → (lookT ks vs j).isSome = decide (j ∈ ks)
  | [], vs, j, _ => by simp [lookT]
  | k :: ks, [], j, h => by simp at h
  | k :: ks, v :: vs, j, h => by
    simp only [lookT]
    by_cases hk : k = j
    · simp [hk]
    · rw [if_neg hk, look_some j (by simpa using h)]
      have : ¬ j = k := fun z => hk z.symm
      simp [this]
/-- a tuple of ints as a key -/
def kS (s : List Int) : List L2.Key := s.map Sum.inl
theorem kS_inj {s t : List Int} : kS s = kS t ↔ s = t := by
  constructor
  · intro h
    unfold kS at h
    exact (List.map_inj_right (fun a b e => by cases e; rfl)).mp h
  · rintro rfl; rfl
theorem keys_eF (s : List Int) : keysOf (eF s) = some (kS s) := by
  show keysL (s.map T.int) = some (s.map Sum.inl)
  induction s with
  | nil => rfl
  | cons x s ih => simp [keysL, keyOf, ih]
theorem kS_T (s : List Int) : T.tup ((kS s).map keyT) = eF s := by
  show T.tup _ = T.tup _
  simp [kS, keyT, Function.comp_def]
theorem kS_mem {s : List Int} {F : List (List Int)} : kS s ∈ F.map kS ↔ s ∈ F := by
  rw [List.mem_map]
  exact ⟨fun ⟨a, h, e⟩ => kS_inj.mp e ▸ h, fun h => ⟨s, h, rfl⟩⟩
theorem ni_dt {h : Hv} {n : Nat} {F : List (List Int)} {vs : List T} {s : List Int} (g : h[n]? = some (.dt false (F.map kS) vs)) (l : vs.length = F.length) : fNotIn (eF s) (.ref n) h = some (.ok (.bl (!decide (s ∈ F))), h) := by
  have q : inQ h (eF s) (.ref n) = some (decide (s ∈ F)) := by
    unfold inQ
    simp only [dr, g, dkLook, keys_eF, Option.map_some]
    rw [look_some _ (by simpa using l)]
    simp [kS_mem]
  unfold fNotIn
  rw [q]
theorem in_dt {h : Hv} {n : Nat} {F : List (List Int)} {vs : List T} {s : List Int} (g : h[n]? = some (.dt false (F.map kS) vs)) (l : vs.length = F.length) : fIn (eF s) (.ref n) h = some (.ok (.bl (decide (s ∈ F))), h) := by
  have q : inQ h (eF s) (.ref n) = some (decide (s ∈ F)) := by
    unfold inQ
    simp only [dr, g, dkLook, keys_eF, Option.map_some]
    rw [look_some _ (by simpa using l)]
    simp [kS_mem]
  unfold fIn
  rw [q]
theorem set_dt {h : Hv} {n : Nat} {F : List (List Int)} {vs : List T} {s : List Int} {v : T} (g : h[n]? = some (.dt false (F.map kS) vs)) (l : F.length < lim) (hs : s ∉ F) : fSet (.ref n) (eF s) v h = some (h.set n (.dt false ((F ++ [s]).map kS) (vs ++ [v]))) := by
  have hm : kS s ∉ F.map kS := fun z => hs (kS_mem.mp z)
  simp only [fSet, g, keys_eF, List.length_map, if_pos l, putKs, putV, if_neg hm, List.map_append, List.map_cons, List.map_nil]
theorem so_dt {h : Hv} {n : Nat} {F : List (List Int)} {vs : List T} (g : h[n]? = some (.dt false (F.map kS) vs)) : fSorted false [.ref n] h = some (.ok (.lst ((srt eF F).map eF)), h) := by
  have e : (F.map kS).map (fun k => T.tup (k.map keyT)) = F.map eF := by
    rw [List.map_map]
    exact List.map_congr_left fun s _ => kS_T s
  simp only [fSorted, itQ, dr, g, e]
  rw [sOk_map F]
  simp [srt_map]
end Z

/-! A1: what the local tactics lean on. -/
namespace Z
open PySem
theorem ev_sortedL' {α : Type} {iq : DecidableEq α} {e : α → T} {d : Nat} {b : Bool} {l : List α} {dd : D} {sl : Sl} {h h1 : Hv} (a : dd sl h = some (.ok (.lst (l.map e)), h1)) (i : EO e d) (j : EA e b) (hd : d ≤ 64) : dCall (fSorted false) (dCons dd dNil) sl h = some (.ok (.lst ((srt e l).map e)), h1) := ev_sortedL a hd
theorem side_le {a b : Nat} (h : a ≤ b) : a ≤ b := h
section
variable {i j : Int} {h : Hv}
theorem oi_add : fAdd (.int i) (.int j) h = some (.ok (.int (i + j)), h) := rfl
theorem oi_sub : fSub (.int i) (.int j) h = some (.ok (.int (i - j)), h) := rfl
theorem oi_lt : fLt (.int i) (.int j) h = some (.ok (.bl (decide (i < j))), h) := rfl
theorem oi_le : fLe (.int i) (.int j) h = some (.ok (.bl (decide (i ≤ j))), h) := rfl
theorem oi_gt : fGt (.int i) (.int j) h = some (.ok (.bl (decide (j < i))), h) := rfl
theorem oi_ge : fGe (.int i) (.int j) h = some (.ok (.bl (decide (j ≤ i))), h) := rfl
theorem op_catT {α : Type} {e : α → T} {xs ys : List α} (l : xs.length + ys.length ≤ lim) : fAdd (.tup (xs.map e)) (.tup (ys.map e)) h = some (.ok (.tup ((xs ++ ys).map e)), h) := by
  simp only [fAdd, List.length_map, if_pos l, ret, List.map_append]
theorem op_neT {α : Type} [DecidableEq α] {e : α → T} {d : Nat} [EO e d] (l m : List α) (hd : d + 1 ≤ 64 := by decide) : fNe (.tup (l.map e)) (.tup (m.map e)) h = some (.ok (.bl (decide (l ≠ m))), h) := op_ne (e := eT e) l m hd
theorem op_neL {α : Type} [DecidableEq α] {e : α → T} {d : Nat} [EO e d] (l m : List α) (hd : d + 1 ≤ 64 := by decide) : fNe (.lst (l.map e)) (.lst (m.map e)) h = some (.ok (.bl (decide (l ≠ m))), h) := op_ne (e := eL e) l m hd
theorem op_eqT {α : Type} [DecidableEq α] {e : α → T} {d : Nat} [EO e d] (l m : List α) (hd : d + 1 ≤ 64 := by decide) : fEq (.tup (l.map e)) (.tup (m.map e)) h = some (.ok (.bl (decide (l = m))), h) := op_eq (e := eT e) l m hd
theorem op_eqL {α : Type} [DecidableEq α] {e : α → T} {d : Nat} [EO e d] (l m : List α) (hd : d + 1 ≤ 64 := by decide) : fEq (.lst (l.map e)) (.lst (m.map e)) h = some (.ok (.bl (decide (l = m))), h) := op_eq (e := eL e) l m hd
theorem op_neT0 {α : Type} [DecidableEq α] {e : α → T} {d : Nat} [EO e d] (l : List α) (hd : d + 1 ≤ 64 := by decide) : fNe (.tup (l.map e)) (.tup []) h = some (.ok (.bl (decide (l ≠ []))), h) := op_ne (e := eT e) l [] hd
theorem op_eqT0 {α : Type} [DecidableEq α] {e : α → T} {d : Nat} [EO e d] (l : List α) (hd : d + 1 ≤ 64 := by decide) : fEq (.tup (l.map e)) (.tup []) h = some (.ok (.bl (decide (l = []))), h) := op_eq (e := eT e) l [] hd
theorem op_neS {α : Type} [DecidableEq α] {e : α → T} {d : Nat} [EO e d] (x : α) (hd : d ≤ 64 := by decide) : fNe (e x) (e x) h = some (.ok (.bl false), h) := (op_ne (e := e) x x hd).trans (by simp)
theorem op_eqS {α : Type} [DecidableEq α] {e : α → T} {d : Nat} [EO e d] (x : α) (hd : d ≤ 64 := by decide) : fEq (e x) (e x) h = some (.ok (.bl true), h) := (op_eq (e := e) x x hd).trans (by simp)
theorem oi_neg : fNeg (.int i) h = some (.ok (.int (-i)), h) := rfl
end
theorem ev_dIf {sl : Sl} {h h1 h2 : Hv} {c : DB} {a b : D} {k : Bool} {t : T} (e : c sl h = some (.ok k, h1)) (e1 : k = true → a sl h1 = some (.ok t, h2)) (e2 : k = false → b sl h1 = some (.ok t, h2)) : dIf c a b sl h = some (.ok t, h2) := by
  simp only [dIf, bnd, e]
  cases k
  · exact e2 rfl
  · exact e1 rfl
/-! ### statements in a row -/
section
variable {sl sl' sl1 : Sl} {h h1 h2 h3 h4 : Hv} {t x y z v o : T} {ts xs : List T} {d da db dc : D} {ds : DA} {ta tb : DB} {f g : T → T → M T} {F : List T → M T} {k k2 : Bool} {i j n : Nat} {sr : DR} {s : Sr} {Q Q' : Po} {a b r : DS} {tg : Tg}
theorem ws_asgS (e : d sl h = some (.ok t, h1)) (q : setTg tg t sl = some sl') (w : WS (b sl' h1) Q) : WS (dSeq (dAsg tg d) b sl h) Q := ws_seq (ws_asg e q w)
theorem ws_exprS (e : d sl h = some (.ok t, h1)) (w : WS (b sl h1) Q) : WS (dSeq (dExpr d) b sl h) Q := ws_seq (ws_expr e w)
theorem ws_parS (e : ds sl h = some (.ok [x, y], h1)) (w : WS (b ((sl.set i (some x)).set j (some y)) h1) Q) : WS (dSeq (dPar i j ds) b sl h) Q := ws_seq (ws_par i j e w)
theorem ws_augS (q : sl[i]? = some (some x)) (e : d sl h = some (.ok y, h1)) (e2 : f x y h1 = some (.ok t, h2)) (w : WS (b (sl.set i (some t)) h2) Q) : WS (dSeq (dAug i f d) b sl h) Q := ws_seq (ws_aug i q e e2 w)
theorem ws_setS (e : d sl h = some (.ok v, h1)) (e1 : da sl h1 = some (.ok o, h2)) (e2 : db sl h2 = some (.ok x, h3)) (q : fSet o x v h3 = some h4) (w : WS (b sl h4) Q) : WS (dSeq (dSet d da db) b sl h) Q := ws_seq (ws_set e e1 e2 q w)
/-- if c: (not taken) -/
theorem ws_skipS (e : ta sl h = some (.ok k, h1)) (hk : k = false) (w : WS (b sl h1) Q) : WS (dSeq (dIfS ta a dNx) b sl h) Q := by
  subst hk
  exact ws_seq (ws_if e (fun z => nomatch z) fun _ => ws_nx w)
theorem ws_skip (e : ta sl h = some (.ok k, h1)) (hk : k = false) (w : Q.nx sl h1) : WS (dIfS ta a dNx sl h) Q := by
  subst hk
  exact ws_if e (fun z => nomatch z) fun _ => ws_nx w
theorem ws_ifS (e : ta sl h = some (.ok k, h1)) (w1 : k = true → WS (a sl h1) { Q with nx := fun sl h => WS (b sl h) Q }) (w2 : k = false → WS (r sl h1) { Q with nx := fun sl h => WS (b sl h) Q }) : WS (dSeq (dIfS ta a r) b sl h) Q := ws_seq (ws_if e w1 w2)
/-- for .. in l: B, where each turn leaves all as it stands but the loop's own names -/
theorem ws_forS {α : Type} {e : α → T} {B : DS} {l : List α} (I : List α → Sl → Hv → Prop) (es : sr sl h = some (.ok (.fix (l.map e)), h1)) (h0 : I l sl h1) (step : ∀ x r sl h, I (x :: r) sl h → ∃ sl1, setTg tg (e x) sl = some sl1 ∧ WS (B sl1 h) { nx := I r, ct := I r, bk := fun sl h => WS (b sl h) Q, rt := Q.rt })
    (fin : ∀ sl h, I [] sl h → WS (b sl h) Q) : WS (dSeq (dFor sr tg B) b sl h) Q := ws_seq (ws_for l I es h0 step fin)
/-! ### exceptions -/
/-- it raises; what stood ahead stands -/
structure Exc (h0 : Hv) (c : Str) (r : Option (Fl × Sl × Hv)) : Prop where
  ok : ∃ sl h', r = some (.exc c, sl, h') ∧ h'.take h0.length = h0
variable {h0 h' : Hv} {c : Str}
theorem ex_raise (k : h.take h0.length = h0) : Exc h0 c (dRaise c sl h) := ⟨_, _, rfl, k⟩
theorem ex_seq (w : WS (a sl h) ⟨fun sl h => Exc h0 c (b sl h), fun _ _ => False, fun _ _ => False, fun _ _ => False⟩) : Exc h0 c (dSeq a b sl h) := by
  have w := w.ok
  unfold dSeq
  cases e : a sl h with
  | none => rw [e] at w; exact w.elim
  | some r =>
    obtain ⟨fl, sl', h'⟩ := r
    rw [e] at w
    cases fl with
    | nx => exact w
    | _ => exact w.elim
theorem ex_seqL (w : Exc h0 c (a sl h)) : Exc h0 c (dSeq a b sl h) := by
  obtain ⟨sl', h', e, k⟩ := w.ok
  exact ⟨sl', h', by simp only [dSeq, e], k⟩
theorem ex_if (e : ta sl h = some (.ok k, h1)) (w1 : k = true → Exc h0 c (a sl h1)) (w2 : k = false → Exc h0 c (b sl h1)) : Exc h0 c (dIfS ta a b sl h) := by
  refine ⟨?_⟩
  simp only [dIfS, stE, e]
  cases k
  · exact (w2 rfl).ok
  · exact (w1 rfl).ok
theorem ex_expr (e : d sl h = some (.exc c, h')) (k : h'.take h0.length = h0) : Exc h0 c (dExpr d sl h) := ⟨sl, h', by simp only [dExpr, stE, e], k⟩
theorem ex_asg (e : d sl h = some (.exc c, h')) (k : h'.take h0.length = h0) : Exc h0 c (dAsg tg d sl h) := ⟨sl, h', by simp only [dAsg, stE, e], k⟩
theorem ex_ret (e : d sl h = some (.exc c, h')) (k : h'.take h0.length = h0) : Exc h0 c (dRet d sl h) := ⟨sl, h', by simp only [dRet, stE, e], k⟩
theorem def_ex {np nl : Nat} (w : Exc h c (b (ts.map some ++ List.replicate (nl - ts.length) none) h)) (hn : ts.length = np := by rfl) : ∃ h', dDef false np nl b ts h = some (.exc c, h') ∧ h'.take h.length = h := by
  obtain ⟨sl', h', e, k⟩ := w.ok
  exact ⟨h', by unfold dDef; rw [if_pos hn, e], k⟩
theorem ev_callX {n : Nat} (a : ds sl h = some (.ok ts, h1)) (b : F ts h1 = some (.exc c, h2)) (hl : ts.length = n := by rfl) : dCall (fun ts => if ts.length = n then F ts else bot) ds sl h = some (.exc c, h2) := by simp only [dCall, bnd, a, if_pos hl, b]
theorem ev_callA (a : ds sl h = some (.exc c, h1)) : dCall F ds sl h = some (.exc c, h1) := by simp only [dCall, bnd, a]
theorem ea_consX (a : d sl h = some (.exc c, h1)) : dCons d ds sl h = some (.exc c, h1) := by simp only [dCons, bnd, a]
theorem ev_binL (a : da sl h = some (.exc c, h1)) : dBin f da db sl h = some (.exc c, h1) := by simp only [dBin, bnd, a]
theorem sr_X (a : d sl h = some (.exc c, h1)) : dSrc d sl h = some (.exc c, h1) := by simp only [dSrc, bnd, a]
theorem ev_refT {cs : List Str} (hk : HOk h) (e : ∃ h', d sl h = some (.exc c, h') ∧ h'.take h.length = h) (m : c ∈ cs) : dRefused cs d sl h = some (.ok (.bl true), h) := by
  obtain ⟨h', e, k⟩ := e
  unfold dRefused endD
  unfold HOk at hk
  simp [e, m, k, hk, T.low, frT]
theorem ev_refF {cs : List Str} {t : T} (hk : HOk h) (e : ∃ h', d sl h = some (.ok t, h') ∧ h'.take h.length = h) : dRefused cs d sl h = some (.ok (.bl false), h) := by
  obtain ⟨h', e, k⟩ := e
  unfold dRefused endD
  unfold HOk at hk
  simp [e, k, hk, T.low, frT]
end
end Z

/-! A2: successors exactly; plans. -/
namespace Z
open PySem
/-! the tactics of this text (local): k_places evaluates what stands on the left; k_memK: what may be left open -/
local macro_rules | `(tactic| k_memK) => `(tactic| first
  | exact Nat.le_of_ble_eq_true rfl
  | assumption
  | (with_reducible apply side_le))
local macro_rules | `(tactic| k_places) => `(tactic| first
  | (with_reducible assumption)
  | (with_reducible exact ev_c)
  | ((with_reducible apply ev_var); rfl)
  | (with_reducible exact ea_nil)
  | (intro _; k_places)
  | ((with_reducible apply ea_cons) <;> k_places)
  | ((with_reducible apply ev_callU) <;> first | k_places | rfl)
  | ((with_reducible apply ev_tuple) <;> k_places)
  | ((with_reducible apply ev_tupleT) <;> k_places)
  | ((with_reducible apply ev_lenT) <;> k_places)
  | ((with_reducible apply ev_lenL) <;> k_places)
  | ((with_reducible apply ev_all) <;> k_places)
  | ((with_reducible apply ev_any) <;> k_places)
  | ((with_reducible apply ev_sortedL') <;> first | k_places | infer_instance | decide)
  | ((with_reducible apply ev_dB) <;> k_places)
  | ((with_reducible apply ev_truB) <;> k_places)
  | ((with_reducible apply ev_andV) <;> k_places)
  | ((with_reducible apply ev_orV) <;> k_places)
  | ((with_reducible apply ev_notV) <;> k_places)
  | ((with_reducible apply ev_and) <;> k_places)
  | ((with_reducible apply ev_or) <;> k_places)
  | ((with_reducible apply ev_not) <;> k_places)
  | ((with_reducible apply ev_chn) <;> k_places)
  | ((with_reducible apply ev_tup) <;> first | k_places | k_memK)
  | ((with_reducible apply ev_lst) <;> first | k_places | k_memK)
  | ((with_reducible apply ev_ix) <;> first | k_places | rfl)
  | ((with_reducible apply ev_ixL) <;> first | k_places | rfl)
  | ((with_reducible apply lc_evA) <;> first | k_places | (intro _ _; (apply lcY_ev rfl); k_places) | k_memK)
  | ((with_reducible apply lc_ev) <;> first | k_places | (intro _ _; (apply lcT_ev rfl) <;> k_places) | k_memK)
  | ((with_reducible apply ev_bin) <;> k_places)
  | ((with_reducible apply ev_un) <;> k_places)
  | ((with_reducible apply sr_tup) <;> k_places)
  | ((with_reducible apply sr_lst) <;> k_places)
  | ((with_reducible apply sr_rng1) <;> first | k_places | k_memK)
  | ((with_reducible apply op_cat) <;> k_memK)
  | ((with_reducible apply op_catT) <;> k_memK)
  | exact oi_add | exact oi_sub | exact oi_lt | exact oi_le | exact oi_gt | exact oi_ge | exact oi_neg
  | exact op_neT _ _ | exact op_neL _ _ | exact op_eqT _ _ | exact op_eqL _ _ | exact op_neT0 _ | exact op_eqT0 _
  | exact op_eq _ _ | exact op_ne _ _ | exact in_tup _ _ | exact in_lst _ _ | exact ni_tup _ _ | exact ni_lst _ _)
/-! ### successors, exactly -/
def nxtL (w : Wd) (s : List Int) : List (Int × List Int) := (w.ds.zipIdx.filter fun p => fitsB p.1.n p.1.b s).map fun p => ((p.2 : Int), aft p.1 s)
theorem mem_nxtL {w : Wd} {s : List Int} {p : Int × List Int} : p ∈ nxtL w s ↔ ∃ (i : Nat) (x : Dd), w.ds[i]? = some x ∧ fitsB x.n x.b s = true ∧ p = ((i : Int), aft x s) := by
  unfold nxtL
  rw [List.mem_map]
  constructor
  · rintro ⟨⟨x, i⟩, h, rfl⟩
    obtain ⟨h1, h2⟩ := List.mem_filter.mp h
    exact ⟨i, x, by simpa using List.mem_zipIdx_iff_getElem?.mp h1, h2, rfl⟩
  · rintro ⟨i, x, h1, h2, rfl⟩
    exact ⟨(x, i), List.mem_filter.mpr ⟨List.mem_zipIdx_iff_getElem?.mpr (by simpa using h1), h2⟩, rfl⟩
theorem isNext_nxtL (w : Wd) (s : List Int) : IsNext w s (nxtL w s) := ⟨fun p hp => by
    obtain ⟨i, x, h1, h2, rfl⟩ := mem_nxtL.mp hp
    exact ⟨x, List.mem_of_getElem? h1, h2, rfl⟩, fun t ⟨x, hx, h1, e⟩ => by
    obtain ⟨i, hi, q⟩ := List.mem_iff_getElem.mp hx
    exact ⟨((i : Int), aft x s), mem_nxtL.mpr ⟨i, x, by rw [List.getElem?_eq_getElem hi, q], h1, rfl⟩, e.symm⟩⟩
theorem nxtL_len (w : Wd) (s : List Int) : (nxtL w s).length ≤ w.ds.length := by
  unfold nxtL
  rw [List.length_map]
  exact Nat.le_trans (List.length_filter_le ..) (by rw [List.length_zipIdx]; exact Nat.le_refl _)
theorem ev_next_statesE {h : Hv} (hk : HOk h) {w : Wd} (o : WdOk w) {s : List Int} (hs : Row w.m s) : d_next_states [eWd w, eF s] h = some (.ok (.lst ((nxtL w s).map (eP T.int eF))), h) := by
  have hm := o.m.2
  have hd : ∀ x ∈ w.ds, DdOk w.m x := o.ds
  unfold nxtL
  rw [List.map_map]
  refine def_val hk (ws_ret (lc_ev (G := eP T.int eF ∘ fun p : Dd × Nat => ((p.2 : Int), aft p.1 s)) (sr_enum (e := eDd) (l := w.ds) (ev_ix (i := 1) (ev_var 0 rfl) ev_c rfl)) (fun p hp => ?_) ?_) ⟨rfl, rfl⟩) (fun n => lows_map _ (fun x => EO.low (e := eP T.int eF) _ n) _)
  · have ho := hd p.1 (List.fst_mem_of_mem_zipIdx hp)
    exact lcT_ev rfl (ev_truB (ev_callU (ea_cons (ev_var 3 rfl) (ea_cons (ev_var 1 rfl) ea_nil)) (ev_can (row_lim ho.n (by omega)) (row_lim ho.b (by omega)) hk))) fun _ => ev_tup (ea_cons (ev_var 2 rfl) (ea_cons (ev_callU (ea_cons (ev_var 3 rfl) (ea_cons (ev_var 1 rfl) ea_nil)) (ev_after hk hm ho hs)) ea_nil))
  · rw [List.length_zipIdx]
    exact Nat.le_trans o.len (by decide)
def gD (w : Wd) (k : Int) : Dd := w.ds.getD k.toNat ⟨[], [], [], [], 0⟩
theorem gD_get {w : Wd} {k : Int} (h : 0 ≤ k ∧ k < w.ds.length) : w.ds[k.toNat]? = some (gD w k) := by
  have : k.toNat < w.ds.length := by omega
  simp [gD, this]
theorem gD_mem {w : Wd} {k : Int} (h : 0 ≤ k ∧ k < w.ds.length) : gD w k ∈ w.ds := List.mem_of_getElem? (gD_get h)
theorem at_int {xs : List T} {k : Int} {t : T} (h0 : 0 ≤ k) (e : xs[k.toNat]? = some t) : L2.atI xs k = some t := by
  obtain ⟨n, rfl⟩ : ∃ n : Nat, k = n := ⟨k.toNat, by omega⟩
  exact at_nat (by simpa using e)
theorem at_last {α : Type} {xs : List α} {t : α} : L2.atI (xs ++ [t]) (-1) = some t := by
  unfold L2.atI L2.ixN
  rw [if_neg (by decide), if_pos (by simp; omega)]
  have e : (-1 + ((xs ++ [t]).length : Int)).toNat = xs.length := by simp; omega
  simp only [Option.bind_some, e]
  simp
section
variable {sl : Sl} {h h1 h2 : Hv} {da db : D} {k : Int} {t : T} {xs : List T} {n : Nat}
theorem ev_ixI (a : da sl h = some (.ok (.tup xs), h1)) (b : db sl h1 = some (.ok (.int k), h2)) (c : L2.atI xs k = some t) : dBin fIx da db sl h = some (.ok t, h2) := ev_bin a b (by simp only [fIx, dr, c, Option.map_some])
theorem ev_ixIL (a : da sl h = some (.ok (.lst xs), h1)) (b : db sl h1 = some (.ok (.int k), h2)) (c : L2.atI xs k = some t) : dBin fIx da db sl h = some (.ok t, h2) := ev_bin a b (by simp only [fIx, dr, c, Option.map_some])
theorem ev_ixIO (a : da sl h = some (.ok (.ref n), h1)) (b : db sl h1 = some (.ok (.int k), h2)) (g : h2[n]? = some (.lst xs)) (c : L2.atI xs k = some t) : dBin fIx da db sl h = some (.ok t, h2) := ev_bin a b (by simp only [fIx, dr, g, c, Option.map_some])
end
theorem ix_deed {w : Wd} {k : Int} (h : 0 ≤ k ∧ k < w.ds.length) : L2.atI (w.ds.map eDd) k = some (eDd (gD w k)) := at_int h.1 (by rw [List.getElem?_map, gD_get h]; rfl)
theorem zipIdx_range {α : Type} (d : α) (l : List α) : l.zipIdx = (List.range l.length).map fun k => (l.getD k d, k) := by
  apply List.ext_getElem?
  intro i
  rw [List.getElem?_map, List.getElem?_zipIdx]
  by_cases hi : i < l.length
  · simp [hi]
  · simp [List.getElem?_eq_none (by omega : l.length ≤ i), List.getElem?_eq_none (by simp; omega : (List.range l.length).length ≤ i)]
theorem ev_law_nextE {h : Hv} (hk : HOk h) {w : Wd} (o : WdOk w) {s : List Int} : d__law_next [eWd w, eF s] h = some (.ok (.lst ((nxtL w s).map (eP T.int eF))), h) := by
  have hm := o.m.2
  have hd : ∀ x ∈ w.ds, DdOk w.m x := o.ds
  have hl := o.len
  have e0 : nxtL w s = ((List.range w.ds.length).filter fun k : Nat => fitsB (gD w k).n (gD w k).b s).map fun k : Nat => ((k : Int), aft (gD w k) s) := by
    unfold nxtL
    rw [zipIdx_range ⟨[], [], [], [], 0⟩, List.filter_map, List.map_map]
    rfl
  rw [e0, List.map_map]
  have src : dRng1 (dCons (dCall fLen (dCons (dBin fIx (dVar 0) (dC (.int 1))) (dNil))) (dNil)) [some (eWd w), some (eF s), none] h = some (.ok (.fix ((List.range w.ds.length).map fun k : Nat => T.int k)), h) := by
    have e0 := ev_lenT (ev_ix (i := 1) (ev_var (sl := [some (eWd w), some (eF s), none]) (h := h) 0 rfl) ev_c (t := eT eDd w.ds) rfl)
    rw [List.length_map] at e0
    exact sr_rngN e0 (by omega)
  have main := fun ta d q => lc_ev (ta := ta) (d := d) (e := fun k : Nat => T.int k) (l := List.range w.ds.length) (vs := [2]) (g := .nm 2) (p := fun k => fitsB (gD w k).n (gD w k).b s) (G := eP T.int eF ∘ fun k : Nat => ((k : Int), aft (gD w k) s)) src q (by rw [List.length_range]; exact Nat.le_trans hl (by decide))
  refine def_val hk (ws_ret (main _ _ fun k hk' => ?_) ⟨rfl, rfl⟩) (fun n => lows_map _ (fun x => EO.low (e := eP T.int eF) _ n) _)
  have hk2 := List.mem_range.mp hk'
  have ho := hd (gD w k) (gD_mem ⟨by omega, by omega⟩)
  have e1 := ix_deed (w := w) (k := (k : Int)) ⟨by omega, by omega⟩
  exact lcT_ev rfl (ev_truB (ev_callU (ea_cons (ev_ixI (ev_ix (i := 1) (ev_var 0 rfl) ev_c rfl) (ev_var 2 rfl) e1) (ea_cons (ev_var 1 rfl) ea_nil)) (ev_fits_core (row_lim ho.n (by omega)) (row_lim ho.b (by omega)) hk))) fun _ =>
    ev_tup (ea_cons (ev_var 2 rfl) (ea_cons (ev_callU (ea_cons (ev_ixI (ev_ix (i := 1) (ev_var 0 rfl) ev_c rfl) (ev_var 2 rfl) e1) (ea_cons (ev_var 1 rfl) ea_nil)) (ev_law_after hk)) ea_nil))
end Z

/-! A3d: plans. -/
namespace Z
open PySem
/-! the tactics of this text (local): k_places evaluates what stands on the left; k_memK: what may be left open -/
local macro_rules | `(tactic| k_memK) => `(tactic| first
  | exact Nat.le_of_ble_eq_true rfl
  | assumption
  | (with_reducible apply side_le))
local macro_rules | `(tactic| k_places) => `(tactic| first
  | (with_reducible assumption)
  | (with_reducible exact ev_c)
  | ((with_reducible apply ev_var); rfl)
  | (with_reducible exact ea_nil)
  | (intro _; k_places)
  | ((with_reducible apply ea_cons) <;> k_places)
  | ((with_reducible apply ev_callU) <;> first | k_places | rfl)
  | ((with_reducible apply ev_tuple) <;> k_places)
  | ((with_reducible apply ev_tupleT) <;> k_places)
  | ((with_reducible apply ev_lenT) <;> k_places)
  | ((with_reducible apply ev_lenL) <;> k_places)
  | ((with_reducible apply ev_all) <;> k_places)
  | ((with_reducible apply ev_any) <;> k_places)
  | ((with_reducible apply ev_sortedL') <;> first | k_places | infer_instance | decide)
  | ((with_reducible apply ev_dB) <;> k_places)
  | ((with_reducible apply ev_truB) <;> k_places)
  | ((with_reducible apply ev_andV) <;> k_places)
  | ((with_reducible apply ev_orV) <;> k_places)
  | ((with_reducible apply ev_notV) <;> k_places)
  | ((with_reducible apply ev_and) <;> k_places)
  | ((with_reducible apply ev_or) <;> k_places)
  | ((with_reducible apply ev_not) <;> k_places)
  | ((with_reducible apply ev_chn) <;> k_places)
  | ((with_reducible apply ev_tup) <;> first | k_places | k_memK)
  | ((with_reducible apply ev_lst) <;> first | k_places | k_memK)
  | ((with_reducible apply ev_ix) <;> first | k_places | rfl)
  | ((with_reducible apply ev_ixL) <;> first | k_places | rfl)
  | ((with_reducible apply lc_evA) <;> first | k_places | (intro _ _; (apply lcY_ev rfl); k_places) | k_memK)
  | ((with_reducible apply lc_ev) <;> first | k_places | (intro _ _; (apply lcT_ev rfl) <;> k_places) | k_memK)
  | ((with_reducible apply ev_bin) <;> k_places)
  | ((with_reducible apply ev_un) <;> k_places)
  | ((with_reducible apply sr_tup) <;> k_places)
  | ((with_reducible apply sr_lst) <;> k_places)
  | ((with_reducible apply sr_rng1) <;> first | k_places | k_memK)
  | ((with_reducible apply op_cat) <;> k_memK)
  | ((with_reducible apply op_catT) <;> k_memK)
  | exact oi_add | exact oi_sub | exact oi_lt | exact oi_le | exact oi_gt | exact oi_ge | exact oi_neg
  | exact op_neT _ _ | exact op_neL _ _ | exact op_eqT _ _ | exact op_eqL _ _ | exact op_neT0 _ | exact op_eqT0 _
  | exact op_eq _ _ | exact op_ne _ _ | exact in_tup _ _ | exact in_lst _ _ | exact ni_tup _ _ | exact ni_lst _ _)
/-- the states behind the deeds of a row, none if one cannot be done -/
def walkS (w : Wd) (s : List Int) : List Int → Option (List (List Int))
  | [] => some []
  | k :: p => if fitsB (gD w k).n (gD w k).b s then (walkS w (aft (gD w k) s) p).map (aft (gD w k) s :: ·) else none
/-- .. the last one -/
def endS (w : Wd) (s : List Int) : List Int → Option (List Int)
  | [] => some s
  | k :: p => if fitsB (gD w k).n (gD w k).b s then endS w (aft (gD w k) s) p else none
theorem endS_walk {w : Wd} : ∀ {p : List Int} {s : List Int}, endS w s p = (walkS w s p).map fun l => (s :: l).getLast (List.cons_ne_nil _ _)
  | [], s => rfl
  | k :: p, s => by
    simp only [endS, walkS]
    split
    · rw [endS_walk (p := p), Option.map_map]
      congr 1
    · rfl
def InP (w : Wd) (p : List Int) : Prop := ∀ k ∈ p, 0 ≤ k ∧ k < w.ds.length
def plB (w : Wd) (s : List Int) (p : List Int) : Bool := match endS w s p with
  | some t => fitsB w.gn w.gb t
  | none => false
def costP (w : Wd) (p : List Int) : Int := (p.map fun k => (gD w k).c).sum
def eOS : Option (List (List Int)) → T
  | some l => eT eF l
  | none => .non
theorem eOS_low (o : Option (List (List Int))) (n : Nat) : (eOS o).low n = true := by
  cases o with
  | none => rfl
  | some l => exact EO.low (e := eT eF) l n
theorem hok_one {h : Hv} (hk : HOk h) (L : List (List Int)) : HOk (h ++ [.lst (L.map eF)]) := hk.app fun o ho => by
  simp only [List.mem_cons, List.not_mem_nil, or_false] at ho
  subst ho
  exact lows_map _ (fun x => EO.low (e := eF) x 0) _
theorem walk_rows {w : Wd} (o : WdOk w) : ∀ {p : List Int} {s : List Int} {l : List (List Int)}, InP w p → Row w.m s → walkS w s p = some l → ∀ t ∈ s :: l, Row w.m t
  | [], s, l, _, hs, e, t, ht => by
    cases e
    simp at ht
    exact ht ▸ hs
  | k :: p, s, l, hp, hs, e, t, ht => by
    simp only [walkS] at e
    split at e
    · obtain ⟨l', e1, rfl⟩ := Option.map_eq_some_iff.mp e
      rcases List.mem_cons.mp ht with rfl | ht
      · exact hs
      · exact walk_rows o (fun q hq => hp q (List.mem_cons_of_mem _ hq)) (aft_row o.m.2 hs (o.ds _ (gD_mem (hp k (List.mem_cons_self ..))))) e1 t ht
    · cases e
end Z

/-! A4: dicts told by their pairs. -/
namespace Z
open PySem
section
variable {α β κ : Type} [DecidableEq α] [DecidableEq κ]
def dGet (D : List (α × β)) (x : α) : Option β := (D.find? fun p => decide (p.1 = x)).map (·.2)
def dPut (D : List (α × β)) (x : α) (v : β) : List (α × β) := if x ∈ D.map (·.1) then D.map fun p => if p.1 = x then (x, v) else p else D ++ [(x, v)]
def dFrom (ps : List (α × β)) : List (α × β) := ps.foldl (fun D p => dPut D p.1 p.2) []
def Kys (D : List (α × β)) : Prop := (D.map (·.1)).Nodup
theorem dGet_cons {p : α × β} {D : List (α × β)} {x : α} : dGet (p :: D) x = if p.1 = x then some p.2 else dGet D x := by
  unfold dGet
  rw [List.find?_cons]
  by_cases h : p.1 = x <;> simp [h]
theorem dGet_nil {x : α} : dGet ([] : List (α × β)) x = none := rfl
theorem dGet_isSome {D : List (α × β)} {x : α} : (dGet D x).isSome = decide (x ∈ D.map (·.1)) := by
  induction D with
  | nil => rfl
  | cons p D ih =>
    rw [dGet_cons]
    by_cases h : p.1 = x
    · simp [h]
    · have h2 : ¬ x = p.1 := fun z => h z.symm
      rw [if_neg h, ih]
      simp [h2]
theorem dGet_none {D : List (α × β)} {x : α} : dGet D x = none ↔ x ∉ D.map (·.1) := by
  have := dGet_isSome (D := D) (x := x)
  cases q : dGet D x with
  | none => rw [q] at this; simpa using this.symm
  | some v => rw [q] at this; simpa using this.symm
theorem dGet_mem {D : List (α × β)} {x : α} {v : β} (h : dGet D x = some v) : (x, v) ∈ D := by
  induction D with
  | nil => cases h
  | cons p D ih =>
    rw [dGet_cons] at h
    split at h
    · rename_i e
      cases h
      rw [← e]
      exact List.mem_cons_self ..
    · exact List.mem_cons_of_mem _ (ih h)
theorem dGet_of {D : List (α × β)} (nd : Kys D) {x : α} {v : β} (h : (x, v) ∈ D) : dGet D x = some v := by
  induction D with
  | nil => cases h
  | cons p D ih =>
    unfold Kys at nd
    rw [List.map_cons, List.nodup_cons] at nd
    rw [dGet_cons]
    rcases List.mem_cons.mp h with rfl | h
    · simp
    · rw [if_neg fun e => nd.1 (List.mem_map.mpr ⟨_, h, e.symm⟩)]
      exact ih nd.2 h
theorem dGet_map {D : List (α × β)} {γ : Type} (g : α → β → γ) {x : α} : dGet (D.map fun p => (p.1, g p.1 p.2)) x = (dGet D x).map (g x) := by
  induction D with
  | nil => rfl
  | cons p D ih =>
    rw [List.map_cons, dGet_cons, dGet_cons]
    by_cases h : p.1 = x
    · simp [h]
    · rw [if_neg h, if_neg h, ih]
theorem dPut_keys {D : List (α × β)} {x : α} {v : β} : (dPut D x v).map (·.1) = if x ∈ D.map (·.1) then D.map (·.1) else D.map (·.1) ++ [x] := by
  unfold dPut
  split
  · rw [List.map_map]
    refine List.map_congr_left fun p hp => ?_
    simp only [Function.comp]
    split
    · rename_i e; exact e.symm
    · rfl
  · simp
theorem dPut_mem {D : List (α × β)} {x y : α} {v : β} : y ∈ (dPut D x v).map (·.1) ↔ y ∈ D.map (·.1) ∨ y = x := by
  rw [dPut_keys]
  split
  · rename_i h
    exact ⟨.inl, fun z => z.elim id fun e => e ▸ h⟩
  · simp
theorem dPut_nd {D : List (α × β)} {x : α} {v : β} (nd : Kys D) : Kys (dPut D x v) := by
  unfold Kys
  rw [dPut_keys]
  split
  · exact nd
  · rename_i h
    rw [List.nodup_append]
    exact ⟨nd, by simp, fun a ha b hb e => by simp at hb; subst hb e; exact h ha⟩
theorem dGet_put {D : List (α × β)} {x y : α} {v : β} : dGet (dPut D x v) y = if x = y then some v else dGet D y := by
  unfold dPut
  split
  · rename_i h
    by_cases e : x = y
    · subst e
      rw [if_pos rfl]
      obtain ⟨p, hp, hx⟩ := List.mem_map.mp h
      clear h
      induction D with
      | nil => cases hp
      | cons q D ih =>
        rw [List.map_cons, dGet_cons]
        by_cases hq : q.1 = x
        · simp [hq]
        · rw [if_neg hq, if_neg hq]
          rcases List.mem_cons.mp hp with rfl | hp
          · exact absurd hx hq
          · exact ih hp
    · rw [if_neg e]
      clear h
      induction D with
      | nil => rfl
      | cons q D ih =>
        rw [List.map_cons, dGet_cons, dGet_cons, ih]
        by_cases hq : q.1 = x
        · have : ¬ q.1 = y := fun z => e (hq.symm.trans z)
          rw [if_pos hq, if_neg e, if_neg this]
        · rw [if_neg hq]
  · rename_i h
    induction D with
    | nil =>
      rw [List.nil_append, dGet_cons, dGet_nil]
    | cons q D ih =>
      have h1 : ¬ x = q.1 := fun z => h (by simp [z])
      have h2 : x ∉ D.map (·.1) := fun z => h (List.mem_cons_of_mem _ z)
      rw [List.cons_append, dGet_cons, dGet_cons, ih h2]
      by_cases hq : q.1 = y
      · rw [if_pos hq, if_pos hq, if_neg fun z => h1 (z.trans hq.symm)]
      · rw [if_neg hq, if_neg hq]
theorem dPut_len {D : List (α × β)} {x : α} {v : β} : (dPut D x v).length ≤ D.length + 1 := by
  unfold dPut
  split <;> simp
theorem dFrom_snoc {ps : List (α × β)} {p : α × β} : dFrom (ps ++ [p]) = dPut (dFrom ps) p.1 p.2 := by simp [dFrom]
theorem dFrom_aux {β : Type} {ps : List (α × β)} : ∀ {D : List (α × β)}, Kys D → Kys (ps.foldl (fun D p => dPut D p.1 p.2) D) ∧ ∀ x, x ∈ (ps.foldl (fun D p => dPut D p.1 p.2) D).map (·.1) ↔ x ∈ D.map (·.1) ∨ x ∈ ps.map (·.1) := by
  induction ps with
  | nil => exact fun nd => ⟨nd, fun x => by simp⟩
  | cons p ps ih =>
    intro D nd
    obtain ⟨h1, h2⟩ := ih (D := dPut D p.1 p.2) (dPut_nd nd)
    refine ⟨h1, fun x => ?_⟩
    rw [List.foldl_cons, h2 x, dPut_mem]
    simp [or_assoc]
theorem dFrom_nd {ps : List (α × β)} : Kys (dFrom ps) := (dFrom_aux (D := []) List.nodup_nil).1
theorem dFrom_keys {ps : List (α × β)} {x : α} : x ∈ (dFrom ps).map (·.1) ↔ x ∈ ps.map (·.1) := ((dFrom_aux (ps := ps) (D := []) List.nodup_nil).2 x).trans (by simp)
theorem dFrom_idA {ps : List (α × β)} : ∀ {D : List (α × β)}, Kys (D ++ ps) → ps.foldl (fun D p => dPut D p.1 p.2) D = D ++ ps := by
  induction ps with
  | nil => intro D _; simp
  | cons p ps ih =>
    intro D nd
    have hp : p.1 ∉ D.map (·.1) := fun z => by
      unfold Kys at nd
      rw [List.map_append, List.nodup_append] at nd
      exact nd.2.2 _ z _ (List.mem_map.mpr ⟨p, List.mem_cons_self .., rfl⟩) rfl
    have e : dPut D p.1 p.2 = D ++ [p] := by unfold dPut; rw [if_neg hp]
    rw [List.foldl_cons, e, ih (by rw [List.append_assoc]; exact nd), List.append_assoc]
    rfl
theorem dFrom_id {ps : List (α × β)} (nd : Kys ps) : dFrom ps = ps := dFrom_idA (D := []) nd
/-! ### as the layer has them -/
theorem lookT_map {k : α → κ} (inj : ∀ a b, k a = k b → a = b) (f : β → T) (D : List (α × β)) (x : α) : lookT (D.map fun p => k p.1) (D.map fun p => f p.2) (k x) = (dGet D x).map f := by
  induction D with
  | nil => rfl
  | cons p D ih =>
    rw [dGet_cons]
    simp only [List.map_cons, lookT]
    by_cases h : p.1 = x
    · simp [h]
    · rw [if_neg h, if_neg fun z => h (inj _ _ z)]
      exact ih
theorem k_mem {k : α → κ} (inj : ∀ a b, k a = k b → a = b) {D : List (α × β)} {x : α} : k x ∈ (D.map fun p => k p.1) ↔ x ∈ D.map (·.1) := by
  simp only [List.mem_map]
  exact ⟨fun ⟨p, h, e⟩ => ⟨p, h, inj _ _ e⟩, fun ⟨p, h, e⟩ => ⟨p, h, by rw [e]⟩⟩
theorem putKs_map {k : α → κ} (inj : ∀ a b, k a = k b → a = b) (D : List (α × β)) (x : α) (v : β) : putKs (D.map fun p => k p.1) (k x) = (dPut D x v).map fun p => k p.1 := by
  have e : ∀ L : List (α × β), (L.map fun p => k p.1) = (L.map (·.1)).map k := fun L => by rw [List.map_map]; rfl
  unfold putKs
  rw [e (dPut D x v), dPut_keys]
  by_cases h : x ∈ D.map (·.1)
  · rw [if_pos h, if_pos ((k_mem inj).mpr h), e]
  · rw [if_neg h, if_neg fun z => h ((k_mem inj).mp z), e]
    simp
theorem putV_map {k : α → κ} (inj : ∀ a b, k a = k b → a = b) (f : β → T) (D : List (α × β)) (x : α) (v : β) : putV (D.map fun p => k p.1) (D.map fun p => f p.2) (k x) (f v) = (dPut D x v).map fun p => f p.2 := by
  unfold putV dPut
  by_cases h : x ∈ D.map (·.1)
  · rw [if_pos h, if_pos ((k_mem inj).mpr h)]
    clear h
    induction D with
    | nil => rfl
    | cons p D ih =>
      simp only [List.map_cons, List.zipWith_cons_cons, ih]
      by_cases e : p.1 = x
      · simp [e]
      · rw [if_neg e, if_neg fun z => e (inj _ _ z)]
  · rw [if_neg h, if_neg fun z => h ((k_mem inj).mp z)]
    simp
end
/-- what may be a key of a dict of ints or texts | of tuples of these -/
class KI {α : Type} (e : α → T) where
  k : α → L2.Key
  of : ∀ x, keyOf (e x) = some (k x)
  inj : ∀ a b, k a = k b → a = b
  back : ∀ x, keyT (k x) = e x
class KU {α : Type} (e : α → T) where
  k : α → List L2.Key
  of : ∀ x, keysOf (e x) = some (k x)
  inj : ∀ a b, k a = k b → a = b
  back : ∀ x, T.tup ((k x).map keyT) = e x
instance : KI T.int := ⟨Sum.inl, fun _ => rfl, fun _ _ h => by cases h; rfl, fun _ => rfl⟩
instance : KU eF := ⟨kS, keys_eF, fun _ _ h => kS_inj.mp h, kS_T⟩
instance : KU (eT T.int) := inferInstanceAs (KU eF)
instance : KU (eP T.int T.int) := ⟨fun p => [.inl p.1, .inl p.2], fun _ => rfl, fun a b h => by
  obtain ⟨a1, a2⟩ := a
  obtain ⟨b1, b2⟩ := b
  simp at h
  rw [h.1, h.2], fun _ => rfl⟩
def oI {α β : Type} (lk : Bool) (e : α → T) [i : KI e] (f : β → T) (D : List (α × β)) : O := .dk lk (D.map fun p => i.k p.1) (D.map fun p => f p.2)
def oU {α β : Type} (lk : Bool) (e : α → T) [i : KU e] (f : β → T) (D : List (α × β)) : O := .dt lk (D.map fun p => i.k p.1) (D.map fun p => f p.2)
section
variable {α β : Type} [DecidableEq α] {e : α → T} {f : β → T} {D : List (α × β)} {h : Hv} {n : Nat} {lk : Bool} {x : α} {v : β}
section
variable [i : KI e]
theorem lkI (g : h[n]? = some (oI lk e f D)) : dkLook h (.ref n) (e x) = some ((dGet D x).map f) := by
  simp only [dkLook, g, oI, i.of, Option.map_some, lookT_map i.inj]
theorem drI (g : h[n]? = some (oI lk e f D)) : dr h (.ref n) = .ref n := by simp only [dr, g, oI]
theorem ixI (g : h[n]? = some (oI lk e f D)) (q : dGet D x = some v) : fIx (.ref n) (e x) h = some (.ok (f v), h) := by
  have l := lkI (x := x) g
  have d := drI g
  rw [q] at l
  simp only [fIx, d, l, Option.map_some]
theorem ixI0 (hx : ∀ y, e x ≠ .ref y) (g : h[n]? = some (oI lk e f D)) : inQ h (e x) (.ref n) = some (decide (x ∈ D.map (·.1))) := by
  have l := lkI (x := x) g
  have d := drI g
  simp only [inQ, d, l, Option.map_some, Option.isSome_map, dGet_isSome]
theorem inI (g : h[n]? = some (oI lk e f D)) : fIn (e x) (.ref n) h = some (.ok (.bl (decide (x ∈ D.map (·.1)))), h) := by
  have l := lkI (x := x) g
  have d := drI g
  simp only [fIn, inQ, d, l, Option.map_some, Option.isSome_map, dGet_isSome]
theorem niI (g : h[n]? = some (oI lk e f D)) : fNotIn (e x) (.ref n) h = some (.ok (.bl (!decide (x ∈ D.map (·.1)))), h) := by
  have l := lkI (x := x) g
  have d := drI g
  simp only [fNotIn, inQ, d, l, Option.map_some, Option.isSome_map, dGet_isSome]
theorem putI (g : h[n]? = some (oI false e f D)) (l : D.length < lim) : fSet (.ref n) (e x) (f v) h = some (h.set n (oI false e f (dPut D x v))) := by
  simp only [fSet, g, oI, i.of, List.length_map, if_pos l, putKs_map i.inj D x v, putV_map i.inj f D x v]
theorem lenI (g : h[n]? = some (oI false e f D)) : fLen [.ref n] h = some (.ok (.int D.length), h) := by
  have d := drI g
  simp only [fLen, d, g, oI, List.length_map]
theorem sortI {dd : Nat} {b : Bool} [EO e dd] [EA e b] (g : h[n]? = some (oI false e f D)) (hd : dd ≤ 64 := by decide) : fSorted false [.ref n] h = some (.ok (.lst ((srt e (D.map (·.1))).map e)), h) := by
  have d := drI g
  have q : (D.map fun p => i.k p.1).map keyT = (D.map (·.1)).map e := by
    rw [List.map_map, List.map_map]
    exact List.map_congr_left fun p _ => i.back p.1
  simp only [fSorted, itQ, d, g, oI, q]
  rw [sOk_map (e := e) (D.map (·.1)) hd, srt_map]
  rfl
theorem insK_map (ps : List (α × β)) : ∀ D : List (α × β), insK (D.map (fun p => i.k p.1), D.map fun p => f p.2) (ps.map fun p => (e p.1, f p.2)) = some ((ps.foldl (fun D p => dPut D p.1 p.2) D).map (fun p => i.k p.1), (ps.foldl (fun D p => dPut D p.1 p.2) D).map fun p => f p.2) := by
  induction ps with
  | nil => intro D; rfl
  | cons p ps ih =>
    intro D
    simp only [List.map_cons, insK, i.of, List.foldl_cons]
    rw [putKs_map i.inj D p.1 p.2, putV_map i.inj f D p.1 p.2]
    exact ih _
theorem dicI {ps : List (α × β)} (l : ps.length ≤ lim) : dicR false (ps.map fun p => (e p.1, f p.2)) h = some (.ok (.ref h.length), h ++ [oI false e f (dFrom ps)]) := by
  have := insK_map (e := e) (f := f) ps []
  simp only [dicR, List.length_map, if_pos l, mkD]
  simp only [List.map_nil] at this
  simp only [this, Bool.false_eq_true, if_false, Option.map_some, own, oI, dFrom]
theorem lowI (hf : ∀ v, (f v).low n = true) : (oI lk e f D).low n = true := by
  show T.lows n _ = true
  have : (D.map fun p => f p.2) = (D.map (·.2)).map f := by rw [List.map_map]; rfl
  rw [this]
  exact lows_map f hf _
theorem srcI (g : h[n]? = some (oI true e f D)) : fSrc (.ref n) h = some (.ok (.fix ((D.map (·.1)).map e)), h) := by
  have q : (D.map fun p => i.k p.1).map keyT = (D.map (·.1)).map e := by
    rw [List.map_map, List.map_map]
    exact List.map_congr_left fun p _ => i.back p.1
  simp only [fSrc, g, oI, q]
end
section
variable [i : KU e]
theorem lkU (g : h[n]? = some (oU lk e f D)) : dkLook h (.ref n) (e x) = some ((dGet D x).map f) := by
  simp only [dkLook, g, oU, i.of, Option.map_some, lookT_map i.inj]
theorem drU (g : h[n]? = some (oU lk e f D)) : dr h (.ref n) = .ref n := by simp only [dr, g, oU]
theorem ixU (g : h[n]? = some (oU lk e f D)) (q : dGet D x = some v) : fIx (.ref n) (e x) h = some (.ok (f v), h) := by
  have l := lkU (x := x) g
  have d := drU g
  rw [q] at l
  simp only [fIx, d, l, Option.map_some]
theorem inU (g : h[n]? = some (oU lk e f D)) : fIn (e x) (.ref n) h = some (.ok (.bl (decide (x ∈ D.map (·.1)))), h) := by
  have l := lkU (x := x) g
  have d := drU g
  simp only [fIn, inQ, d, l, Option.map_some, Option.isSome_map, dGet_isSome]
theorem niU (g : h[n]? = some (oU lk e f D)) : fNotIn (e x) (.ref n) h = some (.ok (.bl (!decide (x ∈ D.map (·.1)))), h) := by
  have l := lkU (x := x) g
  have d := drU g
  simp only [fNotIn, inQ, d, l, Option.map_some, Option.isSome_map, dGet_isSome]
theorem putU (g : h[n]? = some (oU false e f D)) (l : D.length < lim) : fSet (.ref n) (e x) (f v) h = some (h.set n (oU false e f (dPut D x v))) := by
  simp only [fSet, g, oU, i.of, List.length_map, if_pos l, putKs_map i.inj D x v, putV_map i.inj f D x v]
theorem lenU (g : h[n]? = some (oU false e f D)) : fLen [.ref n] h = some (.ok (.int D.length), h) := by
  have d := drU g
  simp only [fLen, d, g, oU, List.length_map]
theorem sortU {dd : Nat} {b : Bool} [EO e dd] [EA e b] (g : h[n]? = some (oU false e f D)) (hd : dd ≤ 64 := by decide) : fSorted false [.ref n] h = some (.ok (.lst ((srt e (D.map (·.1))).map e)), h) := by
  have d := drU g
  have q : (D.map fun p => i.k p.1).map (fun k => T.tup (k.map keyT)) = (D.map (·.1)).map e := by
    rw [List.map_map, List.map_map]
    exact List.map_congr_left fun p _ => i.back p.1
  simp only [fSorted, itQ, d, g, oU, q]
  rw [sOk_map (e := e) (D.map (·.1)) hd, srt_map]
  rfl
theorem insT_map (ps : List (α × β)) : ∀ D : List (α × β), insT (D.map (fun p => i.k p.1), D.map fun p => f p.2) (ps.map fun p => (e p.1, f p.2)) = some ((ps.foldl (fun D p => dPut D p.1 p.2) D).map (fun p => i.k p.1), (ps.foldl (fun D p => dPut D p.1 p.2) D).map fun p => f p.2) := by
  induction ps with
  | nil => intro D; rfl
  | cons p ps ih =>
    intro D
    simp only [List.map_cons, insT, i.of, List.foldl_cons]
    rw [putKs_map i.inj D p.1 p.2, putV_map i.inj f D p.1 p.2]
    exact ih _
theorem dicU {ps : List (α × β)} (l : ps.length ≤ lim) : dicR true (ps.map fun p => (e p.1, f p.2)) h = some (.ok (.ref h.length), h ++ [oU false e f (dFrom ps)]) := by
  have := insT_map (e := e) (f := f) ps []
  simp only [dicR, List.length_map, if_pos l, mkD]
  simp only [List.map_nil] at this
  simp only [this, if_true, Option.map_some, own, oU, dFrom]
theorem lowU (hf : ∀ v, (f v).low n = true) : (oU lk e f D).low n = true := by
  show T.lows n _ = true
  have : (D.map fun p => f p.2) = (D.map (·.2)).map f := by rw [List.map_map]; rfl
  rw [this]
  exact lows_map f hf _
theorem srcU (g : h[n]? = some (oU true e f D)) : fSrc (.ref n) h = some (.ok (.fix ((D.map (·.1)).map e)), h) := by
  have q : (D.map fun p => i.k p.1).map (fun k => T.tup (k.map keyT)) = (D.map (·.1)).map e := by
    rw [List.map_map, List.map_map]
    exact List.map_congr_left fun p _ => i.back p.1
  simp only [fSrc, g, oU, q]
end
end
end Z

/-! A5: comprehensions with typed items; dict comprehensions. -/
namespace Z
open PySem
section
variable {α γ δ β : Type} {e : α → T} {e' : γ → T} {e1 : δ → T} {sl sl1 : Sl} {h h1 : Hv} {sr d1 : DR} {vs vs1 : List Nat} {g g1 : Tg} {ta tt tt1 : DB} {d dk dv : D} {l : List α} {p : α → Bool} {G : α → γ} {t x y : T} {tk : Bool} {f : β → T}
/-- the items as values of their own kind -/
theorem lc_evAt (a : sr sl h = some (.ok (.fix (l.map e)), h1)) (H : ∀ x ∈ l, lcT g dYes d (wipS sl vs) (e x) h1 = some (.ok [e' (G x)], h1)) (hl : l.length ≤ lim) : dLc false vs sr g dYes d sl h = some (.ok (.lst ((l.map G).map e')), h1) := by
  rw [List.map_map]
  exact lc_evA (G := e' ∘ G) a H hl
theorem lc_evt (a : sr sl h = some (.ok (.fix (l.map e)), h1)) (H : ∀ x ∈ l, lcT g ta d (wipS sl vs) (e x) h1 = some (.ok (if p x then [e' (G x)] else []), h1)) (hl : l.length ≤ lim) : dLc false vs sr g ta d sl h = some (.ok (.lst (((l.filter p).map G).map e')), h1) := by
  rw [List.map_map]
  exact lc_ev (G := e' ∘ G) a H hl
theorem dcT_evK {k : Bool} (a : setTg g t sl = some sl1) (b : ta sl1 h = some (.ok k, h)) (c : k = true → dk sl1 h = some (.ok x, h)) (c2 : k = true → dv sl1 h = some (.ok y, h)) : dcT g ta dk dv sl t h = some (.ok (if k then [(x, y)] else []), h) := by
  cases k
  · simp [dcT, a, bnd, b, ret]
  · simp [dcT, a, bnd, b, ret, c, c2]
theorem dc_core {γ : Type} {turn : T → M (List γ)} {k : List γ → M T} {xs : List T} {zs : List γ} (a : sr sl h = some (.ok (.fix xs), h1)) (b : lcL turn xs h1 = some (.ok zs, h1)) : bnd (sr sl) (fun s => bnd (nox (lcS turn s)) k) h = k zs h1 := by
  simp only [bnd, a, nox, lcS, b]
/-- {k: v for ..} -/
theorem dDc_ev {K : α → δ} {V : α → β} (src : sr sl h = some (.ok (.fix (l.map e)), h1)) (H : ∀ x ∈ l, dcT g ta dk dv (wipS sl vs) (e x) h1 = some (.ok (if p x then [(e1 (K x), f (V x))] else []), h1)) :
    dDc tk vs sr g ta dk dv sl h = dicR tk (((l.filter p).map fun x => (K x, V x)).map fun q => (e1 q.1, f q.2)) h1 := by
  unfold dDc
  rw [dc_core src (lcL_ev e _ _ l H), flat_if, List.map_map]
  rfl
/-- {k: v for .. for ..} -/
theorem dDc2_ev {m : α → List γ} {p2 : α → γ → Bool} {K : α → γ → δ} {V : α → γ → β} (src : sr sl h = some (.ok (.fix (l.map e)), h1))
    (H : ∀ x ∈ l, ∃ sl1, setTg g (e x) (wipS sl vs) = some sl1 ∧ tt sl1 h1 = some (.ok (p x), h1) ∧ (p x = true → d1 sl1 h1 = some (.ok (.fix ((m x).map e')), h1) ∧ ∀ y ∈ m x, dcT g1 tt1 dk dv (wipS sl1 vs1) (e' y) h1 = some (.ok (if p2 x y then [(e1 (K x y), f (V x y))] else []), h1))) :
    dDc2 tk vs vs1 sr g tt d1 g1 tt1 dk dv sl h = dicR tk (((l.filter p).flatMap fun x => ((m x).filter (p2 x)).map fun y => (K x y, V x y)).map fun q => (e1 q.1, f q.2)) h1 := by
  unfold dDc2
  have turn : ∀ x ∈ l, dcT2 g tt d1 g1 tt1 dk dv vs1 (wipS sl vs) (e x) h1 = some (.ok ((fun x => if p x then ((m x).filter (p2 x)).map fun y => (e1 (K x y), f (V x y)) else []) x), h1) := fun x hx => by
    obtain ⟨sl1, a1, a2, a3⟩ := H x hx
    unfold dcT2
    simp only [a1, bnd, a2]
    cases hp : p x with
    | false => rfl
    | true =>
      obtain ⟨b1, b2⟩ := a3 hp
      simp only [if_true, bnd, b1]
      show lcL _ _ _ = _
      rw [lcL_ev e' _ _ (m x) b2, flat_if]
  rw [dc_core src (lcL_ev e _ _ l turn)]
  congr 1
  rw [List.map_flatMap]
  clear src H turn
  induction l with
  | nil => rfl
  | cons x l ih =>
    rw [List.flatMap_cons, ih]
    by_cases hp : p x
    · simp [hp, List.filter_cons, Function.comp_def]
    · simp [hp, List.filter_cons]
end
theorem flat_le {α β : Type} (f : α → List β) (k : Nat) : ∀ l : List α, (∀ x ∈ l, (f x).length ≤ k) → (l.flatMap f).length ≤ l.length * k
  | [], _ => by simp
  | x :: l, h => by
    have h1 := h x (List.mem_cons_self ..)
    have h2 := flat_le f k l fun y hy => h y (List.mem_cons_of_mem _ hy)
    rw [List.flatMap_cons, List.length_append, List.length_cons, Nat.add_mul]
    omega
theorem sr_enumL {α : Type} {e : α → T} {l : List α} {d : D} {sl : Sl} {h h1 : Hv} (a : d sl h = some (.ok (.lst (l.map e)), h1)) : dEnum (dCons d dNil) sl h = some (.ok (.fix (l.zipIdx.map fun p => .tup [.int p.2, e p.1])), h1) := by
  simp only [dEnum, dCons, dNil, bnd, a, ret, enumT_ev]
theorem filter_tt {α : Type} (l : List α) : (l.filter fun _ => true) = l := List.filter_eq_self.mpr fun _ _ => rfl
end Z

/-! A8: a value or None. -/
namespace Z
open PySem
class EN {α : Type} (e : α → T) : Prop where
  ne : ∀ x, PyData.eqv .none (e x).py = false
  ne' : ∀ x, PyData.eqv (e x).py .none = false
  nr : ∀ x, (e x).isNon = false
instance : EN T.int := ⟨fun _ => rfl, fun _ => rfl, fun _ => rfl⟩
instance : EN T.bl := ⟨fun _ => rfl, fun _ => rfl, fun _ => rfl⟩
instance {α : Type} {e : α → T} : EN (eT e) := ⟨fun _ => rfl, fun _ => rfl, fun _ => rfl⟩
instance {α : Type} {e : α → T} : EN (eL e) := ⟨fun _ => rfl, fun _ => rfl, fun _ => rfl⟩
instance {α β : Type} {e : α → T} {f : β → T} : EN (eP e f) := ⟨fun _ => rfl, fun _ => rfl, fun _ => rfl⟩
instance : EN eDd := ⟨fun _ => rfl, fun _ => rfl, fun _ => rfl⟩
def eO {α : Type} (e : α → T) : Option α → T
  | none => .non
  | some x => e x
section
variable {α : Type} [DecidableEq α] {e : α → T} {d : Nat} {h : Hv}
instance [i : EO e d] [n : EN e] : EO (eO e) d := by
  refine ⟨fun x => ?_, fun x => ?_, fun x y => ?_, fun x k => ?_⟩
  · cases x with
    | none => rfl
    | some x => exact i.lay x
  · cases x with
    | none => exact Nat.zero_le _
    | some x => exact i.dep x
  · cases x with
    | none => cases y with
      | none => rfl
      | some y => exact (n.ne y).trans (by simp)
    | some x => cases y with
      | none => exact (n.ne' x).trans (by simp)
      | some y => exact (i.eqv x y).trans (by simp)
  · cases x with
    | none => rfl
    | some x => exact i.low x k
omit [DecidableEq α] in
theorem is_non [n : EN e] (x : Option α) : fIs (eO e x) .non h = some (.ok (.bl x.isNone), h) := by
  cases x with
  | none => rfl
  | some x =>
    have := n.nr x
    simp only [fIs, isQ, eO, this]
    rfl
omit [DecidableEq α] in
theorem not_non [n : EN e] (x : Option α) : fNot (eO e x) .non h = some (.ok (.bl x.isSome), h) := by
  cases x with
  | none => rfl
  | some x =>
    have := n.nr x
    simp only [fNot, isQ, eO, this]
    rfl
end
theorem eOS_eq : eOS = eO (eT eF) := by
  funext x
  cases x <;> rfl
end Z

/-! P15: the tape. -/
namespace Z
open PySem
def kC : L2.Key := .inr "cells"
def kA : L2.Key := .inr "at"
def kL : L2.Key := .inr "left"
def kD : L2.Key := .inr "seed"
def kT : L2.Key := .inr "salt"
theorem kne : kC ≠ kA ∧ kC ≠ kL ∧ kC ≠ kD ∧ kC ≠ kT ∧ kA ≠ kL ∧ kA ≠ kD ∧ kA ≠ kT ∧ kL ≠ kD ∧ kL ≠ kT ∧ kD ≠ kT := by
  refine ⟨?_, ?_, ?_, ?_, ?_, ?_, ?_, ?_, ?_, ?_⟩ <;> decide +kernel
def tpO (c : List Int) (at_ l s z : Int) : O := .dk false [kC, kA, kL, kD, kT] [.lst (c.map .int), .int at_, .int l, .int s, .int z]
section
variable {c : List Int} {at_ l s z v : Int} {ex : Hv}
theorem tpC : dkLook (tpO c at_ l s z :: ex) (.ref 0) (.str "cells") = some (some (.lst (c.map .int))) := by
  show some (lookT [kC, kA, kL, kD, kT] _ kC) = _
  simp [lookT]
theorem tpA : dkLook (tpO c at_ l s z :: ex) (.ref 0) (.str "at") = some (some (.int at_)) := by
  show some (lookT [kC, kA, kL, kD, kT] _ kA) = _
  simp [lookT, kne]
theorem tpL : dkLook (tpO c at_ l s z :: ex) (.ref 0) (.str "left") = some (some (.int l)) := by
  show some (lookT [kC, kA, kL, kD, kT] _ kL) = _
  simp [lookT, kne]
theorem tpD : dkLook (tpO c at_ l s z :: ex) (.ref 0) (.str "seed") = some (some (.int s)) := by
  show some (lookT [kC, kA, kL, kD, kT] _ kD) = _
  simp [lookT, kne]
theorem tpT : dkLook (tpO c at_ l s z :: ex) (.ref 0) (.str "salt") = some (some (.int z)) := by
  show some (lookT [kC, kA, kL, kD, kT] _ kT) = _
  simp [lookT, kne]
theorem tsA : fSet (.ref 0) (.str "at") (.int v) (tpO c at_ l s z :: ex) = some (tpO c v l s z :: ex) := by
  have h1 := kne
  show (if [kC, kA, kL, kD, kT].length < lim then some (O.dk false (putKs [kC, kA, kL, kD, kT] kA) (putV [kC, kA, kL, kD, kT] _ kA _) :: ex) else none) = _
  rw [if_pos (by decide)]
  simp [putKs, putV, h1, tpO, h1.2.2.2.2.1.symm, h1.2.2.2.2.2.1.symm, h1.2.2.2.2.2.2.1.symm]
theorem tsL : fSet (.ref 0) (.str "left") (.int v) (tpO c at_ l s z :: ex) = some (tpO c at_ v s z :: ex) := by
  have h1 := kne
  have h2 : kL ≠ kA := fun e => h1.2.2.2.2.1 e.symm
  show (if [kC, kA, kL, kD, kT].length < lim then some (O.dk false (putKs [kC, kA, kL, kD, kT] kL) (putV [kC, kA, kL, kD, kT] _ kL _) :: ex) else none) = _
  rw [if_pos (by decide)]
  simp [putKs, putV, h1, tpO, h1.2.2.2.2.2.2.2.1.symm, h1.2.2.2.2.2.2.2.2.1.symm]
theorem tsT : fSet (.ref 0) (.str "salt") (.int v) (tpO c at_ l s z :: ex) = some (tpO c at_ l s v :: ex) := by
  have h1 := kne
  show (if [kC, kA, kL, kD, kT].length < lim then some (O.dk false (putKs [kC, kA, kL, kD, kT] kT) (putV [kC, kA, kL, kD, kT] _ kT _) :: ex) else none) = _
  rw [if_pos (by decide)]
  simp [putKs, putV, h1, tpO]
end
/-- the heap is the tape, and what else is owned -/
def TapeX (ex : Hv) (h : Hv) : Prop := ∃ c at_ l s z, h = tpO c at_ l s z :: ex ∧ 0 ≤ at_ ∧ 0 ≤ l ∧ (∀ x ∈ c, 0 ≤ x) ∧ ∀ o ∈ ex, o.low 0 = true
abbrev Tape (h : Hv) : Prop := TapeX [] h
theorem TapeX.hok {ex h : Hv} (t : TapeX ex h) : HOk h := by
  obtain ⟨c, at_, l, s, z, rfl, _, _, _, h5⟩ := t
  have h0 : HOk [tpO c at_ l s z] := by
    show (T.lows _ _ && true) = true
    simp only [T.lows, T.low, Bool.and_true]
    exact lows_map _ (fun x => EO.low (e := T.int) x _) c
  exact h0.app (ex := ex) h5
/-- something more is owned -/
theorem TapeX.more {ex h : Hv} (t : TapeX ex h) {ex2 : Hv} (h5 : ∀ o ∈ ex2, o.low 0 = true) : TapeX (ex ++ ex2) (h ++ ex2) := by
  obtain ⟨c, at_, l, s, z, rfl, h1, h2, h3, h4⟩ := t
  exact ⟨c, at_, l, s, z, rfl, h1, h2, h3, fun o ho => (List.mem_append.mp ho).elim (h4 o) (h5 o)⟩
theorem TapeX.len {ex h : Hv} (t : TapeX ex h) : h.length = ex.length + 1 := by
  obtain ⟨c, at_, l, s, z, rfl, _⟩ := t
  rfl
theorem TapeX.at {ex h : Hv} (t : TapeX ex h) (n : Nat) : h[n + 1]? = ex[n]? := by
  obtain ⟨c, at_, l, s, z, rfl, _⟩ := t
  rfl
theorem TapeX.upd {ex h : Hv} (t : TapeX ex h) {n : Nat} {o : O} (ho : o.low 0 = true) : TapeX (ex.set n o) (h.set (n + 1) o) := by
  obtain ⟨c, at_, l, s, z, rfl, h1, h2, h3, h4⟩ := t
  refine ⟨c, at_, l, s, z, rfl, h1, h2, h3, fun q hq => ?_⟩
  rcases List.mem_or_eq_of_mem_set hq with z | z
  · exact h4 q z
  · rw [z]; exact ho
theorem ev_ixD {sl : Sl} {h h1 : Hv} {d : D} {k : Str} {t : T} (a : d sl h = some (.ok (.ref 0), h1)) (q : dkLook h1 (.ref 0) (.str k) = some (some t)) (g : dr h1 (.ref 0) = .ref 0) : dBin fIx d (dC (.str k)) sl h = some (.ok t, h1) := ev_bin a ev_c (by
  simp only [fIx, g, q])
theorem op_mulR {i j : Int} {h : Hv} (hj : sm64 j = true) : fMul (.int i) (.int j) h = some (.ok (.int (i * j)), h) := by simp only [fMul, hj, Bool.or_true, if_true, ret]
theorem op_mod {i j : Int} {h : Hv} (hj : 0 < j) : fMod (.int i) (.int j) h = some (.ok (.int (i % j)), h) := by simp only [fMod, if_pos hj, ret]
theorem op_div {i j : Int} {h : Hv} (hj : 0 < j ∧ j < 1073741824) : fDiv (.int i) (.int j) h = some (.ok (.int (i / j)), h) := by simp only [fDiv, if_pos hj, ret]
theorem sm_of {i : Int} (h : 0 ≤ i ∧ i < 2147483647) : sm64 i = true := by unfold sm64; exact decide_eq_true ⟨by omega, by omega⟩
theorem ev_take {ex h : Hv} (tp : TapeX ex h) {n : Int} (hn : 0 < n ∧ n < 1000) : ∃ r h', d__law_take [.ref 0, .int n] h = some (.ok (.int r), h') ∧ (0 ≤ r ∧ r < n) ∧ TapeX ex h' := by
  have key : ∃ t h', d__law_take [.ref 0, .int n] h = some (.ok t, h') ∧ ∃ r : Int, t = .int r ∧ (0 ≤ r ∧ r < n) ∧ TapeX ex h' := by
    refine def_ws (Q := fun t h' => ∃ r : Int, t = .int r ∧ (0 ≤ r ∧ r < n) ∧ TapeX ex h') ?_
    obtain ⟨c, at_, l, s, z, rfl, h1, h2, h3, h4⟩ := tp
    have g : ∀ {c at_ l s z}, dr (tpO c at_ l s z :: ex) (.ref 0) = .ref 0 := rfl
    have stop : ∀ {at2 l2 s2 z2 r}, 0 ≤ at2 → 0 ≤ l2 → 0 ≤ r ∧ r < n → EndOk (tpO c at_ l s z :: ex) (fun t h' => ∃ r : Int, t = .int r ∧ (0 ≤ r ∧ r < n) ∧ TapeX ex h') (.int r) (tpO c at2 l2 s2 z2 :: ex) := fun {at2 l2 s2 z2 r} a1 a2 a4 => by
      have tp2 : TapeX ex (tpO c at2 l2 s2 z2 :: ex) := ⟨_, _, _, _, _, rfl, a1, a2, h3, h4⟩
      have tk : (tpO c at2 l2 s2 z2 :: ex).take (tpO c at_ l s z :: ex).length = tpO c at2 l2 s2 z2 :: ex := by simp
      exact ⟨fun _ => rfl, by rw [tk]; exact tp2.hok, by rw [tk]; exact ⟨_, rfl, a4, tp2⟩⟩
    have mb : ∀ i : Int, 0 ≤ i % n ∧ i % n < n := fun i => ⟨Int.emod_nonneg _ (by omega), Int.emod_lt_of_pos _ hn.1⟩
    have rest : ∀ {at2 l2 : Int}, 0 ≤ at2 → 0 ≤ l2 → WS ((dSeq (dIfS (dB (dBin fGt (dBin fIx (dVar 0) (dC (.str "left"))) (dC (.int 0)))) (dSeq (dAsg (.nm 2) (dBin fMod (dCall fInt (dCons (dBin fIx (dVar 0) (dC (.str "left"))) (dNil))) (dVar 1))) (dSeq (dSet (dBin fDiv (dBin fIx (dVar 0) (dC (.str "left"))) (dVar 1)) (dVar 0) (dC (.str "left"))) (dRet (dVar 2)))) (dNx)) (dSeq (dSet (dBin fAdd (dBin fIx (dVar 0) (dC (.str "salt"))) (dC (.int 1))) (dVar 0) (dC (.str "salt"))) (dSeq (dAsg (.nm 3) (dBin fMod (dCall fInt (dCons (dBin fAdd (dBin fMul (dBin fIx (dVar 0) (dC (.str "seed"))) (dC (.int 48271))) (dBin fMul (dBin fIx (dVar 0) (dC (.str "salt"))) (dC (.int 69621)))) (dNil))) (dC (.int 2147483647)))) (dSeq (dAsg (.nm 3) (dBin fMod (dCall fInt (dCons (dBin fAdd (dBin fAdd (dBin fMul (dVar 3) (dVar 3)) (dBin fMul (dBin fIx (dVar 0) (dC (.str "salt"))) (dC (.int 40692)))) (dC (.int 12345))) (dNil))) (dC (.int 2147483399)))) (dRet (dBin fMod (dCall fInt (dCons (dVar 3) (dNil))) (dVar 1))))))) [some (.ref 0), some (.int n), none, none] (tpO c at2 l2 s z :: ex))
        ⟨fun _ h' => EndOk (tpO c at_ l s z :: ex) (fun t h' => ∃ r : Int, t = .int r ∧ (0 ≤ r ∧ r < n) ∧ TapeX ex h') .non h', fun _ _ => False, fun _ _ => False, EndOk (tpO c at_ l s z :: ex) (fun t h' => ∃ r : Int, t = .int r ∧ (0 ≤ r ∧ r < n) ∧ TapeX ex h')⟩ := fun {at2 l2} a1 a2 => by
      refine ws_seq (ws_if (ev_dB (ev_bin (ev_ixD (ev_var 0 rfl) tpL g) ev_c rfl)) (fun _ => ?_) fun _ => ws_nx ?_)
      · refine ws_seq (ws_asg (ev_bin (ev_call (ea_cons (ev_ixD (ev_var 0 rfl) tpL g) ea_nil) rfl) (ev_var 1 rfl) (op_mod hn.1)) rfl (ws_seq (ws_set (ev_bin (ev_ixD (ev_var 0 rfl) tpL g) (ev_var 1 rfl) (op_div ⟨hn.1, by omega⟩)) (ev_var 0 rfl) ev_c tsL (ws_ret (ev_var 2 rfl) ?_))))
        exact stop a1 (Int.ediv_nonneg a2 (by omega)) (mb _)
      · refine ws_seq (ws_set (ev_bin (ev_ixD (ev_var 0 rfl) tpT g) ev_c rfl) (ev_var 0 rfl) ev_c tsT (ws_seq (ws_asg (ev_bin (ev_call (ea_cons (ev_bin (ev_bin (ev_ixD (ev_var 0 rfl) tpD g) ev_c (op_mulR (by decide))) (ev_bin (ev_ixD (ev_var 0 rfl) tpT g) ev_c (op_mulR (by decide))) rfl) ea_nil) rfl) ev_c (op_mod (by decide))) rfl
          (ws_seq (ws_asg (ev_bin (ev_call (ea_cons (ev_bin (ev_bin (ev_bin (ev_var 3 rfl) (ev_var 3 rfl) (op_mulR (sm_of ⟨Int.emod_nonneg _ (by decide), Int.emod_lt_of_pos _ (by decide)⟩))) (ev_bin (ev_ixD (ev_var 0 rfl) tpT g) ev_c (op_mulR (by decide))) rfl) ev_c rfl) ea_nil) rfl) ev_c (op_mod (by decide))) rfl
            (ws_ret (ev_bin (ev_call (ea_cons (ev_var 3 rfl) ea_nil) rfl) (ev_var 1 rfl) (op_mod hn.1)) ?_))))))
        exact stop a1 a2 (mb _)
    refine ws_seq (ws_if (ev_and (ev_dB (ev_bin (ev_ixD (ev_var 0 rfl) tpL g) ev_c (op_eq (e := T.int) l 0))) fun _ => ev_dB (ev_bin (ev_ixD (ev_var 0 rfl) tpA g) (ev_lenL (ev_ixD (ev_var 0 rfl) tpC g)) rfl)) (fun k => ?_) fun _ => ws_nx (rest h1 h2))
    simp only [Bool.and_eq_true, decide_eq_true_eq, List.length_map] at k
    have hlt : at_.toNat < c.length := by omega
    have e1 : (c.map T.int)[at_.toNat]? = some (.int c[at_.toNat]) := by simp [hlt]
    refine ws_seq (ws_set (ev_ixL (i := at_.toNat) (ev_ixD (ev_var 0 rfl) tpC g) ((ev_ixD (ev_var 0 rfl) tpA g).trans (by rw [Int.toNat_of_nonneg h1])) e1) (ev_var 0 rfl) ev_c tsL (ws_set (ev_bin (ev_ixD (ev_var 0 rfl) tpA g) ev_c rfl) (ev_var 0 rfl) ev_c tsA ?_))
    exact rest (by omega) (h3 _ (List.getElem_mem hlt))
  obtain ⟨t, h', e, r, rfl, q1, q2⟩ := key
  exact ⟨r, h', e, q1, q2⟩
end Z

/-! P16: worlds drawn from the tape. -/
namespace Z
open PySem
section
variable {ex : Hv} {sl sl' sl1 : Sl} {h h1 h2 : Hv} {t x y z v : T} {ts xs : List T} {d da db dc dk dv : D} {ta tb tt1 : DB} {i j n : Nat} {sr d1 : DR} {vs : List Nat} {g : Tg}
theorem lcL_draw {α β : Type} {e : α → T} {E : β → T} {turn : T → M (List T)} {P : β → Prop} : ∀ (l : List α), (∀ x ∈ l, ∀ h, TapeX ex h → ∃ r h', turn (e x) h = some (.ok [E r], h') ∧ P r ∧ TapeX ex h') → ∀ h, TapeX ex h → ∃ (rs : List β) (h' : Hv), lcL turn (l.map e) h = some (.ok (rs.map E), h') ∧ rs.length = l.length ∧ (∀ r ∈ rs, P r) ∧ TapeX ex h'
  | [], _, h, tp => ⟨[], h, rfl, rfl, by simp, tp⟩
  | x :: l, H, h, tp => by
    obtain ⟨r, h1, e1, p1, t1⟩ := H x (List.mem_cons_self ..) h tp
    obtain ⟨rs, h2, e2, l2, p2, t2⟩ := lcL_draw l (fun y hy => H y (List.mem_cons_of_mem _ hy)) h1 t1
    refine ⟨r :: rs, h2, ?_, by simp [l2], fun q hq => ?_, t2⟩
    · simp only [List.map_cons, lcL, bnd, e1, e2, ret, List.singleton_append]
    · rcases List.mem_cons.mp hq with rfl | hq
      · exact p1
      · exact p2 q hq
theorem lc_draw {α β : Type} {e : α → T} {E : β → T} {P : β → Prop} {l : List α} (a : sr sl h = some (.ok (.fix (l.map e)), h)) (H : ∀ x ∈ l, ∃ sl1, setTg g (e x) (wipS sl vs) = some sl1 ∧ ∀ h, TapeX ex h → ∃ r h', d sl1 h = some (.ok (E r), h') ∧ P r ∧ TapeX ex h') (hl : l.length ≤ lim) (tp : TapeX ex h) :
    ∃ (rs : List β) (h' : Hv), dLc false vs sr g dYes d sl h = some (.ok (.lst (rs.map E)), h') ∧ rs.length = l.length ∧ (∀ r ∈ rs, P r) ∧ TapeX ex h' := by
  obtain ⟨rs, h', e1, l1, p1, t1⟩ := lcL_draw (e := e) (turn := lcT g dYes d (wipS sl vs)) (E := E) (P := P) l (fun x hx h tp => by
    obtain ⟨sl1, b1, b2⟩ := H x hx
    obtain ⟨r, h', b3, b4, b5⟩ := b2 h tp
    exact ⟨r, h', by simp [lcT, b1, bnd, dYes, ret, b3], b4, b5⟩) h tp
  refine ⟨rs, h', ?_, l1, p1, t1⟩
  unfold dLc
  rw [lc_core a e1]
  unfold lstR
  rw [if_pos (by rw [List.length_map, l1]; exact hl)]
  rfl
theorem lcL_sub {α : Type} {e G : α → T} {turn : T → M (List T)} {P : α → Prop} : ∀ (l : List α), (∀ x ∈ l, ∀ h, TapeX ex h → ∃ b h', turn (e x) h = some (.ok (if b then [G x] else []), h') ∧ (b = true → P x) ∧ TapeX ex h') → ∀ h, TapeX ex h → ∃ (rs : List α) (h' : Hv), lcL turn (l.map e) h = some (.ok (rs.map G), h') ∧ rs.Sublist l ∧ (∀ x ∈ rs, P x) ∧ TapeX ex h'
  | [], _, h, tp => ⟨[], h, rfl, .slnil, by simp, tp⟩
  | x :: l, H, h, tp => by
    obtain ⟨b, h1, e1, p1, t1⟩ := H x (List.mem_cons_self ..) h tp
    obtain ⟨rs, h2, e2, l2, p2, t2⟩ := lcL_sub l (fun y hy => H y (List.mem_cons_of_mem _ hy)) h1 t1
    cases b with
    | false => exact ⟨rs, h2, by simp [lcL, bnd, e1, e2, ret], l2.cons _, p2, t2⟩
    | true =>
      refine ⟨x :: rs, h2, by simp [lcL, bnd, e1, e2, ret], l2.cons_cons _, fun q hq => ?_, t2⟩
      rcases List.mem_cons.mp hq with rfl | hq
      · exact p1 rfl
      · exact p2 q hq
theorem lc_sub {α : Type} {e G : α → T} {P : α → Prop} {l : List α} (a : sr sl h = some (.ok (.fix (l.map e)), h)) (H : ∀ x ∈ l, ∃ sl1, setTg g (e x) (wipS sl vs) = some sl1 ∧ (∀ h, d sl1 h = some (.ok (G x), h)) ∧ ∀ h, TapeX ex h → ∃ b h', ta sl1 h = some (.ok b, h') ∧ (b = true → P x) ∧ TapeX ex h') (hl : l.length ≤ lim) (tp : TapeX ex h) :
    ∃ (rs : List α) (h' : Hv), dLc false vs sr g ta d sl h = some (.ok (.lst (rs.map G)), h') ∧ rs.Sublist l ∧ (∀ x ∈ rs, P x) ∧ TapeX ex h' := by
  obtain ⟨rs, h', e1, l1, p1, t1⟩ := lcL_sub (e := e) (turn := lcT g ta d (wipS sl vs)) (G := G) (P := P) l (fun x hx h tp => by
    obtain ⟨sl1, b1, b2, b3⟩ := H x hx
    obtain ⟨b, h', b4, b5, b6⟩ := b3 h tp
    refine ⟨b, h', ?_, b5, b6⟩
    cases b
    · simp [lcT, b1, bnd, b4, ret]
    · simp [lcT, b1, bnd, b4, ret, b2]) h tp
  refine ⟨rs, h', ?_, l1, p1, t1⟩
  unfold dLc
  rw [lc_core a e1]
  unfold lstR
  rw [if_pos (by rw [List.length_map]; exact Nat.le_trans l1.length_le hl)]
  rfl
end
def pick (n : Nat) (rs : List Int) (v : Int) : List Int := ((List.range n).filter fun k => decide (rs.getD k 0 = v)).map fun k : Nat => (k : Int)
theorem nats_row {n : Nat} {l : List Nat} (h : l.Sublist (List.range n)) : Row (n : Int) (l.map fun k : Nat => (k : Int)) := by
  refine ⟨?_, fun x hx => ?_⟩
  · rw [List.pairwise_map]
    exact (List.pairwise_lt_range.sublist h).imp fun h => by omega
  · obtain ⟨k, hk, rfl⟩ := List.mem_map.mp hx
    have := List.mem_range.mp (h.subset hk)
    omega
theorem pick_row (n : Nat) (rs : List Int) (v : Int) : Row (n : Int) (pick n rs v) := nats_row List.filter_sublist
theorem pick_ne {n : Nat} {rs : List Int} {v u : Int} (h : v ≠ u) : ∀ f ∈ pick n rs v, f ∉ pick n rs u := fun f h1 h2 => by
  obtain ⟨k, hk, rfl⟩ := List.mem_map.mp h1
  obtain ⟨k2, hk2, e⟩ := List.mem_map.mp h2
  have : k2 = k := by omega
  subst this
  have a := of_decide_eq_true (List.mem_filter.mp hk).2
  have b := of_decide_eq_true (List.mem_filter.mp hk2).2
  exact h (a.symm.trans b)
theorem ev_pick {sl : Sl} {h : Hv} {n : Nat} {rs : List Int} {v : Int} {a b k : Nat} (hn : n ≤ 1000) (hl : rs.length = n) (e1 : dVar a sl h = some (.ok (.int n), h)) (H : ∀ i : Nat, ∃ sl1, setTg (.nm k) (.int i) (wipS sl [k]) = some sl1 ∧ dVar b sl1 h = some (.ok (.lst (rs.map .int)), h) ∧ dVar k sl1 h = some (.ok (.int i), h)) :
    dCall fTuple (dCons (dLc false [k] (dRng1 (dCons (dVar a) (dNil))) (.nm k) (dB (dBin fEq (dBin fIx (dVar b) (dVar k)) (dC (.int v)))) (dVar k)) (dNil)) sl h = some (.ok (eF (pick n rs v)), h) := by
  have main := ev_tuple (lc_ev (sl := sl) (h := h) (h1 := h) (vs := [k]) (g := .nm k) (ta := dB (dBin fEq (dBin fIx (dVar b) (dVar k)) (dC (.int v)))) (d := dVar k) (e := fun k : Nat => T.int k) (l := List.range n) (p := fun k => decide (rs.getD k 0 = v)) (G := fun k : Nat => T.int k) (sr_rngN e1 (by omega)) (fun i hi => by
    obtain ⟨sl1, b1, b2, b3⟩ := H i
    have hi := List.mem_range.mp hi
    exact lcT_ev b1 (ev_dB (ev_bin (ev_ixL (i := i) b2 b3 (t := .int (rs.getD i 0)) (by simp [hl, hi])) ev_c (op_eq (e := T.int) _ v))) fun _ => b3) (by rw [List.length_range]; exact Nat.le_trans hn (by decide)))
  rw [main]
  show some (R.ok (T.tup _), h) = some (R.ok (T.tup _), h)
  unfold pick
  rw [List.map_map]
  rfl
theorem ev_deed {ex h : Hv} (tp : TapeX ex h) {n : Nat} (hn : n ≤ 12) : ∃ x h', d__law_deed [.ref 0, .int n] h = some (.ok (eDd x), h') ∧ DdOk (n : Int) x ∧ TapeX ex h' := by
  have key : ∃ t h', d__law_deed [.ref 0, .int n] h = some (.ok t, h') ∧ ∃ x, t = eDd x ∧ DdOk (n : Int) x ∧ TapeX ex h' := by
    refine def_ws (Q := fun t h' => ∃ x, t = eDd x ∧ DdOk (n : Int) x ∧ TapeX ex h') ?_
    have hl : (List.range n).length ≤ lim := by rw [List.length_range]; exact Nat.le_trans hn (by decide)
    obtain ⟨ms, h1, e1, l1, p1, t1⟩ := lc_draw (e := fun k : Nat => T.int k) (E := T.int) (P := fun _ => True) (l := List.range n) (sl := [some (.ref 0), some (.int n), none, none, none, none, none, none, none, none]) (h := h) (vs := [8]) (g := .nm 8) (sr := dRng1 (dCons (dVar 1) (dNil))) (d := dCall (fun ts => if ts.length = 2 then d__law_take ts else bot) (dCons (dVar 0) (dCons (dC (.int 6)) (dNil))))
      (sr_rngN (ev_var 1 rfl) (by omega)) (fun x hx => ⟨_, rfl, fun h tp => by
        obtain ⟨r, h', a1, a2, a3⟩ := ev_take tp (n := 6) (by decide)
        exact ⟨r, h', ev_callU (ea_cons (ev_var 0 rfl) (ea_cons ev_c ea_nil)) a1, True.intro, a3⟩⟩) hl tp
    obtain ⟨vs, h2, e2, l2, p2, t2⟩ := lc_draw (e := fun k : Nat => T.int k) (E := T.int) (P := fun _ => True) (l := List.range n) (sl := [some (.ref 0), some (.int n), some (.lst (ms.map .int)), none, none, none, none, none, none, none]) (h := h1) (vs := [8]) (g := .nm 8) (sr := dRng1 (dCons (dVar 1) (dNil))) (d := dCall (fun ts => if ts.length = 2 then d__law_take ts else bot) (dCons (dVar 0) (dCons (dC (.int 5)) (dNil))))
      (sr_rngN (ev_var 1 rfl) (by omega)) (fun x hx => ⟨_, rfl, fun h tp => by
        obtain ⟨r, h', a1, a2, a3⟩ := ev_take tp (n := 5) (by decide)
        exact ⟨r, h', ev_callU (ea_cons (ev_var 0 rfl) (ea_cons ev_c ea_nil)) a1, True.intro, a3⟩⟩) hl t1
    rw [List.length_range] at l1 l2
    obtain ⟨r, h3, e3, p3, t3⟩ := ev_take t2 (n := 4) (by decide)
    have lh : h.length = ex.length + 1 ∧ h3.length = ex.length + 1 := by
      obtain ⟨_, _, _, _, _, rfl, _⟩ := tp
      obtain ⟨_, _, _, _, _, rfl, _⟩ := t3
      exact ⟨rfl, rfl⟩
    refine ws_seq (ws_asg e1 rfl (ws_seq (ws_asg e2 rfl (ws_seq (ws_par 4 5 (ea_cons (ev_pick (n := n) (rs := ms) (by omega) l1 (ev_var 1 rfl) fun i => ⟨_, rfl, ev_var 2 rfl, ev_var 9 rfl⟩) (ea_cons (ev_pick (n := n) (rs := ms) (by omega) l1 (ev_var 1 rfl) fun i => ⟨_, rfl, ev_var 2 rfl, ev_var 9 rfl⟩) ea_nil))
      (ws_seq (ws_par 6 7 (ea_cons (ev_pick (n := n) (rs := vs) (by omega) l2 (ev_var 1 rfl) fun i => ⟨_, rfl, ev_var 3 rfl, ev_var 9 rfl⟩) (ea_cons (ev_pick (n := n) (rs := vs) (by omega) l2 (ev_var 1 rfl) fun i => ⟨_, rfl, ev_var 3 rfl, ev_var 9 rfl⟩) ea_nil))
        (ws_ret (ev_tup (ea_cons (ev_var 4 rfl) (ea_cons (ev_var 5 rfl) (ea_cons (ev_var 6 rfl) (ea_cons (ev_var 7 rfl) (ea_cons (ev_callU (ea_cons (ev_var 0 rfl) (ea_cons ev_c ea_nil)) e3) ea_nil)))))) ?_))))))))
    have tk : h3.take h.length = h3 := by rw [lh.1, ← lh.2, List.take_length]
    have ok := t3.hok
    unfold HOk at ok
    rw [lh.2] at ok
    refine ⟨fun k => EO.low (e := eDd) ⟨pick n ms 1, pick n ms 2, pick n vs 0, pick n vs 1, r⟩ k, by rw [tk, lh.1]; exact ok, ⟨⟨pick n ms 1, pick n ms 2, pick n vs 0, pick n vs 1, r⟩, rfl, ⟨pick_row .., pick_row .., pick_row .., pick_row .., pick_ne (by decide), pick_ne (by decide), ⟨p3.1, by have := p3.2; show r ≤ 99; omega⟩⟩, by rw [tk]; exact t3⟩⟩
  obtain ⟨t, h', e, x, rfl, q1, q2⟩ := key
  exact ⟨x, h', e, q1, q2⟩
theorem ev_world {ex h : Hv} (tp : TapeX ex h) {n c : Nat} (hn : 1 ≤ n ∧ n ≤ 12) (hc : c ≤ 24) : ∃ w h', d__law_world [.ref 0, .int n, .int c] h = some (.ok (eWd w), h') ∧ WdOk w ∧ w.m = n ∧ TapeX ex h' := by
  have key : ∃ t h', d__law_world [.ref 0, .int n, .int c] h = some (.ok t, h') ∧ ∃ w, t = eWd w ∧ WdOk w ∧ w.m = n ∧ TapeX ex h' := by
    refine def_ws (Q := fun t h' => ∃ w, t = eWd w ∧ WdOk w ∧ w.m = n ∧ TapeX ex h') ?_
    have hl : (List.range n).length ≤ lim := by rw [List.length_range]; exact Nat.le_trans hn.2 (by decide)
    have hl2 : (List.range c).length ≤ lim := by rw [List.length_range]; exact Nat.le_trans hc (by decide)
    obtain ⟨xs, h1, e1, l1, p1, t1⟩ := lc_draw (e := fun k : Nat => T.int k) (E := eDd) (P := fun x => DdOk (n : Int) x) (l := List.range c) (sl := [some (.ref 0), some (.int n), some (.int c), none, none, none, none, none]) (h := h) (vs := [7]) (g := .nm 7) (sr := dRng1 (dCons (dVar 2) (dNil))) (d := dCall (fun ts => if ts.length = 2 then d__law_deed ts else bot) (dCons (dVar 0) (dCons (dVar 1) (dNil))))
      (sr_rngN (ev_var 2 rfl) (by omega)) (fun x hx => ⟨_, rfl, fun h tp => by
        obtain ⟨r, h', a1, a2, a3⟩ := ev_deed tp (n := n) hn.2
        exact ⟨r, h', ev_callU (ea_cons (ev_var 0 rfl) (ea_cons (ev_var 1 rfl) ea_nil)) a1, a2, a3⟩⟩) hl2 tp
    obtain ⟨ss, h2, e2, l2, p2, t2⟩ := lc_sub (e := fun k : Nat => T.int k) (G := fun k : Nat => T.int k) (P := fun _ => True) (l := List.range n) (sl := [some (.ref 0), some (.int n), some (.int c), some (eT eDd xs), none, none, none, none]) (h := h1) (vs := [7]) (g := .nm 7) (sr := dRng1 (dCons (dVar 1) (dNil))) (ta := dB (dBin fEq (dCall (fun ts => if ts.length = 2 then d__law_take ts else bot) (dCons (dVar 0) (dCons (dC (.int 2)) (dNil)))) (dC (.int 0)))) (d := dVar 7)
      (sr_rngN (ev_var 1 rfl) (by omega)) (fun x hx => ⟨_, rfl, fun h => ev_var 7 rfl, fun h tp => by
        obtain ⟨r, h', a1, a2, a3⟩ := ev_take tp (n := 2) (by decide)
        exact ⟨_, h', ev_dB (ev_bin (ev_callU (ea_cons (ev_var 0 rfl) (ea_cons ev_c ea_nil)) a1) ev_c (op_eq (e := T.int) r 0)), fun _ => True.intro, a3⟩⟩) hl t1
    obtain ⟨ms, h3, e3, l3, p3, t3⟩ := lc_draw (e := fun k : Nat => T.int k) (E := T.int) (P := fun _ => True) (l := List.range n) (sl := [some (.ref 0), some (.int n), some (.int c), some (eT eDd xs), some (eF (ss.map fun k : Nat => (k : Int))), none, none, none]) (h := h2) (vs := [6]) (g := .nm 6) (sr := dRng1 (dCons (dVar 1) (dNil))) (d := dCall (fun ts => if ts.length = 2 then d__law_take ts else bot) (dCons (dVar 0) (dCons (dC (.int 4)) (dNil))))
      (sr_rngN (ev_var 1 rfl) (by omega)) (fun x hx => ⟨_, rfl, fun h tp => by
        obtain ⟨r, h', a1, a2, a3⟩ := ev_take tp (n := 4) (by decide)
        exact ⟨r, h', ev_callU (ea_cons (ev_var 0 rfl) (ea_cons ev_c ea_nil)) a1, True.intro, a3⟩⟩) hl t2
    rw [List.length_range] at l1 l3
    have lh : h.length = ex.length + 1 ∧ h3.length = ex.length + 1 := by
      obtain ⟨_, _, _, _, _, rfl, _⟩ := tp
      obtain ⟨_, _, _, _, _, rfl, _⟩ := t3
      exact ⟨rfl, rfl⟩
    have e2' : (ss.map fun k : Nat => T.int k) = (ss.map fun k : Nat => (k : Int)).map T.int := by rw [List.map_map]; rfl
    rw [e2'] at e2
    refine ws_seq (ws_asg (ev_tuple e1) rfl (ws_seq (ws_asg (ev_tuple e2) rfl (ws_seq (ws_asg e3 rfl (ws_ret (ev_tup (ea_cons (ev_var 1 rfl) (ea_cons (ev_var 3 rfl) (ea_cons (ev_var 4 rfl) (ea_cons (ev_tup (ea_cons (ev_pick (n := n) (rs := ms) (by omega) l3 (ev_var 1 rfl) fun i => ⟨_, rfl, ev_var 5 rfl, ev_var 7 rfl⟩)
      (ea_cons (ev_pick (n := n) (rs := ms) (by omega) l3 (ev_var 1 rfl) fun i => ⟨_, rfl, ev_var 5 rfl, ev_var 7 rfl⟩) ea_nil))) ea_nil))))) ?_))))))
    have tk : h3.take h.length = h3 := by rw [lh.1, ← lh.2, List.take_length]
    have ok := t3.hok
    unfold HOk at ok
    rw [lh.2] at ok
    refine ⟨fun k => ?_, by rw [tk, lh.1]; exact ok, ⟨⟨n, xs, ss.map fun k : Nat => (k : Int), pick n ms 1, pick n ms 2⟩, rfl, ⟨by show 1 ≤ (n : Int) ∧ (n : Int) ≤ 12; omega, by show xs.length ≤ 24; omega, p1, nats_row l2, pick_row .., pick_row .., pick_ne (by decide)⟩, rfl, by rw [tk]; exact t3⟩⟩
    show T.lows k [.int n, eT eDd xs, eF (ss.map fun k : Nat => (k : Int)), .tup [eF (pick n ms 1), eF (pick n ms 2)]] = true
    simp [T.lows, T.low, EO.low (e := eT eDd), EO.low (e := eF)]
  obtain ⟨t, h', e, w, rfl, q1, q2, q3⟩ := key
  exact ⟨w, h', e, q1, q2, q3⟩
end Z

/-! P17: the tape's making; subsets. -/
namespace Z
open PySem
theorem def_wsK {np nl : Nat} {b : DS} {ts : List T} {h : Hv} {Q : T → Hv → Prop} (w : WS (b (ts.map some ++ List.replicate (nl - ts.length) none) h) ⟨fun _ h' => Q .non h', fun _ _ => False, fun _ _ => False, Q⟩) (hn : ts.length = np := by rfl) :
    ∃ t h', dDef true np nl b ts h = some (.ok t, h') ∧ Q t h' := by
  have w := w.ok
  unfold dDef
  rw [if_pos hn]
  cases e : b (ts.map some ++ List.replicate (nl - ts.length) none) h with
  | none => rw [e] at w; exact w.elim
  | some r =>
    obtain ⟨fl, sl', h'⟩ := r
    rw [e] at w
    cases fl with
    | nx => exact ⟨_, _, rfl, w⟩
    | rt t => exact ⟨_, _, rfl, w⟩
    | bk => exact w.elim
    | ct => exact w.elim
    | exc c => exact w.elim
theorem sr_arg {sl : Sl} {h h1 : Hv} {d : D} {xs : List T} (a : d sl h = some (.ok (.arg xs), h1)) : dSrc d sl h = some (.ok (.fix xs), h1) := by simp only [dSrc, bnd, a, fSrc]
def absI (i : Int) : Int := if i < 0 then -i else i
theorem disp_tape {sl : Sl} {X : T} {s : Int} (v1 : ∀ h, dVar 1 sl h = some (.ok X, h)) (v2 : ∀ h, dVar 2 sl h = some (.ok (.int s), h)) :
    dDisp false [(dC (.str "cells"), dVar 1), (dC (.str "at"), dC (.int 0)), (dC (.str "left"), dC (.int 0)), (dC (.str "seed"), dVar 2), (dC (.str "salt"), dC (.int 0))] sl [] = some (.ok (.ref 0), [.dk false [kC, kA, kL, kD, kT] [X, .int 0, .int 0, .int s, .int 0]]) := by
  have k := kne
  have kk : ∀ z : Str, keyOf (.str z) = some (.inr z) := fun z => rfl
  simp only [kC, kA, kL, kD, kT] at k
  obtain ⟨k1, k2, k3, k4, k5, k6, k7, k8, k9, k10⟩ := k
  simp [dDisp, dPairs, nox, bnd, ret, dC, v1, v2, dicR, mkD, insK, kk, putKs, putV, own, lim, kC, kA, kL, kD, kT, k1, k2, k3, k4, k5, k6, k7, k8, k9, k10, k1.symm, k2.symm, k3.symm, k4.symm, k5.symm, k6.symm, k7.symm, k8.symm, k9.symm, k10.symm]
theorem ev_tape {ns : List Int} (hl : ns.length ≤ 1000) : ∃ h', d__law_tape [.arg (ns.map .int)] [] = some (.ok (.ref 0), h') ∧ Tape h' := by
  have key : ∃ t h', d__law_tape [.arg (ns.map .int)] [] = some (.ok t, h') ∧ (t = .ref 0 ∧ Tape h') := by
    refine def_wsK (Q := fun t h' => t = .ref 0 ∧ Tape h') ?_
    have e1 : (ns.map fun i => T.int (absI i)) = (ns.map absI).map T.int := by rw [List.map_map]; rfl
    refine ws_seq (ws_asg ((lc_evA (e := T.int) (l := ns) (G := fun i => T.int (absI i)) (sr_arg (ev_var 0 rfl)) (fun i hi => lcY_ev rfl (ev_call (ea_cons (ev_call (ea_cons (ev_var 3 rfl) ea_nil) rfl) ea_nil) rfl)) (Nat.le_trans hl (by decide))).trans (by rw [e1])) rfl (ws_seq (ws_asg ev_c rfl (ws_seq ?_))))
    refine ws_for (e := T.int) (ns.map absI) (fun _ sl g => g = [] ∧ ∃ (s : Int) (a : Option T), sl = [some (.arg (ns.map .int)), some (.lst ((ns.map absI).map .int)), some (.int s), a]) (sr_lst (ev_var 1 rfl)) ⟨rfl, _, _, rfl⟩ ?_ ?_
    · rintro x r sl g ⟨rfl, s, a, rfl⟩
      exact ⟨_, rfl, ws_asg (ev_bin (ev_call (ea_cons (ev_bin (ev_bin (ev_var 2 rfl) ev_c (op_mulR (by decide))) (ev_var 3 rfl) rfl) ea_nil) rfl) ev_c (op_mod (by decide))) rfl ⟨rfl, _, _, rfl⟩⟩
    · rintro sl g ⟨rfl, s, a, rfl⟩
      have e2 := disp_tape (sl := [some (.arg (ns.map .int)), some (.lst ((ns.map absI).map .int)), some (.int s), a]) (X := .lst ((ns.map absI).map .int)) (s := s) (fun h => ev_var 1 rfl) (fun h => ev_var 2 rfl)
      refine ws_ret e2 ⟨rfl, _, _, _, _, _, rfl, by decide, by decide, fun x hx => ?_, fun o ho => nomatch ho⟩
      obtain ⟨i, hi, rfl⟩ := List.mem_map.mp hx
      unfold absI
      split <;> omega
  obtain ⟨t, h', e, rfl, q⟩ := key
  exact ⟨h', e, q⟩
end Z

/-! Q19: what is drawn: sets of facts, rows of numbers; all states; small powers. -/
namespace Z
open PySem
/-! the tactics of this text (local): k_places evaluates what stands on the left; k_memK: what may be left open -/
local macro_rules | `(tactic| k_memK) => `(tactic| first
  | exact Nat.le_of_ble_eq_true rfl
  | assumption
  | (with_reducible apply side_le))
local macro_rules | `(tactic| k_places) => `(tactic| first
  | (with_reducible assumption)
  | (with_reducible exact ev_c)
  | ((with_reducible apply ev_var); rfl)
  | (with_reducible exact ea_nil)
  | (intro _; k_places)
  | ((with_reducible apply ea_cons) <;> k_places)
  | ((with_reducible apply ev_callU) <;> first | k_places | rfl)
  | ((with_reducible apply ev_tuple) <;> k_places)
  | ((with_reducible apply ev_tupleT) <;> k_places)
  | ((with_reducible apply ev_lenT) <;> k_places)
  | ((with_reducible apply ev_lenL) <;> k_places)
  | ((with_reducible apply ev_all) <;> k_places)
  | ((with_reducible apply ev_any) <;> k_places)
  | ((with_reducible apply ev_sortedL') <;> first | k_places | infer_instance | decide)
  | ((with_reducible apply ev_dB) <;> k_places)
  | ((with_reducible apply ev_truB) <;> k_places)
  | ((with_reducible apply ev_andV) <;> k_places)
  | ((with_reducible apply ev_orV) <;> k_places)
  | ((with_reducible apply ev_notV) <;> k_places)
  | ((with_reducible apply ev_and) <;> k_places)
  | ((with_reducible apply ev_or) <;> k_places)
  | ((with_reducible apply ev_not) <;> k_places)
  | ((with_reducible apply ev_chn) <;> k_places)
  | ((with_reducible apply ev_tup) <;> first | k_places | k_memK)
  | ((with_reducible apply ev_lst) <;> first | k_places | k_memK)
  | ((with_reducible apply ev_ix) <;> first | k_places | rfl)
  | ((with_reducible apply ev_ixL) <;> first | k_places | rfl)
  | ((with_reducible apply lc_evA) <;> first | k_places | (intro _ _; (apply lcY_ev rfl); k_places) | k_memK)
  | ((with_reducible apply lc_ev) <;> first | k_places | (intro _ _; (apply lcT_ev rfl) <;> k_places) | k_memK)
  | ((with_reducible apply ev_bin) <;> k_places)
  | ((with_reducible apply ev_un) <;> k_places)
  | ((with_reducible apply sr_tup) <;> k_places)
  | ((with_reducible apply sr_lst) <;> k_places)
  | ((with_reducible apply sr_rng1) <;> first | k_places | k_memK)
  | ((with_reducible apply op_cat) <;> k_memK)
  | ((with_reducible apply op_catT) <;> k_memK)
  | exact oi_add | exact oi_sub | exact oi_lt | exact oi_le | exact oi_gt | exact oi_ge | exact oi_neg
  | exact op_neT _ _ | exact op_neL _ _ | exact op_eqT _ _ | exact op_eqL _ _ | exact op_neT0 _ | exact op_eqT0 _
  | exact op_eq _ _ | exact op_ne _ _ | exact in_tup _ _ | exact in_lst _ _ | exact ni_tup _ _ | exact ni_lst _ _)
section
variable {ex : Hv} {sl : Sl} {h h1 : Hv} {dN d2 : D} {i t : Nat} {n : Nat} {q b : Int}
abbrev dTake (t : Nat) (q : D) : D := dCall (fun ts => if ts.length = 2 then d__law_take ts else bot) (dCons (dVar t) (dCons q dNil))
/-- tuple([k for k in range(many) if _law_take(tape, q) == 0]) -/
theorem ev_drawS (tp : TapeX ex h) (e1 : dN sl h = some (.ok (.int n), h)) (hn : n ≤ 1000) (hq : 0 < q ∧ q < 1000) (H : ∀ x : Int, ∃ sl1, setTg (.nm i) (.int x) (wipS sl [i]) = some sl1 ∧ sl1[t]? = some (some (.ref 0)) ∧ sl1[i]? = some (some (.int x))) :
    ∃ (s : List Int) (h' : Hv), dCall fTuple (dCons (dLc false [i] (dRng1 (dCons dN dNil)) (.nm i) (dB (dBin fEq (dTake t (dC (.int q))) (dC (.int 0)))) (dVar i)) dNil) sl h = some (.ok (eF s), h') ∧ Row (n : Int) s ∧ TapeX ex h' := by
  obtain ⟨ss, h2, e2, l2, -, t2⟩ := lc_sub (e := fun k : Nat => T.int k) (G := fun k : Nat => T.int k) (P := fun _ => True) (l := List.range n) (sl := sl) (h := h) (vs := [i]) (g := .nm i) (sr := dRng1 (dCons dN dNil)) (ta := dB (dBin fEq (dTake t (dC (.int q))) (dC (.int 0)))) (d := dVar i)
    (sr_rngN e1 (by omega)) (fun x hx => by
      obtain ⟨sl1, a1, a2, a3⟩ := H x
      exact ⟨sl1, a1, fun h => ev_var i a3, fun h tp => by
        obtain ⟨r, h', b1, b2, b3⟩ := ev_take tp hq
        exact ⟨_, h', ev_dB (ev_bin (ev_callU (ea_cons (ev_var t a2) (ea_cons ev_c ea_nil)) b1) ev_c (op_eq (e := T.int) r 0)), fun _ => True.intro, b3⟩⟩) (by rw [List.length_range]; exact Nat.le_trans hn (by decide)) tp
  refine ⟨ss.map fun k : Nat => (k : Int), h2, ?_, nats_row l2, t2⟩
  have e3 : (ss.map fun k : Nat => T.int k) = (ss.map fun k : Nat => (k : Int)).map T.int := by rw [List.map_map]; rfl
  rw [e3] at e2
  exact ev_tuple e2
theorem lc_drawA {α β : Type} {e : α → T} {E : β → T} {P : β → Prop} {l : List α} {sr : DR} {vs : List Nat} {g : Tg} {d : D} (a : sr sl h = some (.ok (.fix (l.map e)), h1)) (H : ∀ x ∈ l, ∃ sl1, setTg g (e x) (wipS sl vs) = some sl1 ∧ ∀ h, TapeX ex h → ∃ r h', d sl1 h = some (.ok (E r), h') ∧ P r ∧ TapeX ex h') (hl : l.length ≤ lim) (tp : TapeX ex h1) :
    ∃ (rs : List β) (h' : Hv), dLc false vs sr g dYes d sl h = some (.ok (.lst (rs.map E)), h') ∧ rs.length = l.length ∧ (∀ r ∈ rs, P r) ∧ TapeX ex h' := by
  obtain ⟨rs, h', e1, l1, p1, t1⟩ := lcL_draw (e := e) (turn := lcT g dYes d (wipS sl vs)) (E := E) (P := P) l (fun x hx h tp => by
    obtain ⟨sl1, b1, b2⟩ := H x hx
    obtain ⟨r, h', b3, b4, b5⟩ := b2 h tp
    exact ⟨r, h', by simp [lcT, b1, bnd, dYes, ret, b3], b4, b5⟩) h1 tp
  refine ⟨rs, h', ?_, l1, p1, t1⟩
  unfold dLc
  rw [lc_core a e1]
  unfold lstR
  rw [if_pos (by rw [List.length_map, l1]; exact hl)]
  rfl
/-- [_law_take(tape, b) for k in range(..)] -/
theorem ev_drawL (tp : TapeX ex h1) (e1 : dN sl h = some (.ok (.int n), h1)) (hn : n ≤ 1000) (hb : 0 < b ∧ b < 1000) (H : ∀ x : Int, ∃ sl1, setTg (.nm i) (.int x) (wipS sl [i]) = some sl1 ∧ sl1[t]? = some (some (.ref 0)) ∧ ∀ h, d2 sl1 h = some (.ok (.int b), h)) :
    ∃ (s : List Int) (h' : Hv), dLc false [i] (dRng1 (dCons dN dNil)) (.nm i) dYes (dTake t d2) sl h = some (.ok (.lst (s.map T.int)), h') ∧ s.length = n ∧ (∀ x ∈ s, 0 ≤ x ∧ x < b) ∧ TapeX ex h' := by
  have src : dRng1 (dCons dN dNil) sl h = some (.ok (.fix ((List.range n).map fun k : Nat => T.int k)), h1) := sr_rngN e1 (by omega)
  obtain ⟨s, h2, e2, l2, p2, t2⟩ := lc_drawA (e := fun k : Nat => T.int k) (E := T.int) (P := fun x => 0 ≤ x ∧ x < b) (l := List.range n) (sl := sl) (h := h) (h1 := h1) (vs := [i]) (g := .nm i) (sr := dRng1 (dCons dN dNil)) (d := dTake t d2)
    src (fun x hx => by
      obtain ⟨sl1, a1, a2, a3⟩ := H x
      exact ⟨sl1, a1, fun h tp => by
        obtain ⟨r, h', b1, b2, b3⟩ := ev_take tp hb
        exact ⟨r, h', ev_callU (ea_cons (ev_var t a2) (ea_cons (a3 h) ea_nil)) b1, b2, b3⟩⟩) (by rw [List.length_range]; exact Nat.le_trans hn (by decide)) tp
  exact ⟨s, h2, e2, by rw [l2, List.length_range], p2, t2⟩
end
end Z

/-! B1: the least by a key; remove; < of data. -/
namespace Z
open PySem PySem.W
/-! the tactics of this text (local): k_places evaluates what stands on the left; k_memK: what may be left open -/
local macro_rules | `(tactic| k_memK) => `(tactic| first
  | exact Nat.le_of_ble_eq_true rfl
  | assumption
  | (with_reducible apply side_le))
local macro_rules | `(tactic| k_places) => `(tactic| first
  | (with_reducible assumption)
  | (with_reducible exact ev_c)
  | ((with_reducible apply ev_var); rfl)
  | (with_reducible exact ea_nil)
  | (intro _; k_places)
  | ((with_reducible apply ea_cons) <;> k_places)
  | ((with_reducible apply ev_callU) <;> first | k_places | rfl)
  | ((with_reducible apply ev_tuple) <;> k_places)
  | ((with_reducible apply ev_tupleT) <;> k_places)
  | ((with_reducible apply ev_lenT) <;> k_places)
  | ((with_reducible apply ev_lenL) <;> k_places)
  | ((with_reducible apply ev_all) <;> k_places)
  | ((with_reducible apply ev_any) <;> k_places)
  | ((with_reducible apply ev_sortedL') <;> first | k_places | infer_instance | decide)
  | ((with_reducible apply ev_dB) <;> k_places)
  | ((with_reducible apply ev_truB) <;> k_places)
  | ((with_reducible apply ev_andV) <;> k_places)
  | ((with_reducible apply ev_orV) <;> k_places)
  | ((with_reducible apply ev_notV) <;> k_places)
  | ((with_reducible apply ev_and) <;> k_places)
  | ((with_reducible apply ev_or) <;> k_places)
  | ((with_reducible apply ev_not) <;> k_places)
  | ((with_reducible apply ev_chn) <;> k_places)
  | ((with_reducible apply ev_tup) <;> first | k_places | k_memK)
  | ((with_reducible apply ev_lst) <;> first | k_places | k_memK)
  | ((with_reducible apply ev_ix) <;> first | k_places | rfl)
  | ((with_reducible apply ev_ixL) <;> first | k_places | rfl)
  | ((with_reducible apply lc_evA) <;> first | k_places | (intro _ _; (apply lcY_ev rfl); k_places) | k_memK)
  | ((with_reducible apply lc_ev) <;> first | k_places | (intro _ _; (apply lcT_ev rfl) <;> k_places) | k_memK)
  | ((with_reducible apply ev_bin) <;> k_places)
  | ((with_reducible apply ev_un) <;> k_places)
  | ((with_reducible apply sr_tup) <;> k_places)
  | ((with_reducible apply sr_lst) <;> k_places)
  | ((with_reducible apply sr_rng1) <;> first | k_places | k_memK)
  | ((with_reducible apply op_cat) <;> k_memK)
  | ((with_reducible apply op_catT) <;> k_memK)
  | exact oi_add | exact oi_sub | exact oi_lt | exact oi_le | exact oi_gt | exact oi_ge | exact oi_neg
  | exact op_neT _ _ | exact op_neL _ _ | exact op_eqT _ _ | exact op_eqL _ _ | exact op_neT0 _ | exact op_eqT0 _
  | exact op_eq _ _ | exact op_ne _ _ | exact in_tup _ _ | exact in_lst _ _ | exact ni_tup _ _ | exact ni_lst _ _)
section
variable {α β : Type} {e : α → T} {h h1 h2 : Hv} {n : Nat} {sl : Sl} {d dk : D}
/-! ### the first number decides -/
theorem lt_num {a b : Int} {xs ys : List PyData} : (a < b → dataLt (.tuple (.int a :: xs)) (.tuple (.int b :: ys)) = true) ∧ (b < a → dataLt (.tuple (.int a :: xs)) (.tuple (.int b :: ys)) = false) := by
  have q : ∀ a b : Int, a ≠ b → dataLt (.tuple (.int a :: xs)) (.tuple (.int b :: ys)) = decide (a < b) := fun a b hne => by
    rw [dataLt_tuple, dataLt_all_no (x := .int a) (y := .int b) rfl (show (a == b) = false by simp [hne]), dataLt_int]
  exact ⟨fun z => (q a b (by omega)).trans (by simp [z]), fun z => (q a b (by omega)).trans (by simp; omega)⟩
theorem lt_num2 {a b : Int} {xs ys us vs : List PyData} (hal : alikeAll (.int a :: xs) (.int b :: ys) = true) : (a < b → dataLt (.tuple (.tuple (.int a :: xs) :: us)) (.tuple (.tuple (.int b :: ys) :: vs)) = true) ∧ (b < a → dataLt (.tuple (.tuple (.int a :: xs) :: us)) (.tuple (.tuple (.int b :: ys) :: vs)) = false) := by
  have q : a ≠ b → dataLt (.tuple (.tuple (.int a :: xs) :: us)) (.tuple (.tuple (.int b :: ys) :: vs)) = dataLt (.tuple (.int a :: xs)) (.tuple (.int b :: ys)) := fun hne => by
    rw [dataLt_tuple, dataLt_all_no (x := .tuple (.int a :: xs)) (y := .tuple (.int b :: ys)) hal ?_]
    show PyData.eqvAll (.int a :: xs) (.int b :: ys) = false
    rw [eqv_all_cons, show PyData.eqv (.int a) (.int b) = false from (show (a == b) = false by simp [hne])]
    rfl
  exact ⟨fun z => (q (by omega)).trans (lt_num.1 z), fun z => (q (by omega)).trans (lt_num.2 z)⟩
/-! ### min(.., key=..) -/
theorem minLp_ev {f : T → M T} {t : T} {l : List α} {g : α → T} {c : α → Int} (hs : slQ h t = some (l.map e)) (hf : ∀ x ∈ l, f (e x) h = some (.ok (g x), h)) (ok : ∀ x ∈ l, ∀ y ∈ l, kOk (g x) (g y) = true)
    (c1 : ∀ x ∈ l, ∀ y ∈ l, dataLt (g x).py (g y).py = true → c x ≤ c y) (c2 : ∀ x ∈ l, ∀ y ∈ l, dataLt (g x).py (g y).py = false → c y ≤ c x) :
    ∀ (k j : Nat) (b : α), k + j = l.length + 1 → 0 < k → b ∈ l → (∀ i y, i < j → l[i]? = some y → c b ≤ c y) → ∃ x ∈ l, minLp f t k j (e b, g b) h = some (.ok (e x), h) ∧ ∀ y ∈ l, c x ≤ c y
  | 0, j, b, _, h0, _, _ => absurd h0 (by omega)
  | k + 1, j, b, hk, _, hb, hbest => by
    unfold minLp
    simp only [hs]
    by_cases hj : j < l.length
    · obtain ⟨y, hy⟩ : ∃ y, l[j]? = some y := ⟨_, List.getElem?_eq_getElem hj⟩
      have hm : y ∈ l := List.mem_of_getElem? hy
      have e1 : (l.map e)[j]? = some (e y) := by rw [List.getElem?_map, hy]; rfl
      simp only [e1, hf y hm, ok y hm b hb, if_true]
      have nxt : ∀ b' ∈ l, (b' = y ∨ b' = b) → c b' ≤ c y → c b' ≤ c b → ∃ x ∈ l, minLp f t k (j + 1) (e b', g b') h = some (.ok (e x), h) ∧ ∀ y ∈ l, c x ≤ c y := fun b' hb' _ q1 q2 =>
        minLp_ev hs hf ok c1 c2 k (j + 1) b' (by omega) (by omega) hb' fun i z hi hz => by
          by_cases hij : i = j
          · subst hij; rw [hy] at hz; cases hz; exact q1
          · exact Int.le_trans q2 (hbest i z (by omega) hz)
      cases hlt : dataLt (g y).py (g b).py with
      | true =>
        simp only [if_true]
        exact nxt y hm (.inl rfl) (Int.le_refl _) (c1 y hm b hb hlt)
      | false =>
        simp only [Bool.false_eq_true, if_false]
        exact nxt b hb (.inr rfl) (c2 y hm b hb hlt) (Int.le_refl _)
    · have e1 : (l.map e)[j]? = none := by rw [List.getElem?_eq_none_iff, List.length_map]; omega
      simp only [e1, List.length_map]
      rw [if_pos (by omega)]
      refine ⟨b, hb, rfl, fun y hy => ?_⟩
      obtain ⟨i, hi, q⟩ := List.mem_iff_getElem.mp hy
      exact hbest i y (by omega) (by rw [List.getElem?_eq_getElem hi, q])
theorem ev_minK {l : List α} {g : α → T} {c : α → Int} {t : T} (a : d sl h = some (.ok t, h)) (hs : slQ h t = some (l.map e)) (hl : l ≠ []) (hf : ∀ x ∈ l, dk (sl ++ [some (e x)]) h = some (.ok (g x), h)) (ok : ∀ x ∈ l, ∀ y ∈ l, kOk (g x) (g y) = true)
    (c1 : ∀ x ∈ l, ∀ y ∈ l, dataLt (g x).py (g y).py = true → c x ≤ c y) (c2 : ∀ x ∈ l, ∀ y ∈ l, dataLt (g x).py (g y).py = false → c y ≤ c x) : ∃ x ∈ l, dMinK d dk sl h = some (.ok (e x), h) ∧ ∀ y ∈ l, c x ≤ c y := by
  cases l with
  | nil => exact absurd rfl hl
  | cons x l =>
    have e1 := hf x (List.mem_cons_self ..)
    obtain ⟨z, hz, q, m⟩ := minLp_ev (f := fun x => dk (sl ++ [some x])) hs hf ok c1 c2 (l.length + 1) 1 x (by simp) (by omega) (List.mem_cons_self ..) fun i y hi hy => by
      have : i = 0 := by omega
      subst this
      cases hy
      exact Int.le_refl _
    refine ⟨z, hz, ?_, m⟩
    unfold dMinK bnd
    simp only [a]
    unfold fMinK
    simp only [hs, List.map_cons, e1, List.length_map]
    exact q
/-! ### remove -/
theorem find_erase [DecidableEq α] {l : List α} {x : α} (hx : x ∈ l) : ∃ j, (l.findIdx? fun y => decide (y = x)) = some j ∧ l.eraseIdx j = l.erase x := by
  induction l with
  | nil => cases hx
  | cons y l ih =>
    by_cases hy : y = x
    · subst hy
      exact ⟨0, by simp [List.findIdx?_cons], by simp⟩
    · have hx' : x ∈ l := by
        rcases List.mem_cons.mp hx with z | z
        · exact absurd z.symm hy
        · exact z
      obtain ⟨j, h1, h2⟩ := ih hx'
      refine ⟨j + 1, by simp [List.findIdx?_cons, hy, h1], ?_⟩
      rw [List.eraseIdx_cons_succ, h2, List.erase_cons_tail (by simpa using hy)]
/-- without x, once -/
def rmv {α : Type} [DecidableEq α] (l : List α) (x : α) : List α := l.erase x
theorem rmv_nd {α : Type} [DecidableEq α] {l : List α} {x : α} (h : l.Nodup) : (rmv l x).Nodup := h.erase _
theorem mem_rmv {α : Type} [DecidableEq α] {l : List α} {x y : α} (h : l.Nodup) : y ∈ rmv l x ↔ y ≠ x ∧ y ∈ l := List.Nodup.mem_erase_iff h
theorem of_rmv {α : Type} [DecidableEq α] {l : List α} {x y : α} (h : y ∈ rmv l x) : y ∈ l := List.mem_of_mem_erase h
theorem map_eraseIdxT (e : α → T) : ∀ (l : List α) (j : Nat), (l.map e).eraseIdx j = (l.eraseIdx j).map e
  | [], _ => rfl
  | _ :: _, 0 => rfl
  | x :: l, j + 1 => by simp [map_eraseIdxT e l j]
theorem rem_ev [DecidableEq α] {dd : Nat} [EO e dd] {l : List α} {x : α} (hx : x ∈ l) (g : h[n]? = some (.lst (l.map e))) (hl : l.length ≤ lim) (hd : dd + 1 ≤ 64 := by decide) : fRemove (.ref n) [e x] h = some (.ok .non, h.set n (.lst ((rmv l x).map e))) := by
  obtain ⟨j, h1, h2⟩ := find_erase hx
  have e1 : placeT (l.map e) (e x) = some j := by
    unfold placeT
    rw [List.findIdx?_map, ← h1]
    congr 1
    funext y
    exact EO.eqv y x
  unfold fRemove
  simp only [g, EO.sh (e := e) x (by omega), EO.shL (e := e) l hd, Bool.and_self, if_true, e1, List.length_map, if_pos hl]
  rw [map_eraseIdxT, h2]
  rfl
theorem ev_rem [DecidableEq α] {dd : Nat} [EO e dd] {l : List α} {x : α} {da : DA} (a : d sl h = some (.ok (.ref n), h)) (b : da sl h = some (.ok [e x], h)) (hx : x ∈ l) (g : h[n]? = some (.lst (l.map e))) (hl : l.length ≤ lim) (hd : dd + 1 ≤ 64 := by decide) :
    dMeth .list fRemove d da sl h = some (.ok .non, h.set n (.lst ((rmv l x).map e))) := by
  have ty : tyQ h (.ref n) = some .list := by simp only [tyQ, g]
  simp only [dMeth, bnd, a, ty, if_true, b, rem_ev hx g hl hd]
/-- is it a key -/
def kin {α β : Type} [DecidableEq α] (x : α) (D : List (α × β)) : Bool := decide (x ∈ D.map (·.1))
theorem kin_iff {α β : Type} [DecidableEq α] {x : α} {D : List (α × β)} : kin x D = true ↔ x ∈ D.map (·.1) := by simp [kin]
theorem kin_no {α β : Type} [DecidableEq α] {x : α} {D : List (α × β)} : kin x D = false ↔ x ∉ D.map (·.1) := by simp [kin]
theorem niK {α β : Type} [DecidableEq α] {e : α → T} {f : β → T} {D : List (α × β)} {lk : Bool} {x : α} [KU e] (g : h[n]? = some (oU lk e f D)) : fNotIn (e x) (.ref n) h = some (.ok (.bl (!kin x D)), h) := niU g
theorem inK {α β : Type} [DecidableEq α] {e : α → T} {f : β → T} {D : List (α × β)} {lk : Bool} {x : α} [KU e] (g : h[n]? = some (oU lk e f D)) : fIn (e x) (.ref n) h = some (.ok (.bl (kin x D)), h) := inU g
theorem dr_nref {t : T} (c : t.py.canLay0 = true) : dr h t = t := by
  cases t with
  | ref n => cases c
  | _ => rfl
theorem op_ltD2 {a b : T} (ok : kOk a b = true) : fLtD a b h = some (.ok (.bl (dataLt a.py b.py)), h) := by
  obtain ⟨k1, k2, _, _⟩ := kOk_of ok
  unfold fLtD
  rw [dr_nref (SeqAt.canLay_of_shaped k1), dr_nref (SeqAt.canLay_of_shaped k2), if_pos ok]
end
end Z

/-! B2: cheapest, the maths. -/
namespace Z
open PySem PySem.W
theorem endS_snoc {w : Wd} {k : Int} : ∀ {p : List Int} {s : List Int}, endS w s (p ++ [k]) = (endS w s p).bind fun t => if fitsB (gD w k).n (gD w k).b t then some (aft (gD w k) t) else none
  | [], s => rfl
  | j :: p, s => by
    simp only [List.cons_append, endS]
    split
    · exact endS_snoc
    · rfl
theorem costP_snoc {w : Wd} {p : List Int} {k : Int} : costP w (p ++ [k]) = costP w p + (gD w k).c := by simp [costP]
theorem costP_cons {w : Wd} {p : List Int} {k : Int} : costP w (k :: p) = (gD w k).c + costP w p := by simp [costP]
theorem gD_ok {w : Wd} (o : WdOk w) {k : Int} (h : 0 ≤ k ∧ k < w.ds.length) : DdOk w.m (gD w k) := o.ds _ (gD_mem h)
theorem costP_pos {w : Wd} (o : WdOk w) : ∀ {p : List Int}, InP w p → 0 ≤ costP w p
  | [], _ => by simp [costP]
  | k :: p, h => by
    have h1 := (gD_ok o (h k (List.mem_cons_self ..))).c.1
    have h2 := costP_pos o (p := p) fun j hj => h j (List.mem_cons_of_mem _ hj)
    rw [costP_cons]
    omega
abbrev V3 := Int × Int × List Int
abbrev BD := List (List Int × V3)
/-- where the search stands: the best ways, those that are done, those that wait -/
structure DI (w : Wd) (B : BD) (D : List (List Int × Bool)) (W : List (List Int)) : Prop where
  kb : Kys B
  good : ∀ x v, dGet B x = some v → Row w.m x ∧ InP w v.2.2 ∧ endS w w.s v.2.2 = some x ∧ costP w v.2.2 = v.1 ∧ v.2.2.length ≤ D.length
  kd : Kys D
  wn : W.Nodup
  cov : ∀ x, x ∈ B.map (·.1) ↔ x ∈ W ∨ x ∈ D.map (·.1)
  dis : ∀ x ∈ W, x ∉ D.map (·.1)
  st : ∃ v, dGet B w.s = some v ∧ v.1 ≤ 0
  nog : ∀ x ∈ D.map (·.1), fitsB w.gn w.gb x = false
structure DJ (w : Wd) (B : BD) (D : List (List Int × Bool)) (W : List (List Int)) : Prop extends DI w B D W where
  ord : ∀ x ∈ D.map (·.1), ∀ y ∈ W, ∀ vx vy, dGet B x = some vx → dGet B y = some vy → vx.1 ≤ vy.1
  rel : ∀ x ∈ D.map (·.1), ∀ q ∈ nxtL w x, ∃ vx vy, dGet B x = some vx ∧ dGet B q.2 = some vy ∧ vy.1 ≤ vx.1 + (gD w q.1).c
structure DStep (w : Wd) (B : BD) (D : List (List Int × Bool)) (W : List (List Int)) (x0 : List Int) (v0 : V3) (P : List (Int × List Int)) : Prop extends DI w B D W where
  g0 : dGet B x0 = some v0
  m0 : x0 ∈ D.map (·.1)
  l0 : v0.2.2.length + 1 ≤ D.length
  top : ∀ x ∈ D.map (·.1), ∀ vx, dGet B x = some vx → vx.1 ≤ v0.1
  low : ∀ y ∈ W, ∀ vy, dGet B y = some vy → v0.1 ≤ vy.1
  rel : ∀ x ∈ D.map (·.1), x ≠ x0 → ∀ q ∈ nxtL w x, ∃ vx vy, dGet B x = some vx ∧ dGet B q.2 = some vy ∧ vy.1 ≤ vx.1 + (gD w q.1).c
  rel0 : ∀ q ∈ P, ∃ vy, dGet B q.2 = some vy ∧ vy.1 ≤ v0.1 + (gD w q.1).c
section
variable {w : Wd} {B : BD} {D : List (List Int × Bool)} {W : List (List Int)} {x0 : List Int} {v0 : V3} {P : List (Int × List Int)}
theorem dGet_some_of {x : List Int} (h : x ∈ B.map (·.1)) : ∃ v, dGet B x = some v := by
  cases q : dGet B x with
  | some v => exact ⟨v, rfl⟩
  | none => exact absurd h (dGet_none.mp q)
theorem mem_of_dGet {x : List Int} {v : V3} (h : dGet B x = some v) : x ∈ B.map (·.1) := List.mem_map.mpr ⟨_, dGet_mem h, rfl⟩
theorem DI.rows (i : DI w B D W) : ∀ x ∈ B.map (·.1), Row w.m x := fun x hx => by
  obtain ⟨v, hv⟩ := dGet_some_of hx
  exact (i.good x v hv).1
theorem DI.lenB (o : WdOk w) (i : DI w B D W) : B.length ≤ 4096 := by
  have := rows_len (by have := o.m; omega) o.m.2 i.kb i.rows
  rwa [List.length_map] at this
theorem DI.lenD (o : WdOk w) (i : DI w B D W) : D.length ≤ 4096 := by
  have := rows_len (by have := o.m; omega) o.m.2 i.kd fun x hx => i.rows x ((i.cov x).mpr (.inr hx))
  rwa [List.length_map] at this
theorem DI.lenW (o : WdOk w) (i : DI w B D W) : W.length ≤ 4096 := rows_len (by have := o.m; omega) o.m.2 i.wn fun x hx => i.rows x ((i.cov x).mpr (.inl hx))
theorem DJ.start (o : WdOk w) : DJ w [(w.s, (0, 0, []))] [] [w.s] := by
  have g : ∀ x v, dGet [(w.s, ((0, 0, []) : V3))] x = some v → x = w.s ∧ v = (0, 0, []) := fun x v e => by
    rw [dGet_cons] at e
    split at e
    · rename_i h
      cases e
      exact ⟨h.symm, rfl⟩
    · cases e
  refine ⟨⟨by simp [Kys], fun x v e => ?_, by simp [Kys], by simp, fun x => by simp, fun x _ => by simp, ⟨(0, 0, []), by rw [dGet_cons, if_pos rfl], by decide⟩, fun x hx => by simp at hx⟩, fun x hx => by simp at hx, fun x hx => by simp at hx⟩
  obtain ⟨rfl, rfl⟩ := g x v e
  exact ⟨o.s, (fun k hk => nomatch hk), rfl, rfl, Nat.le_refl _⟩
/-- the chosen one is done -/
theorem DJ.pick (i : DJ w B D W) (h0 : x0 ∈ W) (hv : dGet B x0 = some v0) (hmin : ∀ y ∈ W, ∀ vy, dGet B y = some vy → v0.1 ≤ vy.1) (hg : fitsB w.gn w.gb x0 = false) :
    DStep w B (dPut D x0 true) (rmv W x0) x0 v0 [] := by
  have nD := i.dis x0 h0
  have eD : (dPut D x0 true).map (·.1) = D.map (·.1) ++ [x0] := by rw [dPut_keys, if_neg nD]
  have lD : (dPut D x0 true).length = D.length + 1 := by
    have := congrArg List.length eD
    simpa using this
  refine ⟨⟨i.kb, fun x v e => ?_, dPut_nd i.kd, rmv_nd i.wn, fun x => ?_, fun x hx => ?_, i.st, fun x hx => ?_⟩, hv, ?_, ?_, fun x hx vx e => ?_, fun y hy vy e => ?_, fun x hx ne q hq => ?_, fun q hq => nomatch hq⟩
  · obtain ⟨a, b, c, d, f⟩ := i.good x v e
    exact ⟨a, b, c, d, by omega⟩
  · rw [i.cov x, dPut_mem, mem_rmv i.wn]
    by_cases hx : x = x0
    · subst hx; simp [h0]
    · simp [hx]
  · have h1 := (mem_rmv i.wn).mp hx
    rw [dPut_mem]
    rintro (z | z)
    · exact i.dis x h1.2 z
    · exact h1.1 z
  · rcases dPut_mem.mp hx with z | rfl
    · exact i.nog x z
    · exact hg
  · exact dPut_mem.mpr (.inr rfl)
  · have := (i.good x0 v0 hv).2.2.2.2
    omega
  · rcases dPut_mem.mp hx with z | rfl
    · exact i.ord x z x0 h0 vx v0 e hv
    · rw [hv] at e; cases e; exact Int.le_refl _
  · exact hmin y (of_rmv hy) vy e
  · rcases dPut_mem.mp hx with z | z
    · exact i.rel x z q hq
    · exact absurd z ne
/-- one way on -/
def tld (v0 : V3) (w : Wd) (k : Int) : V3 := (v0.1 + (gD w k).c, v0.2.1 + 1, v0.2.2 ++ [k])
theorem DStep.same (i : DStep w B D W x0 v0 P) {q : Int × List Int} {vy : V3} (hy : dGet B q.2 = some vy) (hle : vy.1 ≤ v0.1 + (gD w q.1).c) : DStep w B D W x0 v0 (q :: P) :=
  ⟨i.toDI, i.g0, i.m0, i.l0, i.top, i.low, i.rel, fun r hr => by
    rcases List.mem_cons.mp hr with rfl | hr
    · exact ⟨vy, hy, hle⟩
    · exact i.rel0 r hr⟩
theorem DStep.put (o : WdOk w) (i : DStep w B D W x0 v0 P) {q : Int × List Int} (hq : q ∈ nxtL w x0) (hd : q.2 ∉ D.map (·.1)) (hle : ∀ vy, dGet B q.2 = some vy → v0.1 + (gD w q.1).c ≤ vy.1) :
    DStep w (dPut B q.2 (tld v0 w q.1)) D (if q.2 ∈ B.map (·.1) then W else W ++ [q.2]) x0 v0 (q :: P) := by
  obtain ⟨n, x, e1, e2, e3⟩ := mem_nxtL.mp hq
  have hq1 : q.1 = (n : Int) := by rw [e3]
  have hn := (List.getElem?_eq_some_iff.mp e1).1
  have hin : 0 ≤ q.1 ∧ q.1 < w.ds.length := ⟨by omega, by omega⟩
  have hgd : gD w q.1 = x := by
    have := gD_get hin
    rw [hq1, Int.toNat_natCast, e1] at this
    rw [hq1]
    exact (Option.some.inj this).symm
  have hq2 : q.2 = aft (gD w q.1) x0 := by rw [hgd, e3]
  have hfit : fitsB (gD w q.1).n (gD w q.1).b x0 = true := by rw [hgd]; exact e2
  have hcc := (gD_ok o hin).c.1
  obtain ⟨a1, a2, a3, a4, a5⟩ := i.good x0 v0 i.g0
  have hne : q.2 ≠ x0 := fun z => hd (z ▸ i.m0)
  have old : ∀ z v, z ≠ q.2 → (dGet (dPut B q.2 (tld v0 w q.1)) z = some v ↔ dGet B z = some v) := fun z v h => by rw [dGet_put, if_neg (Ne.symm h)]
  have new : dGet (dPut B q.2 (tld v0 w q.1)) q.2 = some (tld v0 w q.1) := by rw [dGet_put, if_pos rfl]
  have dn : ∀ z v, dGet B z = some v → ∃ v', dGet (dPut B q.2 (tld v0 w q.1)) z = some v' ∧ v'.1 ≤ v.1 := fun z v e => by
    by_cases hz : z = q.2
    · subst hz; exact ⟨_, new, hle v e⟩
    · exact ⟨v, (old z v hz).mpr e, Int.le_refl _⟩
  have notD : ∀ z ∈ D.map (·.1), z ≠ q.2 := fun z hz e => hd (e ▸ hz)
  have memW : ∀ z, z ∈ (if q.2 ∈ B.map (·.1) then W else W ++ [q.2]) ↔ z ∈ W ∨ z = q.2 := fun z => by
    by_cases hb : q.2 ∈ B.map (·.1)
    · rw [if_pos hb]
      refine ⟨.inl, fun h => h.elim id fun e => ?_⟩
      subst e
      exact ((i.cov q.2).mp hb).elim id fun h => absurd h hd
    · rw [if_neg hb]; simp
  refine ⟨⟨dPut_nd i.kb, fun z v e => ?_, i.kd, ?_, fun z => ?_, fun z hz => ?_, ?_, i.nog⟩, (old x0 v0 hne.symm).mpr i.g0, i.m0, i.l0, fun z hz vz e => ?_, fun y hy vy e => ?_, fun z hz ne r hr => ?_, fun r hr => ?_⟩
  · by_cases hz : z = q.2
    · subst hz
      rw [new] at e
      cases e
      refine ⟨by rw [hq2]; exact aft_row o.m.2 a1 (gD_ok o hin), fun k hk => ?_, ?_, ?_, ?_⟩
      · rcases List.mem_append.mp hk with hk | hk
        · exact a2 k hk
        · rw [List.mem_singleton.mp hk]; exact hin
      · show endS w w.s (v0.2.2 ++ [q.1]) = _
        rw [endS_snoc, a3]
        simp only [Option.bind_some, hfit, if_true, hq2]
      · show costP w (v0.2.2 ++ [q.1]) = v0.1 + (gD w q.1).c
        rw [costP_snoc, a4]
      · show (v0.2.2 ++ [q.1]).length ≤ _
        have := i.l0
        simp only [List.length_append, List.length_cons, List.length_nil]
        omega
    · exact i.good z v ((old z v hz).mp e)
  · by_cases hb : q.2 ∈ B.map (·.1)
    · rw [if_pos hb]; exact i.wn
    · rw [if_neg hb, List.nodup_append]
      exact ⟨i.wn, by simp, fun a ha b hb' e => by
        rw [List.mem_singleton.mp hb'] at e
        subst e
        exact hb ((i.cov _).mpr (.inl ha))⟩
  · rw [dPut_mem, i.cov z, memW]
    constructor
    · rintro ((h | h) | h)
      · exact .inl (.inl h)
      · exact .inr h
      · exact .inl (.inr h)
    · rintro ((h | h) | h)
      · exact .inl (.inl h)
      · exact .inr h
      · exact .inl (.inr h)
  · rcases (memW z).mp hz with h | rfl
    · exact i.dis z h
    · exact hd
  · obtain ⟨v, e, h0⟩ := i.st
    obtain ⟨v', e', h1⟩ := dn _ v e
    exact ⟨v', e', by omega⟩
  · exact i.top z hz vz ((old z vz (notD z hz)).mp e)
  · by_cases hz : y = q.2
    · subst hz
      rw [new] at e
      cases e
      show v0.1 ≤ v0.1 + (gD w q.1).c
      omega
    · exact i.low y (((memW y).mp hy).elim id fun h => absurd h hz) vy ((old y vy hz).mp e)
  · obtain ⟨vx, vy, e1, e2, h⟩ := i.rel z hz ne r hr
    obtain ⟨v', e', h1⟩ := dn _ vy e2
    exact ⟨vx, v', (old z vx (notD z hz)).mpr e1, e', by omega⟩
  · rcases List.mem_cons.mp hr with rfl | hr
    · exact ⟨_, new, Int.le_refl _⟩
    · obtain ⟨vy, e2, h⟩ := i.rel0 r hr
      obtain ⟨v', e', h1⟩ := dn _ vy e2
      exact ⟨v', e', by omega⟩
theorem DStep.fin (i : DStep w B D W x0 v0 P) (hP : ∀ q ∈ nxtL w x0, q ∈ P) : DJ w B D W :=
  ⟨i.toDI, fun x hx y hy vx vy ex ey => Int.le_trans (i.top x hx vx ex) (i.low y hy vy ey), fun x hx q hq => by
    by_cases e : x = x0
    · subst e
      obtain ⟨vy, h1, h2⟩ := i.rel0 q (hP q hq)
      exact ⟨v0, vy, i.g0, h1, h2⟩
    · exact i.rel x hx e q hq⟩
theorem nxt_of {s : List Int} {k : Int} (h : 0 ≤ k ∧ k < w.ds.length) (hf : fitsB (gD w k).n (gD w k).b s = true) : (k, aft (gD w k) s) ∈ nxtL w s := by
  obtain ⟨n, rfl⟩ : ∃ n : Nat, k = n := ⟨k.toNat, by omega⟩
  exact mem_nxtL.mpr ⟨n, gD w n, by simpa using gD_get h, hf, rfl⟩
/-- each way on from what is done comes past one that waits -/
theorem DJ.past (o : WdOk w) (i : DJ w B D W) : ∀ {p : List Int} {s z : List Int} {v : V3}, InP w p → dGet B s = some v → endS w s p = some z → fitsB w.gn w.gb z = true → ∃ y ∈ W, ∃ vy, dGet B y = some vy ∧ vy.1 ≤ v.1 + costP w p
  | [], s, z, v, _, hs, e, hz => by
    cases e
    rcases (i.cov s).mp (mem_of_dGet hs) with h | h
    · exact ⟨s, h, v, hs, by simp [costP]⟩
    · rw [i.nog s h] at hz; cases hz
  | k :: p, s, z, v, hp, hs, e, hz => by
    have hk := hp k (List.mem_cons_self ..)
    have hp' : InP w p := fun j hj => hp j (List.mem_cons_of_mem _ hj)
    have hpos := costP_pos o hp
    rcases (i.cov s).mp (mem_of_dGet hs) with h | h
    · exact ⟨s, h, v, hs, by omega⟩
    · simp only [endS] at e
      split at e
      · rename_i hf
        obtain ⟨vx, vy, h1, h2, h3⟩ := i.rel s h _ (nxt_of hk hf)
        rw [hs] at h1
        cases h1
        obtain ⟨y, hy, u, h4, h5⟩ := i.past o hp' h2 e hz
        refine ⟨y, hy, u, h4, ?_⟩
        rw [costP_cons]
        simp only at h3
        omega
      · cases e
theorem plB_end {p : List Int} (h : plB w w.s p = true) : ∃ z, endS w w.s p = some z ∧ fitsB w.gn w.gb z = true := by
  unfold plB at h
  split at h
  · rename_i z e; exact ⟨z, e, h⟩
  · cases h
/-- nothing waits: there is no plan -/
theorem DJ.none (o : WdOk w) (i : DJ w B D []) : ∀ p, InP w p → plB w w.s p = false := fun p hp => by
  cases h : plB w w.s p with
  | false => rfl
  | true =>
    obtain ⟨z, e, hz⟩ := plB_end h
    obtain ⟨v, hv, _⟩ := i.st
    obtain ⟨y, hy, _⟩ := i.past o hp hv e hz
    cases hy
/-- a goal is chosen: it is cheapest -/
theorem DJ.best (o : WdOk w) (i : DJ w B D W) (hv : dGet B x0 = some v0) (hmin : ∀ y ∈ W, ∀ vy, dGet B y = some vy → v0.1 ≤ vy.1) (hg : fitsB w.gn w.gb x0 = true) :
    InP w v0.2.2 ∧ plB w w.s v0.2.2 = true ∧ costP w v0.2.2 = v0.1 ∧ v0.2.2.length ≤ 4096 ∧ ∀ p, InP w p → plB w w.s p = true → v0.1 ≤ costP w p := by
  obtain ⟨a1, a2, a3, a4, a5⟩ := i.good x0 v0 hv
  refine ⟨a2, ?_, a4, Nat.le_trans a5 (i.lenD o), fun p hp h => ?_⟩
  · unfold plB
    rw [a3]
    exact hg
  · obtain ⟨z, e, hz⟩ := plB_end h
    obtain ⟨v, hv', h0⟩ := i.st
    obtain ⟨y, hy, vy, h4, h5⟩ := i.past o hp hv' e hz
    have := hmin y hy vy h4
    omega
end
end Z

/-! B3: cheapest. -/
namespace Z
open PySem PySem.W
/-! the tactics of this text (local): k_places evaluates what stands on the left; k_memK: what may be left open -/
local macro_rules | `(tactic| k_memK) => `(tactic| first
  | exact Nat.le_of_ble_eq_true rfl
  | assumption
  | (with_reducible apply side_le))
local macro_rules | `(tactic| k_places) => `(tactic| first
  | (with_reducible assumption)
  | (with_reducible exact ev_c)
  | ((with_reducible apply ev_var); rfl)
  | (with_reducible exact ea_nil)
  | (intro _; k_places)
  | ((with_reducible apply ea_cons) <;> k_places)
  | ((with_reducible apply ev_callU) <;> first | k_places | rfl)
  | ((with_reducible apply ev_tuple) <;> k_places)
  | ((with_reducible apply ev_tupleT) <;> k_places)
  | ((with_reducible apply ev_lenT) <;> k_places)
  | ((with_reducible apply ev_lenL) <;> k_places)
  | ((with_reducible apply ev_all) <;> k_places)
  | ((with_reducible apply ev_any) <;> k_places)
  | ((with_reducible apply ev_sortedL') <;> first | k_places | infer_instance | decide)
  | ((with_reducible apply ev_dB) <;> k_places)
  | ((with_reducible apply ev_truB) <;> k_places)
  | ((with_reducible apply ev_andV) <;> k_places)
  | ((with_reducible apply ev_orV) <;> k_places)
  | ((with_reducible apply ev_notV) <;> k_places)
  | ((with_reducible apply ev_and) <;> k_places)
  | ((with_reducible apply ev_or) <;> k_places)
  | ((with_reducible apply ev_not) <;> k_places)
  | ((with_reducible apply ev_chn) <;> k_places)
  | ((with_reducible apply ev_tup) <;> first | k_places | k_memK)
  | ((with_reducible apply ev_lst) <;> first | k_places | k_memK)
  | ((with_reducible apply ev_ix) <;> first | k_places | rfl)
  | ((with_reducible apply ev_ixL) <;> first | k_places | rfl)
  | ((with_reducible apply lc_evA) <;> first | k_places | (intro _ _; (apply lcY_ev rfl); k_places) | k_memK)
  | ((with_reducible apply lc_ev) <;> first | k_places | (intro _ _; (apply lcT_ev rfl) <;> k_places) | k_memK)
  | ((with_reducible apply ev_bin) <;> k_places)
  | ((with_reducible apply ev_un) <;> k_places)
  | ((with_reducible apply sr_tup) <;> k_places)
  | ((with_reducible apply sr_lst) <;> k_places)
  | ((with_reducible apply sr_rng1) <;> first | k_places | k_memK)
  | ((with_reducible apply op_cat) <;> k_memK)
  | ((with_reducible apply op_catT) <;> k_memK)
  | exact oi_add | exact oi_sub | exact oi_lt | exact oi_le | exact oi_gt | exact oi_ge | exact oi_neg
  | exact op_neT _ _ | exact op_neL _ _ | exact op_eqT _ _ | exact op_eqL _ _ | exact op_neT0 _ | exact op_eqT0 _
  | exact op_eq _ _ | exact op_ne _ _ | exact in_tup _ _ | exact in_lst _ _ | exact ni_tup _ _ | exact ni_lst _ _)
def e3 (v : V3) : T := .tup [.int v.1, .int v.2.1, eF v.2.2]
instance : EO e3 2 := by
  have i : EO eF 1 := inferInstance
  refine ⟨fun p => ?_, fun p => ?_, fun x y => ?_, fun p n => ?_⟩
  · show PyData.canLayAll0 [.int p.1, .int p.2.1, (eF p.2.2).py] = true
    simp [PyData.canLayAll0, i.lay, PyData.canLay0]
  · show PyData.depthAll [.int p.1, .int p.2.1, (eF p.2.2).py] + 1 ≤ _
    have h4 := i.dep p.2.2
    simp only [PyData.depthAll, PyData.depth]
    omega
  · show PyData.eqvAll [.int x.1, .int x.2.1, (eF x.2.2).py] [.int y.1, .int y.2.1, (eF y.2.2).py] = _
    obtain ⟨a1, a2, a3⟩ := x
    obtain ⟨b1, b2, b3⟩ := y
    simp only [PyData.eqvAll, i.eqv, Prod.mk.injEq, PyData.eqv]
    by_cases h1 : a1 = b1 <;> by_cases h2 : a2 = b2 <;> by_cases h3 : a3 = b3 <;> simp [h1, h2, h3]
  · show T.lows n [.int p.1, .int p.2.1, eF p.2.2] = true
    simp [T.lows, i.low, T.low]
instance : EA e3 true := ⟨fun x y => by
  have i : EA eF true := inferInstance
  show alikeAll [.int x.1, .int x.2.1, (eF x.2.2).py] [.int y.1, .int y.2.1, (eF y.2.2).py] = true
  simp [alikeAll, i.al, alike], fun _ => rfl⟩
theorem kOk_ev {α : Type} [DecidableEq α] {e : α → T} {d : Nat} [i : EO e d] [j : EA e true] (x y : α) (hd : d ≤ 64 := by decide) : kOk (e x) (e y) = true := by
  unfold kOk
  have h := j.tp
  simp only [if_true] at h
  have n : notNoneB (e x).py = true := by
    have := h x
    cases q : (e x).py <;> rw [q] at this <;> first | rfl | cases this
  rw [EO.sh x hd, EO.sh y hd, j.al x y, n]
  rfl
theorem lt3 (a b : V3) : (dataLt (e3 a).py (e3 b).py = true → a.1 ≤ b.1) ∧ (dataLt (e3 a).py (e3 b).py = false → b.1 ≤ a.1) := by
  obtain ⟨h1, h2⟩ := lt_num (a := a.1) (b := b.1) (xs := [.int a.2.1, (eF a.2.2).py]) (ys := [.int b.2.1, (eF b.2.2).py])
  have q : dataLt (e3 a).py (e3 b).py = dataLt (.tuple [.int a.1, .int a.2.1, (eF a.2.2).py]) (.tuple [.int b.1, .int b.2.1, (eF b.2.2).py]) := rfl
  rw [q]
  refine ⟨fun h => ?_, fun h => ?_⟩
  · rcases Int.lt_or_le b.1 a.1 with z | z
    · rw [h2 z] at h; cases h
    · exact z
  · rcases Int.lt_or_le a.1 b.1 with z | z
    · rw [h1 z] at h; cases h
    · exact z
theorem lt3k {x y : List Int} (a b : V3) : (dataLt (eP e3 eF (a, x)).py (eP e3 eF (b, y)).py = true → a.1 ≤ b.1) ∧ (dataLt (eP e3 eF (a, x)).py (eP e3 eF (b, y)).py = false → b.1 ≤ a.1) := by
  have al : alikeAll (.int a.1 :: [.int a.2.1, (eF a.2.2).py]) (.int b.1 :: [.int b.2.1, (eF b.2.2).py]) = true := (inferInstance : EA e3 true).al a b
  obtain ⟨h1, h2⟩ := lt_num2 (us := [(eF x).py]) (vs := [(eF y).py]) al
  have q : dataLt (eP e3 eF (a, x)).py (eP e3 eF (b, y)).py = dataLt (.tuple [.tuple [.int a.1, .int a.2.1, (eF a.2.2).py], (eF x).py]) (.tuple [.tuple [.int b.1, .int b.2.1, (eF b.2.2).py], (eF y).py]) := rfl
  rw [q]
  refine ⟨fun h => ?_, fun h => ?_⟩
  · rcases Int.lt_or_le b.1 a.1 with z | z
    · rw [h2 z] at h; cases h
    · exact z
  · rcases Int.lt_or_le a.1 b.1 with z | z
    · rw [h1 z] at h; cases h
    · exact z
def eCh : Option (Int × List Int) → T
  | none => .non
  | some (c, p) => .tup [.int c, eF p]
theorem eCh_low (r : Option (Int × List Int)) (n : Nat) : (eCh r).low n = true := by
  cases r with
  | none => rfl
  | some z => exact EO.low (e := eP T.int eF) z n
/-- the three things of the search -/
def h3 (h : Hv) (B : BD) (D : List (List Int × Bool)) (W : List (List Int)) : Hv := h ++ [oU false eF e3 B, oU false eF T.bl D, .lst (W.map eF)]
section
variable {h : Hv} {B B' : BD} {D D' : List (List Int × Bool)} {W W' : List (List Int)}
theorem gB : (h3 h B D W)[h.length]? = some (oU false eF e3 B) := by simp [h3]
theorem gDn : (h3 h B D W)[h.length + 1]? = some (oU false eF T.bl D) := by simp [h3]
theorem gW : (h3 h B D W)[h.length + 2]? = some (.lst (W.map eF)) := by simp [h3]
theorem sB : (h3 h B D W).set h.length (oU false eF e3 B') = h3 h B' D W := by simp [h3]
theorem sD : (h3 h B D W).set (h.length + 1) (oU false eF T.bl D') = h3 h B D' W := by simp [h3]
theorem sW : (h3 h B D W).set (h.length + 2) (.lst (W'.map eF)) = h3 h B D W' := by simp [h3]
theorem h3_hok (hk : HOk h) : HOk (h3 h B D W) := hk.app fun o ho => by
  simp only [List.mem_cons, List.not_mem_nil, or_false] at ho
  rcases ho with rfl | rfl | rfl
  · exact lowU fun v => EO.low (e := e3) v 0
  · exact lowU fun v => EO.low (e := T.bl) v 0
  · exact lows_map _ (fun x => EO.low (e := eF) x 0) _
theorem h3_end {Q : T → Hv → Prop} {t : T} (hk : HOk h) (low : ∀ n, t.low n = true) (q : Q t h) : EndOk h Q t (h3 h B D W) := endOk hk low q
end
theorem ev_cheapest {h : Hv} (hk : HOk h) {w : Wd} (o : WdOk w) : ∃ r : Option (Int × List Int), d_cheapest [eWd w] h = some (.ok (eCh r), h) ∧
    (∀ c p, r = some (c, p) → InP w p ∧ plB w w.s p = true ∧ costP w p = c ∧ p.length ≤ 4096 ∧ ∀ p', InP w p' → plB w w.s p' = true → c ≤ costP w p') ∧ (r = none → ∀ p, InP w p → plB w w.s p = false) := by
  have lm : lim = 16000000 := rfl
  have cw := ev_check_world hk o
  have key : ∃ t h', d_cheapest [eWd w] h = some (.ok t, h') ∧ (h' = h ∧ ∃ r : Option (Int × List Int), t = eCh r ∧
      (∀ c p, r = some (c, p) → InP w p ∧ plB w w.s p = true ∧ costP w p = c ∧ p.length ≤ 4096 ∧ ∀ p', InP w p' → plB w w.s p' = true → c ≤ costP w p') ∧ (r = none → ∀ p, InP w p → plB w w.s p = false)) := by
    refine def_ws (Q := fun t h' => h' = h ∧ ∃ r : Option (Int × List Int), t = eCh r ∧
      (∀ c p, r = some (c, p) → InP w p ∧ plB w w.s p = true ∧ costP w p = c ∧ p.length ≤ 4096 ∧ ∀ p', InP w p' → plB w w.s p' = true → c ≤ costP w p') ∧ (r = none → ∀ p, InP w p → plB w w.s p = false)) ?_
    apply ws_exprS (h1 := h)
    · k_places
    refine ws_asgS (t := eF w.s) (h1 := h) (ev_tupleT (ev_ix (i := 2) (ev_var 0 rfl) ev_c rfl)) rfl ?_
    apply ws_asgS (t := .tup [.ref h.length, .ref (h.length + 1), .ref (h.length + 2)]) (h1 := h3 h [(w.s, (0, 0, []))] [] [w.s])
    · refine ev_tup (ea_cons (ev_disp1 (ev_var 1 rfl) (ev_tup (ea_cons ev_c (ea_cons ev_c (ea_cons (ev_tup ea_nil) ea_nil)))) (keys_eF w.s)) (ea_cons (h1 := h ++ [oU false eF e3 [(w.s, (0, 0, []))], oU false eF T.bl []]) ?_ (ea_cons (h1 := h3 h [(w.s, (0, 0, []))] [] [w.s]) ?_ ea_nil)))
      · simp only [dNewT, own, oU, List.append_assoc, List.length_append, List.length_cons, List.length_nil]
        rfl
      · refine (ev_lstO (ea_cons (ev_var 1 rfl) ea_nil)).trans ?_
        simp [h3]
    · rfl
    refine ws_seq (ws_while 5000 (fun n sl g => ∃ B D W, g = h3 h B D W ∧ DJ w B D W ∧ n + D.length = 5000 ∧ ∃ a b c d e f q, sl = [some (eWd w), some (eF w.s), some (.ref h.length), some (.ref (h.length + 1)), some (.ref (h.length + 2)), a, b, c, d, e, f, q]) (by decide)
      ⟨_, _, _, rfl, DJ.start o, by simp, _, _, _, _, _, _, _, rfl⟩ ?_)
    rintro n sl g ⟨B, D, W, rfl, dj, hn, a, b, c, d, e, f, q, rfl⟩
    refine ⟨!(W.map eF).isEmpty, h3 h B D W, ev_tru (ev_var 4 rfl) (tru_lst gW), ?_⟩
    cases W with
    | nil =>
      simp only [List.map_nil, List.isEmpty_nil, Bool.not_true, Bool.false_eq_true, if_false]
      exact ws_ret ev_c (h3_end hk (fun _ => rfl) ⟨rfl, none, rfl, (fun c p z => nomatch z), fun _ => dj.none o⟩)
    | cons x1 W1 =>
      simp only [List.map_cons, List.isEmpty_cons, Bool.not_false, if_true]
      generalize hWe : x1 :: W1 = W at dj
      have hWm : eF x1 :: W1.map eF = W.map eF := by rw [← hWe]; rfl
      have lW := dj.lenW o
      have val : ∀ x ∈ W, ∃ v, dGet B x = some v := fun x hx => dGet_some_of ((dj.cov x).mpr (.inl hx))
      let vl : List Int → V3 := fun x => (dGet B x).getD (0, 0, [])
      have hvl : ∀ x ∈ W, dGet B x = some (vl x) := fun x hx => by
        obtain ⟨v, hv⟩ := val x hx
        simp only [vl, hv, Option.getD_some]
      obtain ⟨x0, hx0, emin, hmin⟩ := ev_minK (e := eF) (l := W) (g := fun x => eP e3 eF (vl x, x)) (c := fun x => (vl x).1) (d := dVar 4) (dk := dTup (dCons (dBin fIx (dVar 2) (dVar 12)) (dCons (dVar 12) dNil)))
        (sl := [some (eWd w), some (eF w.s), some (.ref h.length), some (.ref (h.length + 1)), some (.ref (h.length + 2)), a, b, c, d, e, f, q]) (h := h3 h B D W) (t := .ref (h.length + 2)) (ev_var 4 rfl) (by simp only [slQ, dr, gW]) (by rw [← hWe]; exact fun z => nomatch z)
        (fun x hx => ev_tup (ea_cons (ev_bin (ev_var 2 rfl) (ev_var 12 rfl) (ixU gB (hvl x hx))) (ea_cons (ev_var 12 rfl) ea_nil))) (fun x _ y _ => kOk_ev (e := eP e3 eF) _ _) (fun x _ y _ => (lt3k _ _).1) (fun x _ y _ => (lt3k _ _).2)
      have hv0 := hvl x0 hx0
      have hmin' : ∀ y ∈ W, ∀ vy, dGet B y = some vy → (vl x0).1 ≤ vy.1 := fun y hy vy e => by
        rw [hvl y hy] at e
        cases e
        exact hmin y hy
      have hrow := dj.rows x0 ((dj.cov x0).mpr (.inl hx0))
      have hfit := ev_holds (h := h3 h B (dPut D x0 true) (rmv W x0)) (n := w.gn) (b := w.gb) (s := x0) (row_lim o.gn (by have := o.m; omega)) (row_lim o.gb (by have := o.m; omega)) (h3_hok hk)
      apply ws_asgS (t := eF x0) (h1 := h3 h B D W)
      · exact emin
      · rfl
      apply ws_exprS (t := .non) (h1 := h3 h B D (rmv W x0))
      · exact (ev_rem (e := eF) (n := h.length + 2) (ev_var 4 rfl) (ea_cons (ev_var 5 rfl) ea_nil) hx0 gW (by omega)).trans (by rw [sW])
      have lD := dj.lenD o
      have lB := dj.lenB o
      refine ws_setS (v := .bl true) (o := .ref (h.length + 1)) (x := eF x0) (h4 := h3 h B (dPut D x0 true) (rmv W x0)) ev_c (ev_var 3 rfl) (ev_var 5 rfl) ((putU (e := eF) (f := T.bl) gDn (by omega)).trans (by rw [sD])) ?_
      apply ws_asgS (t := e3 (vl x0)) (h1 := h3 h B (dPut D x0 true) (rmv W x0))
      · exact ev_bin (ev_var 2 rfl) (ev_var 5 rfl) (ixU gB hv0)
      · rfl
      refine ws_ifS (k := fitsB w.gn w.gb x0) (h1 := h3 h B (dPut D x0 true) (rmv W x0)) ?_ (fun hg => ?_) (fun hg => ?_)
      · exact ev_truB (ev_callU (ea_cons (ev_ix (i := 3) (ev_var 0 rfl) ev_c rfl) (ea_cons (ev_var 5 rfl) ea_nil)) hfit)
      · refine ws_ret (t := eCh (some ((vl x0).1, (vl x0).2.2))) (ev_tup (ea_cons (ev_var 6 rfl) (ea_cons (ev_var 8 rfl) ea_nil))) (h3_end hk (fun n => eCh_low _ n) ⟨rfl, _, rfl, fun c p z => ?_, fun z => nomatch z⟩)
        cases z
        exact dj.best o hv0 hmin' hg
      · refine ws_nx ?_
        have dq := dj.pick hx0 hv0 hmin' hg
        have eD : (dPut D x0 true).length = D.length + 1 := by
          have := congrArg List.length (dPut_keys (D := D) (x := x0) (v := true))
          rw [if_neg (dj.dis x0 hx0)] at this
          simpa using this
        have e1 := ev_next_statesE (h3_hok (B := B) (D := dPut D x0 true) (W := rmv W x0) hk) o hrow
        refine ws_for (e := eP T.int eF) (nxtL w x0) (fun r sl g => ∃ B' W' P, g = h3 h B' (dPut D x0 true) W' ∧ DStep w B' (dPut D x0 true) W' x0 (vl x0) P ∧ (∀ z ∈ nxtL w x0, z ∈ P ∨ z ∈ r) ∧ (∀ z ∈ r, z ∈ nxtL w x0) ∧
            ∃ e f q, sl = [some (eWd w), some (eF w.s), some (.ref h.length), some (.ref (h.length + 1)), some (.ref (h.length + 2)), some (eF x0), some (.int (vl x0).1), some (.int (vl x0).2.1), some (eF (vl x0).2.2), e, f, q])
          (sr_lst (ev_callU (ea_cons (ev_var 0 rfl) (ea_cons (ev_var 5 rfl) ea_nil)) e1)) ⟨B, rmv W x0, [], rfl, dq, fun z hz => .inr hz, fun z hz => hz, _, _, _, rfl⟩ ?_ ?_
        · rintro ⟨k, y⟩ r sl g ⟨B', W', P, rfl, dq', hP, hr, e', f', q', rfl⟩
          have hq := hr _ (List.mem_cons_self ..)
          obtain ⟨n', x', q1, q2, q3⟩ := mem_nxtL.mp hq
          have hk' : k = (n' : Int) := by cases q3; rfl
          have hn' := (List.getElem?_eq_some_iff.mp q1).1
          have hin : 0 ≤ k ∧ k < w.ds.length := ⟨by omega, by omega⟩
          have lW' := dq'.lenW o
          have lB' := dq'.lenB o
          have lp : (vl x0).2.2.length + 1 ≤ 16000000 := by
            have h1 := dq'.l0
            have h2 := dq'.lenD o
            omega
          have hP' : ∀ z ∈ nxtL w x0, z ∈ (k, y) :: P ∨ z ∈ r := fun z hz => by
            rcases hP z hz with h | h
            · exact .inl (List.mem_cons_of_mem _ h)
            · rcases List.mem_cons.mp h with rfl | h
              · exact .inl (List.mem_cons_self ..)
              · exact .inr h
          have hr' : ∀ z ∈ r, z ∈ nxtL w x0 := fun z hz => hr z (List.mem_cons_of_mem _ hz)
          refine ⟨_, rfl, ?_⟩
          apply ws_asgS (t := e3 (tld (vl x0) w k)) (h1 := h3 h B' (dPut D x0 true) W')
          · refine ev_tup (ea_cons (ev_bin (ev_var 6 rfl) (ev_ix (i := 4) (ev_ixI (ev_ix (i := 1) (ev_var 0 rfl) ev_c rfl) (ev_var 9 rfl) (ix_deed hin)) ev_c rfl) oi_add) (ea_cons (ev_bin (ev_var 7 rfl) ev_c oi_add) (ea_cons (ev_bin (ev_var 8 rfl) (ev_tup (ea_cons (ev_var 9 rfl) ea_nil)) (op_catT (e := T.int) (ys := [k]) ?_)) ea_nil)))
            simp only [List.length_cons, List.length_nil]
            omega
          · rfl
          have tN : ∀ {sl : Sl}, sl[10]? = some (some (eF y)) → sl[2]? = some (some (.ref h.length)) → dB (dBin fNotIn (dVar 10) (dVar 2)) sl (h3 h B' (dPut D x0 true) W') = some (.ok (!kin y B'), h3 h B' (dPut D x0 true) W') := fun z1 z2 => ev_dB (ev_bin (ev_var 10 z1) (ev_var 2 z2) (niK gB))
          have tD : ∀ {sl : Sl}, sl[10]? = some (some (eF y)) → sl[3]? = some (some (.ref (h.length + 1))) → dB (dBin fNotIn (dVar 10) (dVar 3)) sl (h3 h B' (dPut D x0 true) W') = some (.ok (!kin y (dPut D x0 true)), h3 h B' (dPut D x0 true) W') := fun z1 z2 => ev_dB (ev_bin (ev_var 10 z1) (ev_var 3 z2) (niK gDn))
          let vy := (dGet B' y).getD (0, 0, [])
          refine ws_if (k := !kin y (dPut D x0 true) && (!kin y B' || dataLt (e3 (tld (vl x0) w k)).py (e3 vy).py)) (h1 := h3 h B' (dPut D x0 true) W') ?_ (fun hc => ?_) (fun hc => ?_)
          · refine ev_and (tD rfl rfl) fun _ => ev_or (tN rfl rfl) fun hb => ?_
            have hb' : y ∈ B'.map (·.1) := kin_iff.mp (by simpa using hb)
            obtain ⟨v, hv⟩ := dGet_some_of hb'
            have hvy : dGet B' y = some vy := by simp only [vy, hv, Option.getD_some]
            exact ev_dB (ev_bin (ev_var 11 rfl) (ev_bin (ev_var 2 rfl) (ev_var 10 rfl) (ixU gB hvy)) (op_ltD2 (kOk_ev (e := e3) _ _)))
          · simp only [Bool.and_eq_true, Bool.not_eq_true', kin_no, Bool.or_eq_true] at hc
            have put := dq'.put o hq hc.1 fun v hv => by
              rcases hc.2 with z | z
              · exact absurd (mem_of_dGet hv) z
              · have : vy = v := by simp only [vy, hv, Option.getD_some]
                rw [this] at z
                exact (lt3 _ _).1 z
            refine ws_ifS (k := !kin y B') (h1 := h3 h B' (dPut D x0 true) W') (tN rfl rfl) (fun hb => ?_) (fun hb => ?_)
            · have hb' : y ∉ B'.map (·.1) := kin_no.mp (by simpa using hb)
              refine ws_expr (t := .non) (h1 := h3 h B' (dPut D x0 true) (W' ++ [y])) ((ev_append (ev_var 4 rfl) (ev_var 10 rfl) gW (by rw [List.length_map]; omega)).trans ?_) (ws_set (h4 := h3 h (dPut B' y (tld (vl x0) w k)) (dPut D x0 true) (W' ++ [y])) (ev_var 11 rfl) (ev_var 2 rfl) (ev_var 10 rfl) ((putU (e := eF) (f := e3) gB (by omega)).trans (by rw [sB])) ⟨_, _, (k, y) :: P, rfl, by rw [if_neg hb'] at put; exact put, hP', hr', _, _, _, rfl⟩)
              rw [← sW (W := W') (W' := W' ++ [y]), List.map_append]
              rfl
            · have hb' : y ∈ B'.map (·.1) := kin_iff.mp (by simpa using hb)
              exact ws_nx (ws_set (h4 := h3 h (dPut B' y (tld (vl x0) w k)) (dPut D x0 true) W') (ev_var 11 rfl) (ev_var 2 rfl) (ev_var 10 rfl) ((putU (e := eF) (f := e3) gB (by omega)).trans (by rw [sB])) ⟨_, _, (k, y) :: P, rfl, by rw [if_pos hb'] at put; exact put, hP', hr', _, _, _, rfl⟩)
          · refine ws_nx ⟨B', W', (k, y) :: P, rfl, ?_, hP', hr', _, _, _, rfl⟩
            by_cases hd : y ∈ (dPut D x0 true).map (·.1)
            · obtain ⟨v, hv⟩ := dGet_some_of ((dq'.cov y).mpr (.inr hd))
              refine dq'.same hv ?_
              have h1 := dq'.top y hd v hv
              have h2 := (gD_ok o hin).c.1
              show v.1 ≤ (vl x0).1 + (gD w k).c
              omega
            · simp only [kin_no.mpr hd, Bool.not_false, Bool.true_and, Bool.or_eq_false_iff, Bool.not_eq_false', kin_iff] at hc
              obtain ⟨v, hv⟩ := dGet_some_of hc.1
              have : vy = v := by simp only [vy, hv, Option.getD_some]
              rw [this] at hc
              exact dq'.same hv ((lt3 _ _).2 hc.2)
        · rintro sl g ⟨B', W', P, rfl, dq', hP, hr, e', f', q', rfl⟩
          refine ⟨n - 1, by omega, B', dPut D x0 true, W', rfl, dq'.fin fun z hz => ?_, by omega, _, _, _, _, _, _, _, rfl⟩
          rcases hP z hz with h | h
          · exact h
          · cases h
  obtain ⟨t, h', e, rfl, r, rfl, q1, q2⟩ := key
  exact ⟨r, e, q1, q2⟩
end Z

/-! B4: ways without rounds; least costs by rounds, the maths. -/
namespace Z
open PySem PySem.W
/-- the states that are come past -/
def vsS (w : Wd) (x : List Int) : List Int → List (List Int)
  | [] => [x]
  | k :: p => x :: vsS w (aft (gD w k) x) p
theorem vsS_head {w : Wd} {x : List Int} {p : List Int} : x ∈ vsS w x p := by
  cases p with
  | nil => exact List.mem_cons_self ..
  | cons k p => exact List.mem_cons_self ..
/-- from the last time that s is come to -/
theorem last_at {w : Wd} (o : WdOk w) (s z : List Int) : ∀ (p : List Int) (x : List Int), InP w p → endS w x p = some z →
    s ∉ vsS w x p ∨ ∃ c, InP w c ∧ endS w s c = some z ∧ costP w c ≤ costP w p ∧ (∀ y ∈ vsS w s c, y ∈ vsS w x p) ∧ ∀ k c', c = k :: c' → s ∉ vsS w (aft (gD w k) s) c'
  | [], x, hp, e => by
    by_cases h : s = x
    · subst h
      exact .inr ⟨[], hp, e, Int.le_refl _, fun y hy => hy, fun k c' z => nomatch z⟩
    · exact .inl (by simpa [vsS] using h)
  | k :: p, x, hp, e => by
    have hk := hp k (List.mem_cons_self ..)
    have hp' : InP w p := fun j hj => hp j (List.mem_cons_of_mem _ hj)
    have hc := (gD_ok o hk).c.1
    simp only [endS] at e
    split at e
    · rename_i hf
      rcases last_at o s z p _ hp' e with h | ⟨c, h1, h2, h3, h4, h5⟩
      · by_cases hx : s = x
        · subst hx
          exact .inr ⟨k :: p, hp, by simp only [endS, hf, if_true]; exact e, Int.le_refl _, fun y hy => hy, fun k' c' z => by cases z; exact h⟩
        · refine .inl ?_
          simp only [vsS, List.mem_cons, not_or]
          exact ⟨hx, h⟩
      · refine .inr ⟨c, h1, h2, by rw [costP_cons]; omega, fun y hy => List.mem_cons_of_mem _ (h4 y hy), h5⟩
    · cases e
theorem shorten {w : Wd} (o : WdOk w) : ∀ (n : Nat) (F : List (List Int)), F.length = n → ∀ (s z : List Int) (p : List Int), InP w p → endS w s p = some z → (∀ y ∈ vsS w s p, y ∈ F) →
    ∃ p', InP w p' ∧ endS w s p' = some z ∧ costP w p' ≤ costP w p ∧ p'.length < n
  | 0, F, hF, s, z, p, _, _, hv => by
    have := hv s vsS_head
    rw [List.eq_nil_of_length_eq_zero hF] at this
    cases this
  | n + 1, F, hF, s, z, p, hp, e, hv => by
    rcases last_at o s z p s hp e with h | ⟨c, h1, h2, h3, h4, h5⟩
    · exact absurd vsS_head h
    · cases c with
      | nil => exact ⟨[], h1, h2, h3, Nat.zero_lt_succ _⟩
      | cons k c' =>
        have hs : s ∈ F := hv s vsS_head
        have hin : InP w c' := fun j hj => h1 j (List.mem_cons_of_mem _ hj)
        have hne := h5 k c' rfl
        simp only [endS] at h2
        split at h2
        · rename_i hf
          obtain ⟨p', q1, q2, q3, q4⟩ := shorten o n (F.erase s) (by rw [List.length_erase_of_mem hs, hF]; rfl) _ z c' hin h2 fun y hy => by
            have y1 : y ≠ s := fun q => hne (q ▸ hy)
            exact (List.mem_erase_of_ne y1).mpr (hv y (h4 y (List.mem_cons_of_mem _ hy)))
          refine ⟨k :: p', fun j hj => ?_, by simp only [endS, hf, if_true]; exact q2, ?_, by simpa using q4⟩
          · rcases List.mem_cons.mp hj with rfl | hj
            · exact h1 j (List.mem_cons_self ..)
            · exact q1 j hj
          · rw [costP_cons] at h3 ⊢
            omega
        · cases h2
theorem vs_reach {w : Wd} : ∀ {p s : List Int} {z : List Int}, InP w p → Reach w s → endS w s p = some z → ∀ y ∈ vsS w s p, Reach w y
  | [], s, z, _, r, _, y, hy => by
    rw [show y = s by simpa [vsS] using hy]
    exact r
  | k :: p, s, z, hp, r, e, y, hy => by
    simp only [endS] at e
    split at e
    · rename_i hf
      rcases List.mem_cons.mp hy with rfl | hy
      · exact r
      · exact vs_reach (fun j hj => hp j (List.mem_cons_of_mem _ hj)) (r.step ⟨_, gD_mem (hp k (List.mem_cons_self ..)), hf, rfl⟩) e y hy
    · cases e
theorem plB_iff {w : Wd} {s p : List Int} : plB w s p = true ↔ ∃ z, endS w s p = some z ∧ fitsB w.gn w.gb z = true := by
  unfold plB
  cases endS w s p with
  | none => simp
  | some z => simp
theorem plB_cons {w : Wd} {s p : List Int} {k : Int} : plB w s (k :: p) = (fitsB (gD w k).n (gD w k).b s && plB w (aft (gD w k) s) p) := by
  unfold plB
  simp only [endS]
  by_cases h : fitsB (gD w k).n (gD w k).b s = true
  · simp [h]
  · simp [h]
theorem plB_nil {w : Wd} {s : List Int} : plB w s [] = fitsB w.gn w.gb s := rfl
/-! ### least costs by rounds -/
abbrev CD := List (List Int × Option Int)
/-- what is told is of a plan; no plan of at most t deeds is cheaper -/
structure LI (w : Wd) (F : List (List Int)) (C : CD) (t : List Int → Nat) : Prop where
  ks : C.map (·.1) = F
  sound : ∀ s c, dGet C s = some (some c) → ∃ p, InP w p ∧ plB w s p = true ∧ costP w p = c
  best : ∀ s ∈ F, ∀ p, InP w p → plB w s p = true → p.length < t s → ∃ c, dGet C s = some (some c) ∧ c ≤ costP w p
/-- what the law's costs are -/
def LC (w : Wd) (C : CD) : Prop := ∀ s, Reach w s → ∃ r, dGet C s = some r ∧ match r with
  | some c => (∃ p, InP w p ∧ plB w s p = true ∧ costP w p = c) ∧ ∀ p, InP w p → plB w s p = true → c ≤ costP w p
  | none => ∀ p, InP w p → plB w s p = false
theorem LI.fin {w : Wd} (o : WdOk w) {F : List (List Int)} {C : CD} (hF : ∀ s, s ∈ F ↔ Reach w s) (i : LI w F C fun _ => F.length) : LC w C := fun s hs => by
  have hsF := (hF s).mpr hs
  have sh : ∀ p, InP w p → plB w s p = true → ∃ c, dGet C s = some (some c) ∧ c ≤ costP w p := fun p hp h => by
    obtain ⟨z, e, hz⟩ := plB_iff.mp h
    obtain ⟨p', q1, q2, q3, q4⟩ := shorten o F.length F rfl s z p hp e fun y hy => (hF y).mpr (vs_reach hp hs e y hy)
    obtain ⟨c, h1, h2⟩ := i.best s hsF p' q1 (plB_iff.mpr ⟨z, q2, hz⟩) q4
    exact ⟨c, h1, by omega⟩
  have hk : s ∈ C.map (·.1) := by rw [i.ks]; exact hsF
  cases q : dGet C s with
  | none => exact absurd hk (dGet_none.mp q)
  | some r =>
    refine ⟨r, rfl, ?_⟩
    cases r with
    | none =>
      intro p hp
      cases h : plB w s p with
      | false => rfl
      | true =>
        obtain ⟨c, h1, _⟩ := sh p hp h
        rw [q] at h1
        cases h1
    | some c =>
      refine ⟨i.sound s c q, fun p hp h => ?_⟩
      obtain ⟨c', h1, h2⟩ := sh p hp h
      rw [q] at h1
      cases h1
      exact h2
end Z

/-! B5: the law's least costs. -/
namespace Z
open PySem PySem.W
/-! the tactics of this text (local): k_places evaluates what stands on the left; k_memK: what may be left open -/
local macro_rules | `(tactic| k_memK) => `(tactic| first
  | exact Nat.le_of_ble_eq_true rfl
  | assumption
  | (with_reducible apply side_le))
local macro_rules | `(tactic| k_places) => `(tactic| first
  | (with_reducible assumption)
  | (with_reducible exact ev_c)
  | ((with_reducible apply ev_var); rfl)
  | (with_reducible exact ea_nil)
  | (intro _; k_places)
  | ((with_reducible apply ea_cons) <;> k_places)
  | ((with_reducible apply ev_callU) <;> first | k_places | rfl)
  | ((with_reducible apply ev_tuple) <;> k_places)
  | ((with_reducible apply ev_tupleT) <;> k_places)
  | ((with_reducible apply ev_lenT) <;> k_places)
  | ((with_reducible apply ev_lenL) <;> k_places)
  | ((with_reducible apply ev_all) <;> k_places)
  | ((with_reducible apply ev_any) <;> k_places)
  | ((with_reducible apply ev_sortedL') <;> first | k_places | infer_instance | decide)
  | ((with_reducible apply ev_dB) <;> k_places)
  | ((with_reducible apply ev_truB) <;> k_places)
  | ((with_reducible apply ev_andV) <;> k_places)
  | ((with_reducible apply ev_orV) <;> k_places)
  | ((with_reducible apply ev_notV) <;> k_places)
  | ((with_reducible apply ev_and) <;> k_places)
  | ((with_reducible apply ev_or) <;> k_places)
  | ((with_reducible apply ev_not) <;> k_places)
  | ((with_reducible apply ev_chn) <;> k_places)
  | ((with_reducible apply ev_tup) <;> first | k_places | k_memK)
  | ((with_reducible apply ev_lst) <;> first | k_places | k_memK)
  | ((with_reducible apply ev_ix) <;> first | k_places | rfl)
  | ((with_reducible apply ev_ixL) <;> first | k_places | rfl)
  | ((with_reducible apply lc_evA) <;> first | k_places | (intro _ _; (apply lcY_ev rfl); k_places) | k_memK)
  | ((with_reducible apply lc_ev) <;> first | k_places | (intro _ _; (apply lcT_ev rfl) <;> k_places) | k_memK)
  | ((with_reducible apply ev_bin) <;> k_places)
  | ((with_reducible apply ev_un) <;> k_places)
  | ((with_reducible apply sr_tup) <;> k_places)
  | ((with_reducible apply sr_lst) <;> k_places)
  | ((with_reducible apply sr_rng1) <;> first | k_places | k_memK)
  | ((with_reducible apply op_cat) <;> k_memK)
  | ((with_reducible apply op_catT) <;> k_memK)
  | exact oi_add | exact oi_sub | exact oi_lt | exact oi_le | exact oi_gt | exact oi_ge | exact oi_neg
  | exact op_neT _ _ | exact op_neL _ _ | exact op_eqT _ _ | exact op_eqL _ _ | exact op_neT0 _ | exact op_eqT0 _
  | exact op_eq _ _ | exact op_ne _ _ | exact in_tup _ _ | exact in_lst _ _ | exact ni_tup _ _ | exact ni_lst _ _)
theorem foldmin : ∀ (l : List Int) (i : Int), (l.foldl (fun a b => if b < a then b else a) i = i ∨ l.foldl (fun a b => if b < a then b else a) i ∈ l) ∧ l.foldl (fun a b => if b < a then b else a) i ≤ i ∧ ∀ y ∈ l, l.foldl (fun a b => if b < a then b else a) i ≤ y
  | [], i => ⟨.inl rfl, Int.le_refl _, fun y hy => nomatch hy⟩
  | x :: l, i => by
    obtain ⟨h1, h2, h3⟩ := foldmin l (if x < i then x else i)
    rw [List.foldl_cons]
    by_cases h : x < i
    · rw [if_pos h] at h1 h2 h3 ⊢
      refine ⟨.inr ?_, by omega, fun y hy => ?_⟩
      · rcases h1 with z | z
        · rw [z]; exact List.mem_cons_self ..
        · exact List.mem_cons_of_mem _ z
      · rcases List.mem_cons.mp hy with rfl | hy
        · exact h2
        · exact h3 y hy
    · rw [if_neg h] at h1 h2 h3 ⊢
      refine ⟨h1.imp id (List.mem_cons_of_mem _), h2, fun y hy => ?_⟩
      rcases List.mem_cons.mp hy with rfl | hy
      · omega
      · exact h3 y hy
theorem minL_of {l : List Int} (h : l ≠ []) : ∃ m, minL l = some m ∧ m ∈ l ∧ ∀ y ∈ l, m ≤ y := by
  cases l with
  | nil => exact absurd rfl h
  | cons x l =>
    obtain ⟨h1, h2, h3⟩ := foldmin l x
    refine ⟨_, rfl, ?_, fun y hy => ?_⟩
    · rcases h1 with z | z
      · rw [z]; exact List.mem_cons_self ..
      · exact List.mem_cons_of_mem _ z
    · rcases List.mem_cons.mp hy with rfl | hy
      · exact h2
      · exact h3 y hy
theorem ev_minI {sl : Sl} {h h1 : Hv} {d : D} {l : List Int} {m : Int} (a : d sl h = some (.ok (.lst (l.map T.int)), h1)) (q : minL l = some m) : dCall fMin (dCons d dNil) sl h = some (.ok (.int m), h1) :=
  ev_call (ea_cons a ea_nil) (by
    show fInts minL [.lst (l.map T.int)] h1 = _
    have : intsQ (l.map T.int) = some l := by
      induction l with
      | nil => rfl
      | cons x l ih =>
        have ih : ∀ l : List Int, intsQ (l.map T.int) = some l := by
          intro l
          induction l with
          | nil => rfl
          | cons y l ih => simp [intsQ, ih]
        simp [intsQ, ih]
    simp only [fInts, slQ, dr, Option.bind_some, this, q])
theorem pair_map {α β : Type} (e : α → T) (f : β → T) : ∀ l : List (α × β), pairQ (l.map (eP e f)) = some (l.map (fun p => e p.1), l.map fun p => f p.2)
  | [] => rfl
  | p :: l => by simp [pairQ, eP, pair_map e f l]
theorem keysT_map {α β : Type} {e : α → T} [i : KU e] : ∀ l : List (α × β), keysTL (l.map (fun p => e p.1)) = some (l.map fun p => i.k p.1)
  | [] => rfl
  | p :: l => by simp [keysTL, i.of, keysT_map l]
/-- dict(pairs) -/
theorem ev_dictPT {α β : Type} [DecidableEq α] {e : α → T} {f : β → T} [i : KU e] {l : List (α × β)} {d : D} {sl : Sl} {h h1 : Hv} (a : d sl h = some (.ok (.lst (l.map (eP e f))), h1)) (nd : Kys l) : dCall (fDictP true true) (dCons d dNil) sl h = some (.ok (.ref h1.length), h1 ++ [oU false e f l]) :=
  ev_call (ea_cons a ea_nil) (by
    have n2 : (l.map fun p => i.k p.1).Nodup := by
      have : (l.map fun p => i.k p.1) = (l.map (·.1)).map i.k := by rw [List.map_map]; rfl
      rw [this]
      exact List.Pairwise.map _ (fun a b h z => h (i.inj a b z)) nd
    simp only [fDictP, slQ, dr, pair_map, keysT_map, if_true, if_pos n2, own, oU])
/-! ### a turn -/
def tlL (w : Wd) (C : CD) (s : List Int) : List Int := ((nxtL w s).filter fun q => ((dGet C q.2).getD none).isSome).map fun q => (gD w q.1).c + ((dGet C q.2).getD none).getD 0
theorem mem_tlL {w : Wd} {C : CD} {s : List Int} {m : Int} : m ∈ tlL w C s ↔ ∃ q ∈ nxtL w s, ∃ c, dGet C q.2 = some (some c) ∧ m = (gD w q.1).c + c := by
  unfold tlL
  rw [List.mem_map]
  constructor
  · rintro ⟨q, hq, rfl⟩
    obtain ⟨h1, h2⟩ := List.mem_filter.mp hq
    cases e : dGet C q.2 with
    | none => rw [e] at h2; cases h2
    | some r =>
      cases r with
      | none => rw [e] at h2; cases h2
      | some c => exact ⟨q, h1, c, e, by simp⟩
  · rintro ⟨q, hq, c, e, rfl⟩
    exact ⟨q, List.mem_filter.mpr ⟨hq, by simp [e]⟩, by simp [e]⟩
theorem LI.step {w : Wd} (o : WdOk w) {F : List (List Int)} {C : CD} {t : List Int → Nat} {T : Nat} {s : List Int} {cur : Option Int} (i : LI w F C t) (hF : ∀ s, s ∈ F ↔ Reach w s) (hs : s ∈ F) (ht : ∀ y ∈ F, T + 1 ≤ t y) (hc : dGet C s = some cur) :
    (∀ m, minL (tlL w C s) = some m → (∀ c, cur = some c → m < c) → LI w F (dPut C s (some m)) fun y => if y = s then T + 2 else t y) ∧
    ((∀ m, minL (tlL w C s) = some m → ∃ c, cur = some c ∧ c ≤ m) → LI w F C fun y => if y = s then T + 2 else t y) := by
  -- what a plan of s tells
  have pl : ∀ p, InP w p → plB w s p = true → p.length < T + 2 → (∃ c, cur = some c ∧ c ≤ costP w p) ∨ ∃ m, minL (tlL w C s) = some m ∧ m ≤ costP w p := fun p hp h hl => by
    cases p with
    | nil =>
      have hts := ht s hs
      obtain ⟨c, h1, h2⟩ := i.best s hs [] hp h (by simp only [List.length_nil]; omega)
      rw [hc] at h1
      cases h1
      exact .inl ⟨c, rfl, h2⟩
    | cons k p =>
      rw [plB_cons, Bool.and_eq_true] at h
      have hk := hp k (List.mem_cons_self ..)
      have hn := nxt_of hk h.1
      have hp' : InP w p := fun j hj => hp j (List.mem_cons_of_mem _ hj)
      have hy : aft (gD w k) s ∈ F := (hF _).mpr (((hF s).mp hs).step ⟨_, gD_mem hk, h.1, rfl⟩)
      have hty := ht _ hy
      obtain ⟨c, h1, h2⟩ := i.best _ hy p hp' h.2 (by simp only [List.length_cons] at hl; omega)
      have hm : (gD w k).c + c ∈ tlL w C s := mem_tlL.mpr ⟨_, hn, c, h1, rfl⟩
      obtain ⟨m, m1, m2, m3⟩ := minL_of (List.ne_nil_of_mem hm)
      have := m3 _ hm
      exact .inr ⟨m, m1, by rw [costP_cons]; omega⟩
  have hk : s ∈ C.map (·.1) := by rw [i.ks]; exact hs
  refine ⟨fun m hm hlt => ⟨by rw [dPut_keys, if_pos hk, i.ks], fun y c e => ?_, fun y hy p hp h hl => ?_⟩, fun hno => ⟨i.ks, i.sound, fun y hy p hp h hl => ?_⟩⟩
  · rw [dGet_put] at e
    by_cases q : s = y
    · rw [if_pos q] at e
      cases e
      have hne : tlL w C s ≠ [] := fun z => by rw [z] at hm; cases hm
      obtain ⟨m', m1, m2, _⟩ := minL_of hne
      rw [m1] at hm
      cases hm
      obtain ⟨r, hr, c', h1, rfl⟩ := mem_tlL.mp m2
      obtain ⟨n, x, e1, e2, rfl⟩ := mem_nxtL.mp hr
      obtain ⟨p, p1, p2, p3⟩ := i.sound _ c' h1
      have hn := (List.getElem?_eq_some_iff.mp e1).1
      have hgd : gD w (n : Int) = x := by
        have := gD_get (w := w) (k := (n : Int)) ⟨by omega, by omega⟩
        rw [Int.toNat_natCast, e1] at this
        exact (Option.some.inj this).symm
      refine ⟨(n : Int) :: p, fun j hj => ?_, ?_, by rw [costP_cons, p3]⟩
      · rcases List.mem_cons.mp hj with rfl | hj
        · exact ⟨by omega, by omega⟩
        · exact p1 j hj
      · rw [← q, plB_cons, hgd, e2]
        exact p2
    · rw [if_neg q] at e
      exact i.sound y c e
  · by_cases q : y = s
    · subst q
      rw [if_pos rfl] at hl
      refine ⟨m, by rw [dGet_put, if_pos rfl], ?_⟩
      rcases pl p hp h hl with ⟨c, h1, h2⟩ | ⟨m', h1, h2⟩
      · have := hlt c h1
        omega
      · rw [hm] at h1
        cases h1
        exact h2
    · rw [if_neg q] at hl
      obtain ⟨c, h1, h2⟩ := i.best y hy p hp h hl
      exact ⟨c, by rw [dGet_put, if_neg (Ne.symm q)]; exact h1, h2⟩
  · by_cases q : y = s
    · subst q
      rw [if_pos rfl] at hl
      rcases pl p hp h hl with ⟨c, h1, h2⟩ | ⟨m, h1, h2⟩
      · exact ⟨c, by rw [hc, h1], h2⟩
      · obtain ⟨c, h3, h4⟩ := hno m h1
        exact ⟨c, by rw [hc, h3], by omega⟩
    · rw [if_neg q] at hl
      exact i.best y hy p hp h hl
theorem LI.weak {w : Wd} {F : List (List Int)} {C : CD} {t t' : List Int → Nat} (i : LI w F C t) (h : ∀ y ∈ F, t' y ≤ t y) : LI w F C t' := ⟨i.ks, i.sound, fun s hs p hp q hl => i.best s hs p hp q (Nat.lt_of_lt_of_le hl (h s hs))⟩
def cd0 (w : Wd) (F : List (List Int)) : CD := F.map fun s => (s, if fitsB w.gn w.gb s then some 0 else none)
theorem LI.start {w : Wd} {F : List (List Int)} (nd : F.Nodup) : LI w F (cd0 w F) fun _ => 1 := by
  have ks : (cd0 w F).map (·.1) = F := by
    unfold cd0
    rw [List.map_map]
    exact (List.map_congr_left (g := fun s => s) fun _ _ => rfl).trans (List.map_id' _)
  have get : ∀ s ∈ F, dGet (cd0 w F) s = some (if fitsB w.gn w.gb s then some 0 else none) := fun s hs => dGet_of (by unfold Kys; rw [ks]; exact nd) (List.mem_map.mpr ⟨s, hs, rfl⟩)
  refine ⟨ks, fun s c e => ?_, fun s hs p hp h hl => ?_⟩
  · have hs : s ∈ F := by rw [← ks]; exact List.mem_map.mpr ⟨_, dGet_mem e, rfl⟩
    rw [get s hs] at e
    by_cases g : fitsB w.gn w.gb s = true
    · rw [if_pos g] at e
      cases e
      exact ⟨[], (fun k hk => nomatch hk), g, rfl⟩
    · rw [if_neg g] at e
      cases e
  · have : p = [] := List.eq_nil_of_length_eq_zero (by omega)
    subst this
    refine ⟨0, by rw [get s hs, if_pos (show fitsB w.gn w.gb s = true from h)], by simp [costP]⟩
/-! ### the function -/
theorem ev_law_costs {h : Hv} (hk : HOk h) {w : Wd} (o : WdOk w) : ∃ C : CD, d__law_costs [eWd w] h = some (.ok (.ref h.length), h ++ [oU false eF (eO T.int) C]) ∧ LC w C := by
  have lm : lim = 16000000 := rfl
  obtain ⟨F, eF1, nd, hF, _⟩ := ev_law_reachedS hk o
  have hrow : ∀ s ∈ F, Row w.m s := fun s hs => ((hF s).mp hs).row o
  have lF : F.length ≤ 4096 := rows_len (by have := o.m; omega) o.m.2 nd hrow
  have key : ∃ t h', d__law_costs [eWd w] h = some (.ok t, h') ∧ (t = .ref h.length ∧ ∃ C : CD, h' = h ++ [oU false eF (eO T.int) C] ∧ LC w C) := by
    refine def_wsK (Q := fun t h' => t = .ref h.length ∧ ∃ C : CD, h' = h ++ [oU false eF (eO T.int) C] ∧ LC w C) ?_
    refine ws_asgS (t := .lst (F.map eF)) (h1 := h) (ev_callU (ea_cons (ev_var 0 rfl) ea_nil) eF1) rfl ?_
    refine ws_asgS (t := .ref h.length) (h1 := h ++ [oU false eF (eO T.int) (cd0 w F)]) (ev_dictPT (e := eF) (f := eO T.int) (l := cd0 w F) ((lc_evA (e := eF) (l := F) (G := fun s => eP eF (eO T.int) (s, if fitsB w.gn w.gb s then some 0 else none)) (sr_lst (ev_var 1 rfl)) (fun s hs => lcY_ev rfl (ev_tup (ea_cons (ev_var 4 rfl) (ea_cons
      (ev_dIf (k := fitsB w.gn w.gb s) (ev_truB (ev_callU (ea_cons (ev_ix (i := 3) (ev_var 0 rfl) ev_c rfl) (ea_cons (ev_var 4 rfl) ea_nil)) (ev_fits_core (r := []) (row_lim o.gn (by have := o.m; omega)) (row_lim o.gb (by have := o.m; omega)) hk)))
        (fun g => by rw [if_pos g]; exact ev_c) (fun g => by rw [if_neg (by rw [g]; exact Bool.false_ne_true)]; exact ev_c)) ea_nil)))) (by omega)).trans (by unfold cd0; rw [List.map_map]; rfl)) (by unfold Kys; rw [(LI.start (w := w) nd).ks]; exact nd)) rfl ?_
    have gC : ∀ C : CD, (h ++ [oU false eF (eO T.int) C])[h.length]? = some (oU false eF (eO T.int) C) := fun C => by simp
    have sC : ∀ C C' : CD, (h ++ [oU false eF (eO T.int) C]).set h.length (oU false eF (eO T.int) C') = h ++ [oU false eF (eO T.int) C'] := fun C C' => by simp
    have hkC : ∀ C : CD, HOk (h ++ [oU false eF (eO T.int) C]) := fun C => hk.app fun ob ho => by
      rw [List.mem_singleton.mp ho]
      exact lowU fun v => EO.low (e := eO T.int) v 0
    refine ws_seq (ws_for (e := fun k : Nat => T.int k) (List.range F.length) (fun r sl g => ∃ C, g = h ++ [oU false eF (eO T.int) C] ∧ (LI w F C fun _ => 1 + (F.length - r.length)) ∧ r.length ≤ F.length ∧ ∃ a b c d e, sl = [some (eWd w), some (.lst (F.map eF)), some (.ref h.length), a, b, c, d, e])
      (sr_rngN (by
        have := ev_lenL (l := F.map eF) (ev_var (sl := [some (eWd w), some (.lst (F.map eF)), some (.ref h.length), none, none, none, none, none]) (h := h ++ [oU false eF (eO T.int) (cd0 w F)]) 1 rfl)
        rw [List.length_map] at this
        exact this) (by omega)) ⟨_, rfl, (LI.start nd).weak fun y _ => by simp, by simp, _, _, _, _, _, rfl⟩ ?_ ?_)
    · rintro k r sl g ⟨C, rfl, li, hr, a, b, c, d, e, rfl⟩
      refine ⟨_, rfl, ?_⟩
      simp only [List.length_cons] at li hr
      obtain ⟨T0, hT⟩ : ∃ T0, T0 = F.length - (r.length + 1) := ⟨_, rfl⟩
      have eT0 : F.length - r.length = T0 + 1 := by omega
      refine ws_for (e := eF) F (fun q sl g => ∃ C done, g = h ++ [oU false eF (eO T.int) C] ∧ done ++ q = F ∧ (LI w F C fun y => if y ∈ done then T0 + 2 else T0 + 1) ∧ ∃ a b c d e, sl = [some (eWd w), some (.lst (F.map eF)), some (.ref h.length), a, b, c, d, e])
        (sr_lst (ev_var 1 rfl)) ⟨C, [], rfl, rfl, li.weak fun y _ => by simp; omega, _, _, _, _, _, rfl⟩ ?_ ?_
      · rintro s q sl g ⟨C, done, rfl, hdq, li, a, b, c, d, e, rfl⟩
        have hs : s ∈ F := by rw [← hdq]; simp
        obtain ⟨cur, hcur⟩ : ∃ cur, dGet C s = some cur := by
          cases z : dGet C s with
          | some v => exact ⟨v, rfl⟩
          | none => exact absurd (by rw [li.ks]; exact hs) (dGet_none.mp z)
        have st := li.step (T := T0) o hF hs (fun y _ => by split <;> omega) hcur
        have wk : ∀ {C'}, LI w F C' (fun y => if y = s then T0 + 2 else if y ∈ done then T0 + 2 else T0 + 1) → LI w F C' fun y => if y ∈ done ++ [s] then T0 + 2 else T0 + 1 := fun {C'} i => i.weak fun y _ => by
          by_cases h1 : y = s
          · subst h1; simp
          · simp [h1]
        have hdq' : (done ++ [s]) ++ q = F := by rw [List.append_assoc]; exact hdq
        have nC : ∀ p ∈ nxtL w s, ∃ r, dGet C p.2 = some r := fun p hp => by
          obtain ⟨n, x, e1, e2, rfl⟩ := mem_nxtL.mp hp
          have : aft x s ∈ F := (hF _).mpr (((hF s).mp hs).step ⟨x, List.mem_of_getElem? e1, e2, rfl⟩)
          cases z : dGet C (aft x s) with
          | some v => exact ⟨v, rfl⟩
          | none => exact absurd (by rw [li.ks]; exact this) (dGet_none.mp z)
        have hin : ∀ p ∈ nxtL w s, 0 ≤ p.1 ∧ p.1 < w.ds.length := fun p hp => by
          obtain ⟨n, x, e1, e2, rfl⟩ := mem_nxtL.mp hp
          have := (List.getElem?_eq_some_iff.mp e1).1
          exact ⟨by simp, by simp; omega⟩
        refine ⟨_, rfl, ?_⟩
        refine ws_asgS (t := .lst ((tlL w C s).map T.int)) (h1 := h ++ [oU false eF (eO T.int) C]) ?_ rfl ?_
        · refine (lc_ev (e := eP T.int eF) (l := nxtL w s) (p := fun q => ((dGet C q.2).getD none).isSome) (G := fun q => T.int ((gD w q.1).c + ((dGet C q.2).getD none).getD 0)) (sr_lst (ev_callU (ea_cons (ev_var 0 rfl) (ea_cons (ev_var 4 rfl) ea_nil)) (ev_law_nextE (hkC C) o))) (fun p hp => ?_) ?_).trans (by unfold tlL; rw [List.map_map]; rfl)
          · obtain ⟨r, hr⟩ := nC p hp
            refine lcT_ev rfl (ev_dB (ev_bin (ev_bin (ev_var 2 rfl) (ev_var 7 rfl) (ixU (gC C) hr)) ev_c (by rw [hr]; exact not_non r))) fun hk' => ?_
            rw [hr] at hk' ⊢
            cases r with
            | none => cases hk'
            | some c0 =>
              exact ev_bin (ev_ix (i := 4) (ev_ixI (ev_ix (i := 1) (ev_var 0 rfl) ev_c rfl) (ev_var 6 rfl) (ix_deed (hin p hp))) ev_c rfl) (ev_bin (ev_var 2 rfl) (ev_var 7 rfl) (ixU (gC C) hr)) oi_add
          · have := nxtL_len w s
            have := o.len
            omega
        have elen := ev_lenL (l := (tlL w C s).map T.int) (ev_var (sl := [some (eWd w), some (.lst (F.map eF)), some (.ref h.length), a, some (eF s), some (.lst ((tlL w C s).map T.int)), d, e]) (h := h ++ [oU false eF (eO T.int) C]) 5 rfl)
        rw [List.length_map] at elen
        by_cases hne : tlL w C s = []
        · refine ws_skip (k := false) (h1 := h ++ [oU false eF (eO T.int) C]) ((ev_and (k := decide ((0 : Int) < (tlL w C s).length)) (ev_dB (ev_bin elen ev_c rfl)) (fun z => by rw [hne] at z; simp at z) (k2 := false)).trans (by rw [hne]; rfl)) rfl
            ⟨C, done ++ [s], rfl, hdq', wk (st.2 fun m hm => by rw [hne] at hm; cases hm), _, _, _, _, _, rfl⟩
        · obtain ⟨m, m1, m2, m3⟩ := minL_of hne
          have hpos : decide ((0 : Int) < (tlL w C s).length) = true := by
            have := List.length_pos_iff.mpr hne
            exact decide_eq_true (by omega)
          have emin : ∀ g, dCall fMin (dCons (dVar 5) dNil) [some (eWd w), some (.lst (F.map eF)), some (.ref h.length), a, some (eF s), some (.lst ((tlL w C s).map T.int)), d, e] g = some (.ok (.int m), g) := fun g => ev_minI (ev_var 5 rfl) m1
          have ecur : dBin fIx (dVar 2) (dVar 4) [some (eWd w), some (.lst (F.map eF)), some (.ref h.length), a, some (eF s), some (.lst ((tlL w C s).map T.int)), d, e] (h ++ [oU false eF (eO T.int) C]) = some (.ok (eO T.int cur), h ++ [oU false eF (eO T.int) C]) := ev_bin (ev_var 2 rfl) (ev_var 4 rfl) (ixU (gC C) hcur)
          refine ws_if (k := cur.isNone || decide (m < cur.getD 0)) (h1 := h ++ [oU false eF (eO T.int) C]) ((ev_and (k := decide ((0 : Int) < (tlL w C s).length)) (ev_dB (ev_bin elen ev_c rfl)) (fun _ => ev_or (k2 := decide (m < cur.getD 0)) (ev_dB (ev_bin ecur ev_c (is_non cur))) fun hb => ?_)).trans (by rw [hpos]; rfl)) (fun hc => ?_) (fun hc => ?_)
          · cases cur with
            | none => cases hb
            | some c0 => exact ev_dB (ev_bin (emin _) ecur oi_lt)
          · have lC : C.length < lim := by
              have := congrArg List.length li.ks
              rw [List.length_map] at this
              omega
            exact ws_set (h4 := h ++ [oU false eF (eO T.int) (dPut C s (some m))]) (emin _) (ev_var 2 rfl) (ev_var 4 rfl) ((putU (e := eF) (f := eO T.int) (v := some m) (gC C) lC).trans (by rw [sC])) ⟨_, done ++ [s], rfl, hdq', wk (st.1 m m1 fun c0 e0 => by subst e0; simpa using hc), _, _, _, _, _, rfl⟩
          · refine ws_nx ⟨C, done ++ [s], rfl, hdq', wk (st.2 fun m' hm' => ?_), _, _, _, _, _, rfl⟩
            rw [m1] at hm'
            cases hm'
            cases cur with
            | none => simp at hc
            | some c0 => exact ⟨c0, rfl, by simpa using hc⟩
      · rintro sl g ⟨C, done, rfl, hdq, li, a, b, c, d, e, rfl⟩
        rw [List.append_nil] at hdq
        subst hdq
        exact ⟨C, rfl, li.weak fun y hy => by rw [if_pos hy]; omega, by omega, _, _, _, _, _, rfl⟩
    · rintro sl g ⟨C, rfl, li, hr, a, b, c, d, e, rfl⟩
      exact ws_ret (ev_var 2 rfl) ⟨rfl, C, rfl, (li.weak fun y _ => by simp).fin o hF⟩
  obtain ⟨t, h', e, rfl, C, rfl, q⟩ := key
  exact ⟨C, e, q⟩
end Z

/-! B6: all parts of a row of facts, sorted by size; find. -/
namespace Z
open PySem PySem.W
/-! the tactics of this text (local): k_places evaluates what stands on the left; k_memK: what may be left open -/
local macro_rules | `(tactic| k_memK) => `(tactic| first
  | exact Nat.le_of_ble_eq_true rfl
  | assumption
  | (with_reducible apply side_le))
local macro_rules | `(tactic| k_places) => `(tactic| first
  | (with_reducible assumption)
  | (with_reducible exact ev_c)
  | ((with_reducible apply ev_var); rfl)
  | (with_reducible exact ea_nil)
  | (intro _; k_places)
  | ((with_reducible apply ea_cons) <;> k_places)
  | ((with_reducible apply ev_callU) <;> first | k_places | rfl)
  | ((with_reducible apply ev_tuple) <;> k_places)
  | ((with_reducible apply ev_tupleT) <;> k_places)
  | ((with_reducible apply ev_lenT) <;> k_places)
  | ((with_reducible apply ev_lenL) <;> k_places)
  | ((with_reducible apply ev_all) <;> k_places)
  | ((with_reducible apply ev_any) <;> k_places)
  | ((with_reducible apply ev_sortedL') <;> first | k_places | infer_instance | decide)
  | ((with_reducible apply ev_dB) <;> k_places)
  | ((with_reducible apply ev_truB) <;> k_places)
  | ((with_reducible apply ev_andV) <;> k_places)
  | ((with_reducible apply ev_orV) <;> k_places)
  | ((with_reducible apply ev_notV) <;> k_places)
  | ((with_reducible apply ev_and) <;> k_places)
  | ((with_reducible apply ev_or) <;> k_places)
  | ((with_reducible apply ev_not) <;> k_places)
  | ((with_reducible apply ev_chn) <;> k_places)
  | ((with_reducible apply ev_tup) <;> first | k_places | k_memK)
  | ((with_reducible apply ev_lst) <;> first | k_places | k_memK)
  | ((with_reducible apply ev_ix) <;> first | k_places | rfl)
  | ((with_reducible apply ev_ixL) <;> first | k_places | rfl)
  | ((with_reducible apply lc_evA) <;> first | k_places | (intro _ _; (apply lcY_ev rfl); k_places) | k_memK)
  | ((with_reducible apply lc_ev) <;> first | k_places | (intro _ _; (apply lcT_ev rfl) <;> k_places) | k_memK)
  | ((with_reducible apply ev_bin) <;> k_places)
  | ((with_reducible apply ev_un) <;> k_places)
  | ((with_reducible apply sr_tup) <;> k_places)
  | ((with_reducible apply sr_lst) <;> k_places)
  | ((with_reducible apply sr_rng1) <;> first | k_places | k_memK)
  | ((with_reducible apply op_cat) <;> k_memK)
  | ((with_reducible apply op_catT) <;> k_memK)
  | exact oi_add | exact oi_sub | exact oi_lt | exact oi_le | exact oi_gt | exact oi_ge | exact oi_neg
  | exact op_neT _ _ | exact op_neL _ _ | exact op_eqT _ _ | exact op_eqL _ _ | exact op_neT0 _ | exact op_eqT0 _
  | exact op_eq _ _ | exact op_ne _ _ | exact in_tup _ _ | exact in_lst _ _ | exact ni_tup _ _ | exact ni_lst _ _)
abbrev eIF : Int × List Int → T := eP T.int eF
def pr (r : List Int) : Int × List Int := ((r.length : Int), r)
def dblF (rows : List (List Int)) : List Int → List (List Int)
  | [] => rows
  | f :: L => dblF (rows ++ rows.map (· ++ [f])) L
def subR (L : List Int) : List (List Int) := dblF [[]] L
def srtP (L : List Int) : List (Int × List Int) := srt eIF ((subR L).map pr)
def SS (L : List Int) : List (List Int) := (srtP L).map (·.2)
theorem dblF_len : ∀ (L : List Int) (rows : List (List Int)), (dblF rows L).length = rows.length * 2 ^ L.length
  | [], rows => by simp [dblF]
  | f :: L, rows => by
    rw [dblF, dblF_len L, List.length_append, List.length_map, List.length_cons, Nat.pow_succ, ← Nat.two_mul, Nat.mul_assoc, Nat.mul_comm 2, Nat.mul_assoc]
theorem subR_len (L : List Int) : (subR L).length = 2 ^ L.length := by rw [subR, dblF_len]; simp
theorem dblF_sub : ∀ (L M : List Int) (rows : List (List Int)), (∀ r ∈ rows, r.Sublist M) → ∀ r ∈ dblF rows L, r.Sublist (M ++ L)
  | [], M, rows, h, r, hr => by simpa using h r hr
  | f :: L, M, rows, h, r, hr => by
    have := dblF_sub L (M ++ [f]) (rows ++ rows.map (· ++ [f])) (fun r hr => by
      rcases List.mem_append.mp hr with hr | hr
      · exact (h r hr).trans (List.sublist_append_left ..)
      · obtain ⟨q, hq, rfl⟩ := List.mem_map.mp hr
        exact (h q hq).append (List.Sublist.refl _)) r hr
    rwa [List.append_assoc] at this
theorem subR_sub {L r : List Int} (h : r ∈ subR L) : r.Sublist L := by simpa using dblF_sub L [] [[]] (fun r hr => by simp at hr; subst hr; exact List.Sublist.refl _) r h
theorem dblF_mono : ∀ (L : List Int) (rows : List (List Int)), ∀ r ∈ rows, r ∈ dblF rows L
  | [], rows, r, h => h
  | f :: L, rows, r, h => dblF_mono L _ r (List.mem_append.mpr (.inl h))
theorem dblF_all : ∀ (L : List Int) (rows : List (List Int)), ∀ r ∈ rows, r ++ L ∈ dblF rows L
  | [], rows, r, h => by simpa [dblF] using h
  | f :: L, rows, r, h => by
    have := dblF_all L (rows ++ rows.map (· ++ [f])) (r ++ [f]) (List.mem_append.mpr (.inr (List.mem_map_of_mem h)))
    simpa [dblF] using this
theorem subR_nil (L : List Int) : [] ∈ subR L := dblF_mono L _ _ (by simp)
theorem subR_all (L : List Int) : L ∈ subR L := by simpa [subR] using dblF_all L [[]] [] (by simp)
theorem mem_SS {L r : List Int} : r ∈ SS L ↔ r ∈ subR L := by
  unfold SS srtP
  constructor
  · intro h
    obtain ⟨p, hp, rfl⟩ := List.mem_map.mp h
    obtain ⟨q, hq, rfl⟩ := List.mem_map.mp ((srt_perm _).mem_iff.mp hp)
    exact hq
  · intro h
    exact List.mem_map.mpr ⟨pr r, (srt_perm _).mem_iff.mpr (List.mem_map_of_mem h), rfl⟩
theorem SS_len (L : List Int) : (SS L).length = 2 ^ L.length := by unfold SS srtP; rw [List.length_map, (srt_perm _).length_eq, List.length_map, subR_len]
theorem SS_pr (L : List Int) : (SS L).map pr = srtP L := by
  unfold SS
  rw [List.map_map]
  refine (List.map_congr_left (g := fun p => p) fun p hp => ?_).trans (List.map_id' _)
  obtain ⟨q, hq, rfl⟩ := List.mem_map.mp ((srt_perm _).mem_iff.mp hp)
  rfl
/-- chosen ones stand as they are sorted -/
theorem SS_filter (L : List Int) (q : List Int → Bool) : srt eIF (((SS L).filter q).map pr) = ((SS L).filter q).map pr := by
  refine srt_id ?_
  have h : (srtP L).Pairwise fun a b => leT (eIF a) (eIF b) = true := srt_sorted _
  rw [← SS_pr] at h
  exact h.sublist (List.filter_sublist.map _)
theorem find_head {α : Type} (q : α → Bool) : ∀ l : List α, l.find? q = (l.filter q).head?
  | [] => rfl
  | x :: l => by
    by_cases h : q x = true
    · rw [List.find?_cons_of_pos h, List.filter_cons_of_pos h]; rfl
    · rw [List.find?_cons_of_neg h, List.filter_cons_of_neg h]; exact find_head q l
/-- the empty row is the first -/
theorem SS_first (L : List Int) : ∃ R, SS L = [] :: R := by
  have h : (srtP L).Pairwise fun a b => leT (eIF a) (eIF b) = true := srt_sorted _
  have hm : pr [] ∈ srtP L := (srt_perm _).mem_iff.mpr (List.mem_map_of_mem (subR_nil L))
  unfold SS
  cases q : srtP L with
  | nil => rw [q] at hm; cases hm
  | cons a R =>
    refine ⟨R.map (·.2), ?_⟩
    rw [List.map_cons]
    congr 1
    have ha : a ∈ srtP L := by rw [q]; exact List.mem_cons_self ..
    obtain ⟨r, hr, rfl⟩ := List.mem_map.mp ((srt_perm _).mem_iff.mp ha)
    rw [q] at hm h
    rcases List.mem_cons.mp hm with z | z
    · exact (congrArg (·.2) z).symm
    · have := (List.pairwise_cons.mp h).1 _ z
      rw [leP_core] at this
      by_cases e : (pr r).1 = (pr []).1
      · have : r.length = 0 := by simpa [pr] using e
        exact List.eq_nil_of_length_eq_zero this
      · rw [if_neg e, leT_int] at this
        have : (r.length : Int) ≤ 0 := by simpa [pr] using this
        have : r.length = 0 := by omega
        exact List.eq_nil_of_length_eq_zero this
theorem sortK_rows (rows : List (List Int)) : sortK (rows.map eF) (rows.map fun r => eIF (pr r)) = (srt eIF (rows.map pr)).map fun p => eF p.2 := by
  have h1 : (rows.map eF).zip (rows.map fun r => eIF (pr r)) = rows.map fun r => (eF r, eIF (pr r)) := by
    rw [List.zip_map']
  have h2 : srt eIF (rows.map pr) = (rows.mergeSort fun a b => leT (eIF (pr a)) (eIF (pr b))).map pr := by
    unfold srt
    rw [List.map_mergeSort (r := fun a b => leT (eIF (pr a)) (eIF (pr b))) (s := fun a b => leT (eIF a) (eIF b)) (f := pr) fun _ _ _ _ => rfl]
  rw [h2, List.map_map]
  unfold sortK
  rw [h1, ← List.map_mergeSort (r := fun a b : List Int => leT (eIF (pr a)) (eIF (pr b))) (s := fun a b : T × T => leT a.2 b.2) (f := fun r : List Int => (eF r, eIF (pr r))) fun _ _ _ _ => rfl, List.map_map]
  rfl
theorem keysM_ev {α : Type} {e g : α → T} {f : T → M T} {h : Hv} : ∀ l : List α, (∀ x ∈ l, f (e x) h = some (.ok (g x), h)) → keysM f (l.map e) h = some (.ok (l.map g), h)
  | [], _ => rfl
  | x :: l, H => by
    have h1 := H x (List.mem_cons_self ..)
    have h2 := keysM_ev l fun y hy => H y (List.mem_cons_of_mem _ hy)
    simp only [List.map_cons, keysM, h1, h2]
theorem ev_sortedT {α : Type} [DecidableEq α] {e : α → T} {d : Nat} {b : Bool} [EO e d] [EA e b] {l : List α} {dd : D} {sl : Sl} {h h1 : Hv} (a : dd sl h = some (.ok (.tup (l.map e)), h1)) (hd : d ≤ 64 := by decide) : dCall (fSorted false) (dCons dd dNil) sl h = some (.ok (.lst ((srt e l).map e)), h1) :=
  ev_call (ea_cons a ea_nil) (so_tup l hd)
/-- sorted(rows, key=lambda told: (len(told), told)) -/
theorem ev_sortK {rows : List (List Int)} {d dk : D} {sl : Sl} {h : Hv} (a : d sl h = some (.ok (.lst (rows.map eF)), h)) (hf : ∀ r ∈ rows, dk (sl ++ [some (eF r)]) h = some (.ok (eIF (pr r)), h)) : dSortK false d dk sl h = some (.ok (.lst ((srt eIF (rows.map pr)).map fun p => eF p.2)), h) := by
  unfold dSortK bnd
  simp only [a]
  unfold fSortK
  have e1 : slQ h (T.lst (rows.map eF)) = some (rows.map eF) := rfl
  have e2 := keysM_ev (f := fun x => dk (sl ++ [some x])) (g := fun r => eIF (pr r)) rows hf
  have e3 : sOkQ (rows.map fun r => eIF (pr r)) = true := by
    have := sOk_map (e := eIF) (rows.map pr)
    rwa [List.map_map] at this
  simp only [e1, e2, e3, if_true, Bool.false_eq_true, if_false, sortK_rows]
theorem ev_lawsub {h : Hv} (hk : HOk h) {L : List Int} (hn : L.length ≤ 24 / 2) : d__law_subsets [eF L] h = some (.ok (.lst ((SS L).map eF)), h) := by
  have lm : lim = 16000000 := rfl
  have p2 : ∀ k, k ≤ 12 → 2 ^ k ≤ 4096 := fun k hk => Nat.le_trans (Nat.pow_le_pow_right (by omega) hk) (by decide)
  have hL : 2 ^ L.length ≤ 4096 := p2 _ (by omega)
  refine def_val hk ?_ (fun n => lows_map _ (fun x => EO.low (e := eF) x n) _)
  apply ws_asgS (t := .lst ([[]].map eF)) (h1 := h)
  · exact ev_lst (ea_cons (ev_tup ea_nil) ea_nil)
  · rfl
  refine ws_seq (ws_for (e := T.int) L (fun r sl g => g = h ∧ ∃ (rows : List (List Int)) (a : Option T), dblF rows r = subR L ∧ rows.length * 2 ^ r.length = 2 ^ L.length ∧ (∀ q ∈ rows, q.length + r.length ≤ L.length) ∧ sl = [some (eF L), some (.lst (rows.map eF)), a, none, none]) (sr_tup (ev_var 0 rfl)) ⟨rfl, [[]], _, rfl, by simp, by simp, rfl⟩ ?_ ?_)
  · rintro x r sl g ⟨rfl, rows, a, hr, hl, hq, rfl⟩
    have h1 : rows.length ≤ 2 ^ L.length := by
      rw [← hl]
      exact Nat.le_mul_of_pos_right _ (Nat.pos_of_ne_zero (by simp))
    have h2 : rows.length * 2 ≤ 2 ^ L.length := by
      rw [← hl, List.length_cons, Nat.pow_succ]
      exact Nat.mul_le_mul_left _ (by have := Nat.one_le_two_pow (n := r.length); omega)
    refine ⟨_, rfl, ws_asg (t := .lst ((rows ++ rows.map (· ++ [x])).map eF)) (ev_bin (ev_var 1 rfl) (lc_evA (e := eF) (l := rows) (G := fun row => eF (row ++ [x])) (sr_lst (ev_var 1 rfl)) (fun row hrow => lcY_ev rfl (ev_bin (ev_var 4 rfl) (ev_tup (ea_cons (ev_var 2 rfl) ea_nil)) (op_catT (e := T.int) (ys := [x]) ?_))) (by omega)) ((ev_addL (by rw [List.length_map, List.length_map]; omega)).trans ?_)) rfl ⟨rfl, _, _, hr, ?_, fun q hq' => ?_, rfl⟩⟩
    · have := hq row hrow
      simp only [List.length_cons, List.length_nil] at this ⊢
      omega
    · rw [List.map_append, List.map_map]; rfl
    · rw [List.length_append, List.length_map, ← hl, List.length_cons, Nat.pow_succ, ← Nat.two_mul, Nat.mul_assoc, Nat.mul_comm 2, Nat.mul_assoc]
    · rcases List.mem_append.mp hq' with z | z
      · have := hq q z
        simp only [List.length_cons] at this
        omega
      · obtain ⟨y, hy, rfl⟩ := List.mem_map.mp z
        have := hq y hy
        simp only [List.length_cons, List.length_append, List.length_nil] at this ⊢
        omega
  · rintro sl g ⟨rfl, rows, a, hr, hl, hq, rfl⟩
    have hr : rows = subR L := hr
    subst hr
    have e1 : ((subR L).map fun row => T.tup [.int row.length, eF row]) = ((subR L).map pr).map eIF := by rw [List.map_map]; rfl
    have hl2 : (subR L).length ≤ 4096 := by rw [subR_len]; exact hL
    refine ws_ret ((lc_evA (e := eIF) (l := srtP L) (G := fun p => eF p.2) (sr_lst (ev_sortedL (e := eIF) ((lc_evA (e := eF) (l := subR L) (G := fun row => T.tup [.int row.length, eF row]) (sr_lst (ev_var 1 rfl)) (fun row hrow => lcY_ev rfl (ev_tup (ea_cons ((ev_lenT (l := row.map .int) (ev_var 4 rfl)).trans (by rw [List.length_map])) (ea_cons (ev_var 4 rfl) ea_nil)))) (by omega)).trans (by rw [e1]))))
      (fun p hp => lcY_ev rfl (ev_var 4 rfl)) ?_).trans (by unfold SS; rw [List.map_map]; rfl)) ⟨rfl, rfl⟩
    unfold srtP
    rw [(srt_perm _).length_eq, List.length_map]
    omega
theorem ev_rgv {sl : Sl} {h : Hv} {d : D} {n : Nat} (hn : n ≤ 12) (a : d sl h = some (.ok (.int n), h)) : dRgv1 true false d sl h = some (.ok (eF ((List.range n).map fun k : Nat => (k : Int))), h) := by
  have e1 : in62 0 = true := by decide
  have e2 : in62 (n : Int) = true := by unfold in62; exact decide_eq_true ⟨by omega, by omega⟩
  have e3 : ((n : Int) - 0).toNat ≤ lim := by have : lim = 16000000 := rfl; omega
  have e4 : rgT 0 (n : Int) = ((List.range n).map fun k : Nat => (k : Int)).map T.int := by
    rw [rgT_ev]
    simp
  simp only [dRgv1, bnd, a, rgM, e1, e2, Bool.and_self, Bool.true_and, decide_eq_true e3, if_true, ret, e4]
  rfl
end Z

/-! K1 (k18): what can be done; what is missing; what is too much. -/
namespace Z
open PySem PySem.W
/-! the tactics of this text (local): k_places evaluates what stands on the left; k_memK: what may be left open -/
local macro_rules | `(tactic| k_memK) => `(tactic| first
  | exact Nat.le_of_ble_eq_true rfl
  | assumption
  | (with_reducible apply side_le))
local macro_rules | `(tactic| k_places) => `(tactic| first
  | (with_reducible assumption)
  | (with_reducible exact ev_c)
  | ((with_reducible apply ev_var); rfl)
  | (with_reducible exact ea_nil)
  | (intro _; k_places)
  | ((with_reducible apply ea_cons) <;> k_places)
  | ((with_reducible apply ev_callU) <;> first | k_places | rfl)
  | ((with_reducible apply ev_tuple) <;> k_places)
  | ((with_reducible apply ev_tupleT) <;> k_places)
  | ((with_reducible apply ev_lenT) <;> k_places)
  | ((with_reducible apply ev_lenL) <;> k_places)
  | ((with_reducible apply ev_all) <;> k_places)
  | ((with_reducible apply ev_any) <;> k_places)
  | ((with_reducible apply ev_sortedL') <;> first | k_places | infer_instance | decide)
  | ((with_reducible apply ev_dB) <;> k_places)
  | ((with_reducible apply ev_truB) <;> k_places)
  | ((with_reducible apply ev_andV) <;> k_places)
  | ((with_reducible apply ev_orV) <;> k_places)
  | ((with_reducible apply ev_notV) <;> k_places)
  | ((with_reducible apply ev_and) <;> k_places)
  | ((with_reducible apply ev_or) <;> k_places)
  | ((with_reducible apply ev_not) <;> k_places)
  | ((with_reducible apply ev_chn) <;> k_places)
  | ((with_reducible apply ev_tup) <;> first | k_places | k_memK)
  | ((with_reducible apply ev_lst) <;> first | k_places | k_memK)
  | ((with_reducible apply ev_ix) <;> first | k_places | rfl)
  | ((with_reducible apply ev_ixL) <;> first | k_places | rfl)
  | ((with_reducible apply lc_evA) <;> first | k_places | (intro _ _; (apply lcY_ev rfl); k_places) | k_memK)
  | ((with_reducible apply lc_ev) <;> first | k_places | (intro _ _; (apply lcT_ev rfl) <;> k_places) | k_memK)
  | ((with_reducible apply ev_bin) <;> k_places)
  | ((with_reducible apply ev_un) <;> k_places)
  | ((with_reducible apply sr_tup) <;> k_places)
  | ((with_reducible apply sr_lst) <;> k_places)
  | ((with_reducible apply sr_rng1) <;> first | k_places | k_memK)
  | ((with_reducible apply op_cat) <;> k_memK)
  | ((with_reducible apply op_catT) <;> k_memK)
  | exact oi_add | exact oi_sub | exact oi_lt | exact oi_le | exact oi_gt | exact oi_ge | exact oi_neg
  | exact op_neT _ _ | exact op_neL _ _ | exact op_eqT _ _ | exact op_eqL _ _ | exact op_neT0 _ | exact op_eqT0 _
  | exact op_eq _ _ | exact op_ne _ _ | exact in_tup _ _ | exact in_lst _ _ | exact ni_tup _ _ | exact ni_lst _ _)
def canP (w : Wd) : Prop := ∃ p, InP w p ∧ plB w w.s p = true
open Classical in
noncomputable def canB (w : Wd) : Bool := decide (canP w)
theorem canB_iff {w : Wd} : canB w = true ↔ canP w := by unfold canB; simp
theorem not_nonCh {r : Option (Int × List Int)} {h : Hv} : fNot (eCh r) .non h = some (.ok (.bl r.isSome), h) := by
  cases r with
  | none => rfl
  | some z => rfl
theorem ev_cheapC {h : Hv} (hk : HOk h) {w : Wd} (o : WdOk w) : ∃ r, d_cheapest [eWd w] h = some (.ok (eCh r), h) ∧ r.isSome = canB w := by
  obtain ⟨r, e, h1, h2⟩ := ev_cheapest hk o
  refine ⟨r, e, ?_⟩
  cases r with
  | none =>
    have : ¬ canP w := fun ⟨p, hp, q⟩ => by rw [h2 rfl p hp] at q; cases q
    cases hc : canB w with
    | false => rfl
    | true => exact absurd (canB_iff.mp hc) this
  | some z =>
    obtain ⟨a, b, _⟩ := h1 z.1 z.2 rfl
    exact (canB_iff.mpr ⟨z.2, a, b⟩).symm
theorem ev_law_can {h : Hv} (hk : HOk h) {w : Wd} {s gn gb : List Int} (o : WdOk ⟨w.m, w.ds, s, gn, gb⟩) : d__law_can [eWd w, eF s, .tup [eF gn, eF gb]] h = some (.ok (.bl (canB ⟨w.m, w.ds, s, gn, gb⟩)), h) := by
  obtain ⟨C, eC, lc⟩ := ev_law_costs hk o
  obtain ⟨r, hr, hm⟩ := lc s .start
  have hb : r.isSome = canB ⟨w.m, w.ds, s, gn, gb⟩ := by
    cases r with
    | none =>
      have : ¬ canP ⟨w.m, w.ds, s, gn, gb⟩ := fun ⟨p, hp, q⟩ => by rw [hm p hp] at q; cases q
      cases hc : canB ⟨w.m, w.ds, s, gn, gb⟩ with
      | false => rfl
      | true => exact absurd (canB_iff.mp hc) this
    | some c =>
      obtain ⟨⟨p, hp, q, _⟩, _⟩ := hm
      exact (canB_iff.mpr ⟨p, hp, q⟩).symm
  have key : ∃ t h', d__law_can [eWd w, eF s, .tup [eF gn, eF gb]] h = some (.ok t, h') ∧ (t = .bl (canB ⟨w.m, w.ds, s, gn, gb⟩) ∧ h' = h) := by
    refine def_ws (Q := fun t h' => t = .bl (canB ⟨w.m, w.ds, s, gn, gb⟩) ∧ h' = h) ?_
    refine ws_asgS (t := eWd ⟨w.m, w.ds, s, gn, gb⟩) (h1 := h) (ev_tup (ea_cons (ev_ix (i := 0) (ev_var 0 rfl) ev_c rfl) (ea_cons (ev_ix (i := 1) (ev_var 0 rfl) ev_c rfl) (ea_cons (ev_var 1 rfl) (ea_cons (ev_var 2 rfl) ea_nil))))) rfl ?_
    refine ws_ret (t := .bl r.isSome) (h1 := h ++ [oU false eF (eO T.int) C]) (ev_bin (ev_bin (ev_callU (ea_cons (ev_var 3 rfl) ea_nil) eC) (ev_var 1 rfl) (ixU (e := eF) (f := eO T.int) (x := s) (D := C) (lk := false) (by simp) hr)) ev_c (not_non r)) (endOk hk (fun _ => rfl) ⟨by rw [hb], rfl⟩)
  obtain ⟨t, h', e, rfl, rfl⟩ := key
  exact e
theorem row_srt {m : Int} {l : List Int} (nd : l.Nodup) (h : ∀ x ∈ l, 0 ≤ x ∧ x < m) : Row m (srt T.int l) := by
  refine ⟨?_, fun x hx => h x ((srt_perm l).mem_iff.mp hx)⟩
  have h1 : (srt T.int l).Pairwise fun a b => leT (.int a) (.int b) = true := srt_sorted l
  have h2 : (srt T.int l).Nodup := (srt_perm l).nodup_iff.mpr nd
  exact (h1.and h2).imp fun {a b} ⟨x, y⟩ => by
    rw [leT_int, decide_eq_true_eq] at x
    omega
/-! ### what is missing -/
def rgI (m : Int) : List Int := (List.range m.toNat).map fun k : Nat => (k : Int)
def LM (w : Wd) : List Int := (rgI w.m).filter fun f => !decide (f ∈ w.s)
def wM (w : Wd) (row : List Int) : Wd := ⟨w.m, w.ds, srt T.int (w.s ++ row), w.gn, w.gb⟩
theorem rgI_row {m : Int} (hm : 0 ≤ m) : Row m (rgI m) := by
  refine ⟨?_, fun x hx => ?_⟩
  · unfold rgI
    rw [List.pairwise_map]
    exact List.pairwise_lt_range.imp fun h => by omega
  · obtain ⟨k, hk, rfl⟩ := List.mem_map.mp hx
    have := List.mem_range.mp hk
    omega
theorem LM_row {w : Wd} (o : WdOk w) : Row w.m (LM w) := by
  have := rgI_row (m := w.m) (by have := o.m; omega)
  exact ⟨this.1.filter _, fun x hx => this.2 x (List.mem_filter.mp hx).1⟩
theorem LM_len {w : Wd} (o : WdOk w) : (LM w).length ≤ 12 := by
  have := row_len (LM_row o)
  have := o.m
  omega
theorem wM_ok {w : Wd} (o : WdOk w) {row : List Int} (h : row.Sublist (LM w)) : WdOk (wM w row) := by
  have hr := LM_row o
  refine ⟨o.m, o.len, o.ds, row_srt ?_ fun x hx => ?_, o.gn, o.gb, o.g⟩
  · rw [List.nodup_append]
    refine ⟨lt_nodup o.s.1, (lt_nodup hr.1).sublist h, fun a ha b hb e => ?_⟩
    subst e
    have := (List.mem_filter.mp (h.subset hb)).2
    simp at this
    exact this ha
  · rcases List.mem_append.mp hx with z | z
    · exact o.s.2 x z
    · exact hr.2 x (h.subset z)
theorem find_or {α : Type} {q : α → Bool} {x : α} {r : List α} : (x :: r).find? q = if q x then some x else r.find? q := by
  rw [List.find?_cons]
  cases q x <;> rfl
theorem ev_missing {h : Hv} (hk : HOk h) {w : Wd} (o : WdOk w) : d_missing_facts [eWd w] h = some (.ok (eO eF ((SS (LM w)).find? fun row => canB (wM w row))), h) := by
  have lm : lim = 16000000 := rfl
  have cw := ev_check_world hk o
  have hm := o.m
  have lL := LM_len o
  have p2 : ∀ k, k ≤ 12 → 2 ^ k ≤ 4096 := fun k hk => Nat.le_trans (Nat.pow_le_pow_right (by omega) hk) (by decide)
  have hL : 2 ^ (LM w).length ≤ 4096 := p2 _ lL
  refine def_val hk ?_ (fun n => EO.low (e := eO eF) _ n)
  refine ws_exprS (t := .non) (h1 := h) (ev_callU (ea_cons (ev_var 0 rfl) ea_nil) cw) ?_
  refine ws_asgS (t := eWd w) (h1 := h) (ev_var 0 rfl) rfl ?_
  refine ws_asgS (t := .lst ([[]].map eF)) (h1 := h) (ev_lst (ea_cons (ev_tup ea_nil) ea_nil)) rfl ?_
  refine ws_seq (ws_for (e := T.int) (rgI w.m) (fun r sl g => g = h ∧ ∃ (rows : List (List Int)) (a : Option T), dblF rows (r.filter fun f => !decide (f ∈ w.s)) = subR (LM w) ∧ rows.length * 2 ^ (r.filter fun f => !decide (f ∈ w.s)).length = 2 ^ (LM w).length ∧ (∀ q ∈ rows, q.length + (r.filter fun f => !decide (f ∈ w.s)).length ≤ (LM w).length) ∧
      sl = [some (eWd w), some (.int w.m), some (eT eDd w.ds), some (eF w.s), some (.tup [eF w.gn, eF w.gb]), some (.lst (rows.map eF)), a, none])
    ((sr_rng1 (ev_var 1 rfl) (by unfold in62; exact decide_eq_true ⟨by omega, by omega⟩)).trans (by unfold rgI; simp)) ⟨rfl, [[]], _, rfl, by simp [LM], by simp [LM], rfl⟩ ?_ ?_)
  · rintro x r sl g ⟨rfl, rows, a, hr, hl, hq, rfl⟩
    refine ⟨_, rfl, ws_if (k := !decide (x ∈ w.s)) (h1 := g) (ev_dB (ev_bin (ev_var 6 rfl) (ev_var 3 rfl) (ni_tup x w.s))) (fun hx => ?_) fun hx => ?_⟩
    · have ef : ((x :: r).filter fun f => !decide (f ∈ w.s)) = x :: (r.filter fun f => !decide (f ∈ w.s)) := List.filter_cons_of_pos hx
      rw [ef] at hr hl hq
      have h2 : rows.length * 2 ≤ 2 ^ (LM w).length := by
        rw [← hl, List.length_cons, Nat.pow_succ]
        exact Nat.mul_le_mul_left _ (by have := Nat.one_le_two_pow (n := (r.filter fun f => !decide (f ∈ w.s)).length); omega)
      refine ws_asg (t := .lst ((rows ++ rows.map (· ++ [x])).map eF)) (ev_bin (ev_var 5 rfl) (lc_evA (e := eF) (l := rows) (G := fun row => eF (row ++ [x])) (sr_lst (ev_var 5 rfl)) (fun row hrow => lcY_ev rfl (ev_bin (ev_var 7 rfl) (ev_tup (ea_cons (ev_var 6 rfl) ea_nil)) (op_catT (e := T.int) (ys := [x]) ?_))) (by omega)) ((ev_addL (by rw [List.length_map, List.length_map]; omega)).trans ?_)) rfl ⟨rfl, _, _, hr, ?_, fun q hq' => ?_, rfl⟩
      · have := hq row hrow
        simp only [List.length_cons, List.length_nil] at this ⊢
        omega
      · rw [List.map_append, List.map_map]; rfl
      · rw [List.length_append, List.length_map, ← hl, List.length_cons, Nat.pow_succ, ← Nat.two_mul, Nat.mul_assoc, Nat.mul_comm 2, Nat.mul_assoc]
      · rcases List.mem_append.mp hq' with z | z
        · have := hq q z
          simp only [List.length_cons] at this
          omega
        · obtain ⟨y, hy, rfl⟩ := List.mem_map.mp z
          have := hq y hy
          simp only [List.length_cons, List.length_append, List.length_nil] at this ⊢
          omega
    · have ef : ((x :: r).filter fun f => !decide (f ∈ w.s)) = (r.filter fun f => !decide (f ∈ w.s)) := List.filter_cons_of_neg (by rw [hx]; exact Bool.false_ne_true)
      rw [ef] at hr hl hq
      exact ws_nx ⟨rfl, rows, _, hr, hl, hq, rfl⟩
  · rintro sl g ⟨rfl, rows, a, hr, hl, hq, rfl⟩
    have hr : rows = subR (LM w) := hr
    subst hr
    refine ws_seq (ws_for (e := eF) (SS (LM w)) (fun r sl g' => g' = g ∧ (∀ row ∈ r, row.Sublist (LM w)) ∧ (SS (LM w)).find? (fun row => canB (wM w row)) = r.find? (fun row => canB (wM w row)) ∧ ∃ a b, sl = [some (eWd w), some (.int w.m), some (eT eDd w.ds), some (eF w.s), some (.tup [eF w.gn, eF w.gb]), some (.lst ((subR (LM w)).map eF)), a, b])
      ((sr_lst (ev_sortK (rows := subR (LM w)) (ev_var 5 rfl) fun row hrow => ev_tup (ea_cons ((ev_lenT (l := row.map .int) (ev_var 8 rfl)).trans (by rw [List.length_map]; rfl)) (ea_cons (ev_var 8 rfl) ea_nil)))).trans (by rw [show (SS (LM w)).map eF = (srt eIF ((subR (LM w)).map pr)).map fun p => eF p.2 from by unfold SS srtP; rw [List.map_map]; rfl])) ⟨rfl, fun row h => subR_sub (mem_SS.mp h), rfl, _, _, rfl⟩ ?_ ?_)
    · rintro row r sl g' ⟨rfl, hsub, hf, a, b, rfl⟩
      have hs := hsub row (List.mem_cons_self ..)
      obtain ⟨z, e1, e2⟩ := ev_cheapC hk (wM_ok o hs)
      rw [find_or] at hf
      have l1 : w.s.length + row.length ≤ lim := by
        have := row_len o.s
        have := hs.length_le
        omega
      refine ⟨_, rfl, ws_if (k := canB (wM w row)) (h1 := g') (ev_dB (ev_bin (ev_callU (ea_cons (ev_tup (ea_cons (ev_var 1 rfl) (ea_cons (ev_var 2 rfl) (ea_cons (ev_tuple (ev_sortedT (e := T.int) (ev_bin (ev_tupleT (ev_var 3 rfl)) (ev_var 7 rfl) (op_catT l1)))) (ea_cons (ev_var 4 rfl) ea_nil))))) ea_nil) e1) ev_c (by rw [← e2]; exact not_nonCh))) (fun hx => ?_) fun hx => ?_⟩
      · rw [if_pos hx] at hf
        exact ws_ret (ev_var 7 rfl) ⟨by rw [hf]; rfl, rfl⟩
      · rw [if_neg (by rw [hx]; exact Bool.false_ne_true)] at hf
        exact ws_nx ⟨rfl, fun q hq => hsub q (List.mem_cons_of_mem _ hq), hf, _, _, rfl⟩
    · rintro sl g' ⟨rfl, _, hf, a, b, rfl⟩
      exact ws_ret ev_c ⟨by rw [hf]; rfl, rfl⟩
end Z

/-! K2 (k18): what is too much. -/
namespace Z
open PySem PySem.W
/-! the tactics of this text (local): k_places evaluates what stands on the left; k_memK: what may be left open -/
local macro_rules | `(tactic| k_memK) => `(tactic| first
  | exact Nat.le_of_ble_eq_true rfl
  | assumption
  | (with_reducible apply side_le))
local macro_rules | `(tactic| k_places) => `(tactic| first
  | (with_reducible assumption)
  | (with_reducible exact ev_c)
  | ((with_reducible apply ev_var); rfl)
  | (with_reducible exact ea_nil)
  | (intro _; k_places)
  | ((with_reducible apply ea_cons) <;> k_places)
  | ((with_reducible apply ev_callU) <;> first | k_places | rfl)
  | ((with_reducible apply ev_tuple) <;> k_places)
  | ((with_reducible apply ev_tupleT) <;> k_places)
  | ((with_reducible apply ev_lenT) <;> k_places)
  | ((with_reducible apply ev_lenL) <;> k_places)
  | ((with_reducible apply ev_all) <;> k_places)
  | ((with_reducible apply ev_any) <;> k_places)
  | ((with_reducible apply ev_sortedL') <;> first | k_places | infer_instance | decide)
  | ((with_reducible apply ev_dB) <;> k_places)
  | ((with_reducible apply ev_truB) <;> k_places)
  | ((with_reducible apply ev_andV) <;> k_places)
  | ((with_reducible apply ev_orV) <;> k_places)
  | ((with_reducible apply ev_notV) <;> k_places)
  | ((with_reducible apply ev_and) <;> k_places)
  | ((with_reducible apply ev_or) <;> k_places)
  | ((with_reducible apply ev_not) <;> k_places)
  | ((with_reducible apply ev_chn) <;> k_places)
  | ((with_reducible apply ev_tup) <;> first | k_places | k_memK)
  | ((with_reducible apply ev_lst) <;> first | k_places | k_memK)
  | ((with_reducible apply ev_ix) <;> first | k_places | rfl)
  | ((with_reducible apply ev_ixL) <;> first | k_places | rfl)
  | ((with_reducible apply lc_evA) <;> first | k_places | (intro _ _; (apply lcY_ev rfl); k_places) | k_memK)
  | ((with_reducible apply lc_ev) <;> first | k_places | (intro _ _; (apply lcT_ev rfl) <;> k_places) | k_memK)
  | ((with_reducible apply ev_bin) <;> k_places)
  | ((with_reducible apply ev_un) <;> k_places)
  | ((with_reducible apply sr_tup) <;> k_places)
  | ((with_reducible apply sr_lst) <;> k_places)
  | ((with_reducible apply sr_rng1) <;> first | k_places | k_memK)
  | ((with_reducible apply op_cat) <;> k_memK)
  | ((with_reducible apply op_catT) <;> k_memK)
  | exact oi_add | exact oi_sub | exact oi_lt | exact oi_le | exact oi_gt | exact oi_ge | exact oi_neg
  | exact op_neT _ _ | exact op_neL _ _ | exact op_eqT _ _ | exact op_eqL _ _ | exact op_neT0 _ | exact op_eqT0 _
  | exact op_eq _ _ | exact op_ne _ _ | exact in_tup _ _ | exact in_lst _ _ | exact ni_tup _ _ | exact ni_lst _ _)
def LG (w : Wd) : List Int := srt T.int (w.gn ++ w.gb)
def lessG (l row : List Int) : List Int := l.filter fun f => !decide (f ∈ row)
def wG (w : Wd) (row : List Int) : Wd := ⟨w.m, w.ds, w.s, lessG w.gn row, lessG w.gb row⟩
theorem LG_row {w : Wd} (o : WdOk w) : Row w.m (LG w) := by
  refine row_srt ?_ fun x hx => ?_
  · rw [List.nodup_append]
    exact ⟨lt_nodup o.gn.1, lt_nodup o.gb.1, fun a ha b hb e => o.g a ha (e ▸ hb)⟩
  · rcases List.mem_append.mp hx with z | z
    · exact o.gn.2 x z
    · exact o.gb.2 x z
theorem LG_len {w : Wd} (o : WdOk w) : (LG w).length ≤ 12 := by
  have := row_len (LG_row o)
  have := o.m
  omega
theorem lessG_row {m : Int} {l row : List Int} (h : Row m l) : Row m (lessG l row) := ⟨h.1.filter _, fun x hx => h.2 x (List.mem_filter.mp hx).1⟩
theorem wG_ok {w : Wd} (o : WdOk w) (row : List Int) : WdOk (wG w row) := ⟨o.m, o.len, o.ds, o.s, lessG_row o.gn, lessG_row o.gb, fun f h1 h2 => o.g f (List.mem_filter.mp h1).1 (List.mem_filter.mp h2).1⟩
/-- without all of it there is a plan -/
theorem wG_all (w : Wd) : canB (wG w (LG w)) = true := by
  have h1 : ∀ l : List Int, (∀ f ∈ l, f ∈ w.gn ++ w.gb) → lessG l (LG w) = [] := fun l h => by
    unfold lessG
    rw [List.filter_eq_nil_iff]
    intro f hf
    have : f ∈ LG w := (srt_perm _).mem_iff.mpr (h f hf)
    simp [this]
  refine canB_iff.mpr ⟨[], (fun k hk => nomatch hk), ?_⟩
  rw [plB_nil]
  show fitsB (lessG w.gn (LG w)) (lessG w.gb (LG w)) w.s = true
  rw [h1 w.gn fun f hf => List.mem_append.mpr (.inl hf), h1 w.gb fun f hf => List.mem_append.mpr (.inr hf)]
  exact fits_iff.mpr ⟨fun f hf => (nomatch hf), fun f hf => (nomatch hf)⟩
theorem wG_find (w : Wd) : ∃ row, (SS (LG w)).find? (fun row => canB (wG w row)) = some row := by
  have hm : LG w ∈ SS (LG w) := mem_SS.mpr (subR_all _)
  cases q : (SS (LG w)).find? (fun row => canB (wG w row)) with
  | some r => exact ⟨r, rfl⟩
  | none =>
    have := List.find?_eq_none.mp q _ hm
    exact absurd (wG_all w) this
theorem ev_toomuch {h : Hv} (hk : HOk h) {w : Wd} (o : WdOk w) {row : List Int} (hrow : (SS (LG w)).find? (fun row => canB (wG w row)) = some row) : d_too_much [eWd w] h = some (.ok (eF row), h) := by
  have lm : lim = 16000000 := rfl
  have cw := ev_check_world hk o
  have hm := o.m
  have lL := LG_len o
  have p2 : ∀ k, k ≤ 12 → 2 ^ k ≤ 4096 := fun k hk => Nat.le_trans (Nat.pow_le_pow_right (by omega) hk) (by decide)
  have hL : 2 ^ (LG w).length ≤ 4096 := p2 _ lL
  have n1 := row_len o.gn
  have n2 := row_len o.gb
  refine def_val hk ?_ (fun n => EO.low (e := eF) _ n)
  refine ws_exprS (t := .non) (h1 := h) (ev_callU (ea_cons (ev_var 0 rfl) ea_nil) cw) ?_
  refine ws_asgS (t := eWd w) (h1 := h) (ev_var 0 rfl) rfl ?_
  refine ws_asgS (t := .lst ([[]].map eF)) (h1 := h) (ev_lst (ea_cons (ev_tup ea_nil) ea_nil)) rfl ?_
  refine ws_seq (ws_for (e := T.int) (LG w) (fun r sl g => g = h ∧ ∃ (rows : List (List Int)) (a : Option T), dblF rows r = subR (LG w) ∧ rows.length * 2 ^ r.length = 2 ^ (LG w).length ∧ (∀ q ∈ rows, q.length + r.length ≤ (LG w).length) ∧
      sl = [some (eWd w), some (.int w.m), some (eT eDd w.ds), some (eF w.s), some (eF w.gn), some (eF w.gb), some (.lst (rows.map eF)), a, none, none])
    (sr_lst (ev_sortedT (e := T.int) (ev_bin (ev_tupleT (ev_var 4 rfl)) (ev_tupleT (ev_var 5 rfl)) (op_catT (by omega))))) ⟨rfl, [[]], _, rfl, by simp, by simp, rfl⟩ ?_ ?_)
  · rintro x r sl g ⟨rfl, rows, a, hr, hl, hq, rfl⟩
    have h2 : rows.length * 2 ≤ 2 ^ (LG w).length := by
      rw [← hl, List.length_cons, Nat.pow_succ]
      exact Nat.mul_le_mul_left _ (by have := Nat.one_le_two_pow (n := r.length); omega)
    refine ⟨_, rfl, ?_⟩
    refine ws_asg (t := .lst ((rows ++ rows.map (· ++ [x])).map eF)) (ev_bin (ev_var 6 rfl) (lc_evA (e := eF) (l := rows) (G := fun row => eF (row ++ [x])) (sr_lst (ev_var 6 rfl)) (fun row hrow => lcY_ev rfl (ev_bin (ev_var 8 rfl) (ev_tup (ea_cons (ev_var 7 rfl) ea_nil)) (op_catT (e := T.int) (ys := [x]) ?_))) (by omega)) ((ev_addL (by rw [List.length_map, List.length_map]; omega)).trans ?_)) rfl ⟨rfl, _, _, hr, ?_, fun q hq' => ?_, rfl⟩
    · have := hq row hrow
      simp only [List.length_cons, List.length_nil] at this ⊢
      omega
    · rw [List.map_append, List.map_map]; rfl
    · rw [List.length_append, List.length_map, ← hl, List.length_cons, Nat.pow_succ, ← Nat.two_mul, Nat.mul_assoc, Nat.mul_comm 2, Nat.mul_assoc]
    · rcases List.mem_append.mp hq' with z | z
      · have := hq q z
        simp only [List.length_cons] at this
        omega
      · obtain ⟨y, hy, rfl⟩ := List.mem_map.mp z
        have := hq y hy
        simp only [List.length_cons, List.length_append, List.length_nil] at this ⊢
        omega
  · rintro sl g ⟨rfl, rows, a, hr, hl, hq, rfl⟩
    have hr : rows = subR (LG w) := hr
    subst hr
    refine ws_seq (ws_for (e := eF) (SS (LG w)) (fun r sl g' => g' = g ∧ (SS (LG w)).find? (fun row => canB (wG w row)) = r.find? (fun row => canB (wG w row)) ∧ ∃ a b c, sl = [some (eWd w), some (.int w.m), some (eT eDd w.ds), some (eF w.s), some (eF w.gn), some (eF w.gb), some (.lst ((subR (LG w)).map eF)), a, b, c])
      ((sr_lst (ev_sortK (rows := subR (LG w)) (ev_var 6 rfl) fun row hrow => ev_tup (ea_cons ((ev_lenT (l := row.map .int) (ev_var 10 rfl)).trans (by rw [List.length_map]; rfl)) (ea_cons (ev_var 10 rfl) ea_nil)))).trans (by rw [show (SS (LG w)).map eF = (srt eIF ((subR (LG w)).map pr)).map fun p => eF p.2 from by unfold SS srtP; rw [List.map_map]; rfl])) ⟨rfl, rfl, _, _, _, rfl⟩ ?_ ?_)
    · rintro x r sl g' ⟨rfl, hf, a, b, c, rfl⟩
      obtain ⟨z, e1, e2⟩ := ev_cheapC hk (wG_ok o x)
      rw [find_or] at hf
      refine ⟨_, rfl, ?_⟩
      refine ws_asgS (t := .tup [eF (lessG w.gn x), eF (lessG w.gb x)]) (h1 := g') (ev_tup (ea_cons (ev_tuple ((lc_evt (e := T.int) (e' := T.int) (l := w.gn) (p := fun f => !decide (f ∈ x)) (G := fun f => f) (sr_tup (ev_var 4 rfl)) (fun f hf => lcT_ev rfl (ev_dB (ev_bin (ev_var 7 rfl) (ev_var 8 rfl) (ni_tup (e := T.int) f x))) fun _ => ev_var 7 rfl) (by omega)).trans (by rw [List.map_id']; rfl)))
        (ea_cons (ev_tuple ((lc_evt (e := T.int) (e' := T.int) (l := w.gb) (p := fun f => !decide (f ∈ x)) (G := fun f => f) (sr_tup (ev_var 5 rfl)) (fun f hf => lcT_ev rfl (ev_dB (ev_bin (ev_var 7 rfl) (ev_var 8 rfl) (ni_tup (e := T.int) f x))) fun _ => ev_var 7 rfl) (by omega)).trans (by rw [List.map_id']; rfl))) ea_nil))) rfl ?_
      · refine ws_if (k := canB (wG w x)) (h1 := g') (ev_dB (ev_bin (ev_callU (ea_cons (ev_tup (ea_cons (ev_var 1 rfl) (ea_cons (ev_var 2 rfl) (ea_cons (ev_var 3 rfl) (ea_cons (ev_var 9 rfl) ea_nil))))) ea_nil) e1) ev_c (by rw [← e2]; exact not_nonCh))) (fun hx => ?_) fun hx => ?_
        · rw [if_pos hx, hrow] at hf
          cases hf
          exact ws_ret (ev_var 8 rfl) ⟨rfl, rfl⟩
        · rw [if_neg (by rw [hx]; exact Bool.false_ne_true)] at hf
          exact ws_nx ⟨rfl, hf, _, _, _, rfl⟩
    · rintro sl g' ⟨rfl, hf, a, b, c, rfl⟩
      rw [hrow] at hf
      cases hf
end Z

/-! K3 (k18): what is learnt. -/
namespace Z
open PySem PySem.W
/-! the tactics of this text (local): k_places evaluates what stands on the left; k_memK: what may be left open -/
local macro_rules | `(tactic| k_memK) => `(tactic| first
  | exact Nat.le_of_ble_eq_true rfl
  | assumption
  | (with_reducible apply side_le))
local macro_rules | `(tactic| k_places) => `(tactic| first
  | (with_reducible assumption)
  | (with_reducible exact ev_c)
  | ((with_reducible apply ev_var); rfl)
  | (with_reducible exact ea_nil)
  | (intro _; k_places)
  | ((with_reducible apply ea_cons) <;> k_places)
  | ((with_reducible apply ev_callU) <;> first | k_places | rfl)
  | ((with_reducible apply ev_tuple) <;> k_places)
  | ((with_reducible apply ev_tupleT) <;> k_places)
  | ((with_reducible apply ev_lenT) <;> k_places)
  | ((with_reducible apply ev_lenL) <;> k_places)
  | ((with_reducible apply ev_all) <;> k_places)
  | ((with_reducible apply ev_any) <;> k_places)
  | ((with_reducible apply ev_sortedL') <;> first | k_places | infer_instance | decide)
  | ((with_reducible apply ev_dB) <;> k_places)
  | ((with_reducible apply ev_truB) <;> k_places)
  | ((with_reducible apply ev_andV) <;> k_places)
  | ((with_reducible apply ev_orV) <;> k_places)
  | ((with_reducible apply ev_notV) <;> k_places)
  | ((with_reducible apply ev_and) <;> k_places)
  | ((with_reducible apply ev_or) <;> k_places)
  | ((with_reducible apply ev_not) <;> k_places)
  | ((with_reducible apply ev_chn) <;> k_places)
  | ((with_reducible apply ev_tup) <;> first | k_places | k_memK)
  | ((with_reducible apply ev_lst) <;> first | k_places | k_memK)
  | ((with_reducible apply ev_ix) <;> first | k_places | rfl)
  | ((with_reducible apply ev_ixL) <;> first | k_places | rfl)
  | ((with_reducible apply lc_evA) <;> first | k_places | (intro _ _; (apply lcY_ev rfl); k_places) | k_memK)
  | ((with_reducible apply lc_ev) <;> first | k_places | (intro _ _; (apply lcT_ev rfl) <;> k_places) | k_memK)
  | ((with_reducible apply ev_bin) <;> k_places)
  | ((with_reducible apply ev_un) <;> k_places)
  | ((with_reducible apply sr_tup) <;> k_places)
  | ((with_reducible apply sr_lst) <;> k_places)
  | ((with_reducible apply sr_rng1) <;> first | k_places | k_memK)
  | ((with_reducible apply op_cat) <;> k_memK)
  | ((with_reducible apply op_catT) <;> k_memK)
  | exact oi_add | exact oi_sub | exact oi_lt | exact oi_le | exact oi_gt | exact oi_ge | exact oi_neg
  | exact op_neT _ _ | exact op_neL _ _ | exact op_eqT _ _ | exact op_eqL _ _ | exact op_neT0 _ | exact op_eqT0 _
  | exact op_eq _ _ | exact op_ne _ _ | exact in_tup _ _ | exact in_lst _ _ | exact ni_tup _ _ | exact ni_lst _ _)
/-! ### a comprehension over an own list -/
theorem lcIx_live {α γ : Type} {e : α → T} {turn : T → M (List γ)} {G : α → List γ} {h : Hv} {n : Nat} {l : List α} (g : h[n]? = some (.lst (l.map e))) (H : ∀ x ∈ l, turn (e x) h = some (.ok (G x), h)) :
    ∀ (f i : Nat), l.length - i < f → lcIx (.live n) turn f i h = some (.ok ((l.drop i).flatMap G), h)
  | 0, i, hf => absurd hf (Nat.not_lt_zero _)
  | f + 1, i, hf => by
    by_cases hi : i < l.length
    · have e1 : (l.map e)[i]? = some (e l[i]) := by rw [List.getElem?_map, List.getElem?_eq_getElem hi]; rfl
      have ih := lcIx_live g H f (i + 1) (by omega)
      have h1 := H l[i] (List.getElem_mem hi)
      rw [List.drop_eq_getElem_cons hi, List.flatMap_cons]
      simp only [lcIx, srAt, g, e1, bnd, h1, ih, ret]
    · have e1 : (l.map e)[i]? = none := by rw [List.getElem?_eq_none_iff, List.length_map]; omega
      rw [List.drop_eq_nil_of_le (by omega)]
      simp only [lcIx, srAt, g, e1, List.flatMap_nil]
theorem lc_evO {α : Type} {e G : α → T} {l : List α} {vs : List Nat} {g : Tg} {d ds : D} {sl : Sl} {h : Hv} {n : Nat} (a : ds sl h = some (.ok (.ref n), h)) (gn : h[n]? = some (.lst (l.map e))) (H : ∀ x ∈ l, lcT g dYes d (wipS sl vs) (e x) h = some (.ok [G x], h)) (hl : l.length ≤ 90000) :
    dLc false vs (dSrc ds) g dYes d sl h = some (.ok (.lst (l.map G)), h) := by
  have lm : lim = 16000000 := rfl
  have fu : fuel = 100000 := rfl
  have e1 : dSrc ds sl h = some (.ok (.live n), h) := by simp only [dSrc, bnd, a, fSrc, gn]
  have e2 := lcIx_live (G := fun x => [G x]) gn H fuel 0 (by omega)
  unfold dLc
  simp only [bnd, e1, nox, lcS, e2, List.drop_zero]
  have e3 : ∀ l : List α, (l.flatMap fun x => [G x]) = l.map G := fun l => by
    induction l with
    | nil => rfl
    | cons x l ih => rw [List.flatMap_cons, ih]; rfl
  rw [e3]
  unfold lstR
  rw [if_pos (by rw [List.length_map]; omega)]
  rfl
/-! ### explains -/
abbrev Smp := List (List Int × List Int)
abbrev eFF : List Int × List Int → T := eP eF eF
def eS (S : Smp) : T := eT eFF S
def expB (x : Dd) (S : Smp) : Bool := S.all fun p => fitsB x.n x.b p.1 && decide (aft x p.1 = p.2)
def SOkS (m : Int) (S : Smp) : Prop := S.length ≤ 4096 ∧ ∀ p ∈ S, Row m p.1 ∧ Row m p.2
theorem ev_explains {h : Hv} (hk : HOk h) {m : Int} (hm : m ≤ 12) {x : Dd} (o : DdOk m x) {S : Smp} (s : SOkS m S) : d_explains [eDd x, eS S] h = some (.ok (.bl (expB x S)), h) := by
  have lm : lim = 16000000 := rfl
  have s1 := s.1
  refine def_val hk (ws_ret (ev_all (q := fun p : List Int × List Int => fitsB x.n x.b p.1 && decide (aft x p.1 = p.2)) (lc_evA (e := eFF) (l := S) (G := fun p => .bl (fitsB x.n x.b p.1 && decide (aft x p.1 = p.2))) (sr_tup (ev_var 1 rfl)) (fun p hp => lcY_ev rfl ?_) (by omega))) ⟨rfl, rfl⟩)
  obtain ⟨r1, r2⟩ := s.2 p hp
  exact ev_andV (ev_callU (ea_cons (ev_var 0 rfl) (ea_cons (ev_var 2 rfl) ea_nil)) (ev_can (row_lim o.n (by omega)) (row_lim o.b (by omega)) hk)) fun _ =>
    ev_bin (ev_callU (ea_cons (ev_var 0 rfl) (ea_cons (ev_var 2 rfl) ea_nil)) (ev_after hk hm o r1)) (ev_tupleT (ev_var 3 rfl)) (op_eq (e := eF) _ _)
/-! ### learnt -/
def lN (m : Int) (S : Smp) : List Int := (rgI m).filter fun f => S.all fun p => decide (f ∈ p.1)
def lB (m : Int) (S : Smp) : List Int := (rgI m).filter fun f => !(S.any fun p => decide (f ∈ p.1))
def lA (m : Int) (S : Smp) : List Int := (rgI m).filter fun f => S.any fun p => decide (f ∈ p.2) && !decide (f ∈ p.1)
def lD (m : Int) (S : Smp) : List Int := (rgI m).filter fun f => S.any fun p => decide (f ∈ p.1) && !decide (f ∈ p.2)
def lX (m : Int) (S : Smp) : Dd := ⟨lN m S, lB m S, lA m S, lD m S, 0⟩
def lOk (m : Int) (S : Smp) : Bool := !((lA m S).any fun f => decide (f ∈ lD m S)) && S.all fun p => decide (aft (lX m S) p.1 = p.2)
def e4 (x : Dd) : T := .tup [eF x.n, eF x.b, eF x.a, eF x.d]
theorem e4_low (x : Dd) (n : Nat) : (e4 x).low n = true := by
  have i : EO eF 1 := inferInstance
  show T.lows n [eF x.n, eF x.b, eF x.a, eF x.d] = true
  simp [T.lows, i.low]
def eLR (m : Int) (S : Smp) : T := if lOk m S then e4 (lX m S) else .non
theorem eLR_low (m : Int) (S : Smp) (n : Nat) : (eLR m S).low n = true := by
  unfold eLR
  split
  · exact e4_low _ n
  · rfl
theorem filt_row {m : Int} (h0 : 0 ≤ m) (q : Int → Bool) : Row m ((rgI m).filter q) := by
  have := rgI_row h0
  exact ⟨this.1.filter _, fun x hx => this.2 x (List.mem_filter.mp hx).1⟩
theorem lX_ok {m : Int} (h0 : 0 ≤ m) {S : Smp} (hS : S ≠ []) (hd : ((lA m S).any fun f => decide (f ∈ lD m S)) = false) : DdOk m (lX m S) := by
  refine ⟨filt_row h0 _, filt_row h0 _, filt_row h0 _, filt_row h0 _, fun f h1 h2 => ?_, fun f h1 h2 => ?_, Int.le_refl _, (by decide : (0 : Int) ≤ 99)⟩
  · obtain ⟨p, hp⟩ := List.exists_mem_of_ne_nil S hS
    have a := List.all_eq_true.mp (List.mem_filter.mp h1).2 p hp
    have b := (List.mem_filter.mp h2).2
    simp only [Bool.not_eq_true', List.any_eq_false] at b
    exact b p hp a
  · have := List.any_eq_false.mp hd f h1
    simp at this
    exact this h2
theorem rgI_len (m : Int) : (rgI m).length = m.toNat := by unfold rgI; simp
theorem ev_learnt {h : Hv} (hk : HOk h) {m : Int} (hm : 1 ≤ m ∧ m ≤ 12) {S : Smp} (hS : S ≠ []) (s : SOkS m S) : d_learnt [.int m, eS S] h = some (.ok (eLR m S), h) := by
  have lm : lim = 16000000 := rfl
  have s1 := s.1
  have src : ∀ {sl : Sl} {g : Hv}, sl[0]? = some (some (T.int m)) → dRng1 (dCons (dVar 0) dNil) sl g = some (.ok (.fix ((rgI m).map T.int)), g) := fun {sl g} e => (sr_rng1 (ev_var 0 e) (by unfold in62; exact decide_eq_true ⟨by omega, by omega⟩)).trans (by unfold rgI; simp)
  have lr : (rgI m).length ≤ lim := by rw [rgI_len]; omega
  have tru1 : ∀ {g : Hv}, fTru (eS S) g = some (.ok true, g) := fun {g} => by
    cases S with
    | nil => exact absurd rfl hS
    | cons p r => rfl
  refine def_val hk ?_ (fun n => eLR_low m S n)
  apply ws_skipS (k := false) (h1 := h)
  · exact ev_not (ev_tru (ev_var 1 rfl) tru1)
  · rfl
  refine ws_asgS (t := .lst ((lN m S).map T.int)) (h1 := h) ?_ rfl ?_
  · exact (lc_evt (e := T.int) (e' := T.int) (l := rgI m) (p := fun f => S.all fun p => decide (f ∈ p.1)) (G := fun f => f) (src rfl) (fun f hf => lcT_ev rfl (ev_truB (ev_all (q := fun p : List Int × List Int => decide (f ∈ p.1)) (lc_evA (e := eFF) (l := S) (G := fun p => .bl (decide (f ∈ p.1))) (sr_tup (ev_var 1 rfl)) (fun p hp => lcY_ev rfl (ev_bin (ev_var 7 rfl) (ev_var 8 rfl) (in_tup (e := T.int) f p.1))) (by omega)))) fun _ => ev_var 7 rfl) lr).trans (by rw [List.map_id']; rfl)
  refine ws_asgS (t := .lst ((lB m S).map T.int)) (h1 := h) ?_ rfl ?_
  · exact (lc_evt (e := T.int) (e' := T.int) (l := rgI m) (p := fun f => !(S.any fun p => decide (f ∈ p.1))) (G := fun f => f) (src rfl) (fun f hf => lcT_ev rfl (ev_not (ev_truB (ev_any (q := fun p : List Int × List Int => decide (f ∈ p.1)) (lc_evA (e := eFF) (l := S) (G := fun p => .bl (decide (f ∈ p.1))) (sr_tup (ev_var 1 rfl)) (fun p hp => lcY_ev rfl (ev_bin (ev_var 7 rfl) (ev_var 8 rfl) (in_tup (e := T.int) f p.1))) (by omega))))) fun _ => ev_var 7 rfl) lr).trans (by rw [List.map_id']; rfl)
  refine ws_asgS (t := .lst ((lA m S).map T.int)) (h1 := h) ?_ rfl ?_
  · exact (lc_evt (e := T.int) (e' := T.int) (l := rgI m) (p := fun f => S.any fun p => decide (f ∈ p.2) && !decide (f ∈ p.1)) (G := fun f => f) (src rfl) (fun f hf => lcT_ev rfl (ev_truB (ev_any (q := fun p : List Int × List Int => decide (f ∈ p.2) && !decide (f ∈ p.1)) (lc_evA (e := eFF) (l := S) (G := fun p => .bl (decide (f ∈ p.2) && !decide (f ∈ p.1))) (sr_tup (ev_var 1 rfl)) (fun p hp => lcY_ev rfl (ev_andV (ev_bin (ev_var 7 rfl) (ev_var 10 rfl) (in_tup (e := T.int) f p.2)) fun _ => ev_bin (ev_var 7 rfl) (ev_var 8 rfl) (ni_tup (e := T.int) f p.1))) (by omega)))) fun _ => ev_var 7 rfl) lr).trans (by rw [List.map_id']; rfl)
  refine ws_asgS (t := .lst ((lD m S).map T.int)) (h1 := h) ?_ rfl ?_
  · exact (lc_evt (e := T.int) (e' := T.int) (l := rgI m) (p := fun f => S.any fun p => decide (f ∈ p.1) && !decide (f ∈ p.2)) (G := fun f => f) (src rfl) (fun f hf => lcT_ev rfl (ev_truB (ev_any (q := fun p : List Int × List Int => decide (f ∈ p.1) && !decide (f ∈ p.2)) (lc_evA (e := eFF) (l := S) (G := fun p => .bl (decide (f ∈ p.1) && !decide (f ∈ p.2))) (sr_tup (ev_var 1 rfl)) (fun p hp => lcY_ev rfl (ev_andV (ev_bin (ev_var 7 rfl) (ev_var 8 rfl) (in_tup (e := T.int) f p.1)) fun _ => ev_bin (ev_var 7 rfl) (ev_var 10 rfl) (ni_tup (e := T.int) f p.2))) (by omega)))) fun _ => ev_var 7 rfl) lr).trans (by rw [List.map_id']; rfl)
  refine ws_asgS (t := eDd (lX m S)) (h1 := h) (ev_tup (ea_cons (ev_tuple (ev_var 2 rfl)) (ea_cons (ev_tuple (ev_var 3 rfl)) (ea_cons (ev_tuple (ev_var 4 rfl)) (ea_cons (ev_tuple (ev_var 5 rfl)) (ea_cons ev_c ea_nil)))))) rfl ?_
  have lA1 : (lA m S).length ≤ lim := by
    have := List.length_filter_le (fun f => S.any fun p => decide (f ∈ p.2) && !decide (f ∈ p.1)) (rgI m)
    exact Nat.le_trans this lr
  refine ws_ifS (k := !lOk m S) (h1 := h) ?_ (fun hc => ?_) (fun hc => ?_)
  · refine (ev_or (k := (lA m S).any fun f => decide (f ∈ lD m S)) (k2 := !(S.all fun p => decide (aft (lX m S) p.1 = p.2))) (ev_truB (ev_any (lc_evA (e := T.int) (l := lA m S) (G := fun f => .bl (decide (f ∈ lD m S))) (sr_lst (ev_var 4 rfl)) (fun f hf => lcY_ev rfl (ev_bin (ev_var 7 rfl) (ev_var 5 rfl) (in_lst (e := T.int) f _))) lA1))) fun hd => ?_).trans ?_
    · have ok := lX_ok (by omega) hS hd
      refine ev_not (ev_truB (ev_all (q := fun p : List Int × List Int => decide (aft (lX m S) p.1 = p.2)) (lc_evA (e := eFF) (l := S) (G := fun p => .bl (decide (aft (lX m S) p.1 = p.2))) (sr_tup (ev_var 1 rfl)) (fun p hp => lcY_ev rfl ?_) (by omega))))
      exact ev_bin (ev_callU (ea_cons (ev_var 6 rfl) (ea_cons (ev_var 8 rfl) ea_nil)) (ev_after hk hm.2 ok (s.2 p hp).1)) (ev_tupleT (ev_var 10 rfl)) (op_eq (e := eF) _ _)
    · unfold lOk
      cases ((lA m S).any fun f => decide (f ∈ lD m S)) <;> cases (S.all fun p => decide (aft (lX m S) p.1 = p.2)) <;> rfl
  · refine ws_ret ev_c ⟨?_, rfl⟩
    unfold eLR
    rw [if_neg (by simpa using hc)]
  · refine ws_nx (ws_ret (ev_sl (ev_var 6 rfl) rfl (ev_ps ev_c)) ⟨?_, rfl⟩)
    unfold eLR
    rw [if_pos (by simpa using hc)]
    rfl
/-- nothing seen is refused -/
theorem ex_learnt {h : Hv} {m : Int} : ∃ h', d_learnt [.int m, .tup []] h = some (.exc "InvalidPlan", h') ∧ h'.take h.length = h := by
  refine def_ex ?_
  refine ex_seqL (ex_if (k := true) (h1 := h) (ev_not (k := false) (ev_tru (ev_var 1 rfl) rfl)) (fun _ => ex_raise (by simp)) fun z => nomatch z)
end Z

/-! K4 (k18): all deeds of few facts; what they do. -/
namespace Z
open PySem PySem.W
/-! the tactics of this text (local): k_places evaluates what stands on the left; k_memK: what may be left open -/
local macro_rules | `(tactic| k_memK) => `(tactic| first
  | exact Nat.le_of_ble_eq_true rfl
  | assumption
  | (with_reducible apply side_le))
local macro_rules | `(tactic| k_places) => `(tactic| first
  | (with_reducible assumption)
  | (with_reducible exact ev_c)
  | ((with_reducible apply ev_var); rfl)
  | (with_reducible exact ea_nil)
  | (intro _; k_places)
  | ((with_reducible apply ea_cons) <;> k_places)
  | ((with_reducible apply ev_callU) <;> first | k_places | rfl)
  | ((with_reducible apply ev_tuple) <;> k_places)
  | ((with_reducible apply ev_tupleT) <;> k_places)
  | ((with_reducible apply ev_lenT) <;> k_places)
  | ((with_reducible apply ev_lenL) <;> k_places)
  | ((with_reducible apply ev_all) <;> k_places)
  | ((with_reducible apply ev_any) <;> k_places)
  | ((with_reducible apply ev_sortedL') <;> first | k_places | infer_instance | decide)
  | ((with_reducible apply ev_dB) <;> k_places)
  | ((with_reducible apply ev_truB) <;> k_places)
  | ((with_reducible apply ev_andV) <;> k_places)
  | ((with_reducible apply ev_orV) <;> k_places)
  | ((with_reducible apply ev_notV) <;> k_places)
  | ((with_reducible apply ev_and) <;> k_places)
  | ((with_reducible apply ev_or) <;> k_places)
  | ((with_reducible apply ev_not) <;> k_places)
  | ((with_reducible apply ev_chn) <;> k_places)
  | ((with_reducible apply ev_tup) <;> first | k_places | k_memK)
  | ((with_reducible apply ev_lst) <;> first | k_places | k_memK)
  | ((with_reducible apply ev_ix) <;> first | k_places | rfl)
  | ((with_reducible apply ev_ixL) <;> first | k_places | rfl)
  | ((with_reducible apply lc_evA) <;> first | k_places | (intro _ _; (apply lcY_ev rfl); k_places) | k_memK)
  | ((with_reducible apply lc_ev) <;> first | k_places | (intro _ _; (apply lcT_ev rfl) <;> k_places) | k_memK)
  | ((with_reducible apply ev_bin) <;> k_places)
  | ((with_reducible apply ev_un) <;> k_places)
  | ((with_reducible apply sr_tup) <;> k_places)
  | ((with_reducible apply sr_lst) <;> k_places)
  | ((with_reducible apply sr_rng1) <;> first | k_places | k_memK)
  | ((with_reducible apply op_cat) <;> k_memK)
  | ((with_reducible apply op_catT) <;> k_memK)
  | exact oi_add | exact oi_sub | exact oi_lt | exact oi_le | exact oi_gt | exact oi_ge | exact oi_neg
  | exact op_neT _ _ | exact op_neL _ _ | exact op_eqT _ _ | exact op_eqL _ _ | exact op_neT0 _ | exact op_eqT0 _
  | exact op_eq _ _ | exact op_ne _ _ | exact in_tup _ _ | exact in_lst _ _ | exact ni_tup _ _ | exact ni_lst _ _)
abbrev PLI := List Int × List Int
def th (p : PLI) (f : Int) : List PLI := [p, (p.1 ++ [f], p.2), (p.1, p.2 ++ [f])]
def stpD (f : Int) (x : Dd) : List Dd := (th (x.n, x.b) f).flatMap fun one => (th (x.a, x.d) f).map fun two => ⟨one.1, one.2, two.1, two.2, 0⟩
def deedsL : Nat → List Dd
  | 0 => [⟨[], [], [], [], 0⟩]
  | k + 1 => (deedsL k).flatMap (stpD (k : Int))
/-- a row with or without the next number -/
theorem row_split {k : Nat} {l : List Int} (r : Row ((k : Int) + 1) l) : (Row (k : Int) l ∧ (k : Int) ∉ l) ∨ ∃ a, l = a ++ [(k : Int)] ∧ Row (k : Int) a := by
  by_cases hn : (k : Int) ∈ l
  · right
    obtain ⟨a, b, rfl⟩ := List.append_of_mem hn
    have pw := List.pairwise_append.mp r.1
    have hb : b = [] := by
      cases b with
      | nil => rfl
      | cons y b =>
        have h1 := (List.pairwise_cons.mp pw.2.1).1 y (List.mem_cons_self ..)
        have h2 := (r.2 y (by simp)).2
        omega
    subst hb
    exact ⟨a, rfl, pw.1, fun x hx => ⟨(r.2 x (by simp [hx])).1, pw.2.2 x hx _ (by simp)⟩⟩
  · left
    refine ⟨⟨r.1, fun x hx => ?_⟩, hn⟩
    have := r.2 x hx
    have : x ≠ k := fun z => hn (z ▸ hx)
    omega
theorem row_grow {k : Nat} {l : List Int} (r : Row (k : Int) l) : Row ((k : Int) + 1) l := ⟨r.1, fun x hx => by have := r.2 x hx; omega⟩
theorem row_snoc {k : Nat} {l : List Int} (r : Row (k : Int) l) : Row ((k : Int) + 1) (l ++ [(k : Int)]) :=
  ⟨List.pairwise_append.mpr ⟨r.1, by simp, fun x hx y hy => by rw [List.mem_singleton.mp hy]; exact (r.2 x hx).2⟩, fun x hx => by
    rcases List.mem_append.mp hx with z | z
    · have := r.2 x z; omega
    · rw [List.mem_singleton.mp z]; omega⟩
theorem row_nok {k : Nat} {l : List Int} (r : Row (k : Int) l) : (k : Int) ∉ l := fun z => by have := (r.2 _ z).2; omega
/-- two rows that stay apart -/
def Ap (k : Int) (p : PLI) : Prop := Row k p.1 ∧ Row k p.2 ∧ ∀ f ∈ p.1, f ∉ p.2
theorem th_iff {k : Nat} {p : PLI} : Ap ((k : Int) + 1) p ↔ ∃ q, Ap (k : Int) q ∧ p ∈ th q (k : Int) := by
  obtain ⟨a, b⟩ := p
  constructor
  · rintro ⟨h1, h2, h3⟩
    rcases row_split h1 with ⟨r1, n1⟩ | ⟨a', rfl, r1⟩
    · rcases row_split h2 with ⟨r2, n2⟩ | ⟨b', rfl, r2⟩
      · exact ⟨(a, b), ⟨r1, r2, h3⟩, by simp [th]⟩
      · exact ⟨(a, b'), ⟨r1, r2, fun f hf z => h3 f hf (by simp [z])⟩, by simp [th]⟩
    · rcases row_split h2 with ⟨r2, n2⟩ | ⟨b', rfl, r2⟩
      · exact ⟨(a', b), ⟨r1, r2, fun f hf z => h3 f (by simp [hf]) z⟩, by simp [th]⟩
      · exact absurd (show (k : Int) ∈ b' ++ [(k : Int)] by simp) (h3 _ (by simp))
  · rintro ⟨⟨a', b'⟩, ⟨h1, h2, h3⟩, hm⟩
    simp only [th, List.mem_cons, List.not_mem_nil, or_false, Prod.mk.injEq] at hm
    rcases hm with ⟨rfl, rfl⟩ | ⟨rfl, rfl⟩ | ⟨rfl, rfl⟩
    · exact ⟨row_grow h1, row_grow h2, h3⟩
    · refine ⟨row_snoc h1, row_grow h2, fun f hf => ?_⟩
      rcases List.mem_append.mp hf with z | z
      · exact h3 f z
      · rw [List.mem_singleton.mp z]; exact row_nok h2
    · refine ⟨row_grow h1, row_snoc h2, fun f hf z => ?_⟩
      rcases List.mem_append.mp z with z | z
      · exact h3 f hf z
      · rw [List.mem_singleton.mp z] at hf; exact row_nok h1 hf
theorem mem_deedsL : ∀ {k : Nat} {x : Dd}, x ∈ deedsL k ↔ Ap (k : Int) (x.n, x.b) ∧ Ap (k : Int) (x.a, x.d) ∧ x.c = 0
  | 0, x => by
    have e : ∀ l : List Int, Row 0 l → l = [] := fun l r => by
      cases l with
      | nil => rfl
      | cons y l => have := r.2 y (List.mem_cons_self ..); omega
    constructor
    · intro h
      rw [show x = ⟨[], [], [], [], 0⟩ by simpa [deedsL] using h]
      have r0 : Row 0 [] := ⟨List.Pairwise.nil, fun f hf => nomatch hf⟩
      exact ⟨⟨r0, r0, fun f hf => nomatch hf⟩, ⟨r0, r0, fun f hf => nomatch hf⟩, rfl⟩
    · rintro ⟨⟨h1, h2, _⟩, ⟨h3, h4, _⟩, h5⟩
      obtain ⟨n, b, a, d, c⟩ := x
      simp only at h1 h2 h3 h4 h5
      rw [e _ h1, e _ h2, e _ h3, e _ h4, h5]
      simp [deedsL]
  | k + 1, x => by
    have ih := fun y => @mem_deedsL k y
    have ck : (((k + 1 : Nat) : Int)) = (k : Int) + 1 := by omega
    rw [ck, th_iff, th_iff]
    constructor
    · intro h
      obtain ⟨y, hy, hx⟩ := List.mem_flatMap.mp h
      obtain ⟨one, h1, h2⟩ := List.mem_flatMap.mp hx
      obtain ⟨two, h3, rfl⟩ := List.mem_map.mp h2
      obtain ⟨a1, a2, a3⟩ := (ih y).mp hy
      exact ⟨⟨_, a1, h1⟩, ⟨_, a2, h3⟩, rfl⟩
    · rintro ⟨⟨q1, a1, m1⟩, ⟨q2, a2, m2⟩, h5⟩
      refine List.mem_flatMap.mpr ⟨⟨q1.1, q1.2, q2.1, q2.2, 0⟩, (ih _).mpr ⟨a1, a2, rfl⟩, List.mem_flatMap.mpr ⟨_, m1, List.mem_map.mpr ⟨_, m2, ?_⟩⟩⟩
      obtain ⟨n, b, a, d, c⟩ := x
      simp only at h5
      subst h5
      rfl
theorem deedsL_ok {k : Nat} {x : Dd} (h : x ∈ deedsL k) : DdOk (k : Int) x := by
  obtain ⟨a1, a2, a3⟩ := mem_deedsL.mp h
  exact ⟨a1.1, a1.2.1, a2.1, a2.2.1, a1.2.2, a2.2.2, by rw [a3]; decide⟩
theorem of_deedsL {k : Nat} {x : Dd} (o : DdOk (k : Int) x) (h : x.c = 0) : x ∈ deedsL k := mem_deedsL.mpr ⟨⟨o.n, o.b, o.nb⟩, ⟨o.a, o.d, o.ad⟩, h⟩
theorem deedsL_len : ∀ k, (deedsL k).length = 9 ^ k
  | 0 => rfl
  | k + 1 => by
    have : ∀ l : List Dd, (l.flatMap (stpD (k : Int))).length = l.length * 9 := fun l => by
      induction l with
      | nil => rfl
      | cons x l ih => rw [List.flatMap_cons, List.length_append, ih, List.length_cons, show (stpD (k : Int) x).length = 9 from rfl]; omega
    rw [deedsL, this, deedsL_len k, Nat.pow_succ]
/-! ### what is learnt is right -/
theorem aft_iff {m : Int} (hm : m ≤ 12) {x : Dd} (o : DdOk m x) {p : List Int × List Int} (r1 : Row m p.1) (r2 : Row m p.2) : aft x p.1 = p.2 ↔ ∀ f, f ∈ p.2 ↔ f ∈ x.a ∨ (f ∈ p.1 ∧ f ∉ x.d) := by
  constructor
  · intro e f
    rw [← e]
    exact mem_aft hm r1 o
  · intro h
    exact (row_ext (aft_lt x p.1) r2.1 fun f => (h f).trans (mem_aft hm r1 o).symm).symm
theorem mem_l {m : Int} {q : Int → Bool} {f : Int} : f ∈ (rgI m).filter q ↔ (0 ≤ f ∧ f < m) ∧ q f = true := by
  rw [List.mem_filter]
  refine and_congr_left fun _ => ?_
  unfold rgI
  constructor
  · intro h
    obtain ⟨k, hk, rfl⟩ := List.mem_map.mp h
    have := List.mem_range.mp hk
    omega
  · rintro ⟨h1, h2⟩
    exact List.mem_map.mpr ⟨f.toNat, by simp; omega, by omega⟩
section
variable {m : Int} {S : Smp}
theorem expB_iff {x : Dd} : expB x S = true ↔ ∀ p ∈ S, fitsB x.n x.b p.1 = true ∧ aft x p.1 = p.2 := by
  unfold expB
  rw [List.all_eq_true]
  constructor
  · intro h p hp
    simpa using h p hp
  · intro h p hp
    simpa using h p hp
theorem mem_lA (s : SOkS m S) {f : Int} : f ∈ lA m S ↔ ∃ p ∈ S, f ∈ p.2 ∧ f ∉ p.1 := by
  unfold lA
  rw [mem_l, List.any_eq_true]
  constructor
  · rintro ⟨_, p, hp, h⟩
    exact ⟨p, hp, by simpa using h⟩
  · rintro ⟨p, hp, h⟩
    exact ⟨(s.2 p hp).2.2 f h.1, p, hp, by simpa using h⟩
theorem mem_lD (s : SOkS m S) {f : Int} : f ∈ lD m S ↔ ∃ p ∈ S, f ∈ p.1 ∧ f ∉ p.2 := by
  unfold lD
  rw [mem_l, List.any_eq_true]
  constructor
  · rintro ⟨_, p, hp, h⟩
    exact ⟨p, hp, by simpa using h⟩
  · rintro ⟨p, hp, h⟩
    exact ⟨(s.2 p hp).1.2 f h.1, p, hp, by simpa using h⟩
theorem lX_fits : ∀ p ∈ S, fitsB (lN m S) (lB m S) p.1 = true := fun p hp => by
  refine fits_iff.mpr ⟨fun f hf => ?_, fun f hf z => ?_⟩
  · have := List.all_eq_true.mp (mem_l.mp hf).2 p hp
    simpa using this
  · have := (mem_l.mp hf).2
    simp only [Bool.not_eq_true', List.any_eq_false] at this
    exact this p hp (by simpa using z)
/-- a deed that does all of them: what is learnt does them, too, and is the most and the least -/
theorem learnt_of (hm : 0 ≤ m ∧ m ≤ 12) (s : SOkS m S) (hS : S ≠ []) {x : Dd} (o : DdOk m x) (e : expB x S = true) : lOk m S = true ∧ (∀ f ∈ x.n, f ∈ lN m S) ∧ (∀ f ∈ x.b, f ∈ lB m S) ∧ (∀ f ∈ lA m S, f ∈ x.a) ∧ ∀ f ∈ lD m S, f ∈ x.d := by
  have h := expB_iff.mp e
  have ha : ∀ p ∈ S, ∀ f, f ∈ p.2 ↔ f ∈ x.a ∨ (f ∈ p.1 ∧ f ∉ x.d) := fun p hp => (aft_iff hm.2 o (s.2 p hp).1 (s.2 p hp).2).mp (h p hp).2
  have hA : ∀ f ∈ lA m S, f ∈ x.a := fun f hf => by
    obtain ⟨p, hp, h1, h2⟩ := (mem_lA s).mp hf
    rcases (ha p hp f).mp h1 with z | z
    · exact z
    · exact absurd z.1 h2
  have hD : ∀ f ∈ lD m S, f ∈ x.d ∧ f ∉ x.a := fun f hf => by
    obtain ⟨p, hp, h1, h2⟩ := (mem_lD s).mp hf
    have n1 : f ∉ x.a := fun z => h2 ((ha p hp f).mpr (.inl z))
    refine ⟨?_, n1⟩
    by_cases z : f ∈ x.d
    · exact z
    · exact absurd ((ha p hp f).mpr (.inr ⟨h1, z⟩)) h2
  have hdis : ((lA m S).any fun f => decide (f ∈ lD m S)) = false := by
    rw [List.any_eq_false]
    intro f hf z
    have z : f ∈ lD m S := by simpa using z
    exact (hD f z).2 (hA f hf)
  have oX := lX_ok hm.1 hS hdis
  refine ⟨?_, fun f hf => ?_, fun f hf => ?_, hA, fun f hf => (hD f hf).1⟩
  · unfold lOk
    rw [hdis, Bool.not_false, Bool.true_and, List.all_eq_true]
    intro p hp
    refine decide_eq_true ((aft_iff hm.2 oX (s.2 p hp).1 (s.2 p hp).2).mpr fun f => ⟨fun h1 => ?_, fun h1 => ?_⟩)
    · by_cases z : f ∈ p.1
      · refine .inr ⟨z, fun w => ?_⟩
        obtain ⟨w1, w2⟩ := hD f w
        rcases (ha p hp f).mp h1 with q | q
        · exact w2 q
        · exact q.2 w1
      · exact .inl ((mem_lA s).mpr ⟨p, hp, h1, z⟩)
    · rcases h1 with z | ⟨z1, z2⟩
      · exact (ha p hp f).mpr (.inl (hA f z))
      · by_cases z : f ∈ p.2
        · exact z
        · exact absurd ((mem_lD s).mpr ⟨p, hp, z1, z⟩) z2
  · refine mem_l.mpr ⟨o.n.2 f hf, List.all_eq_true.mpr fun p hp => ?_⟩
    have := (fits_iff.mp (h p hp).1).1 f hf
    simpa using this
  · refine mem_l.mpr ⟨o.b.2 f hf, ?_⟩
    simp only [Bool.not_eq_true', List.any_eq_false]
    intro p hp z
    exact (fits_iff.mp (h p hp).1).2 f hf (by simpa using z)
theorem lX_exp (hm : 0 ≤ m) (hS : S ≠ []) (h : lOk m S = true) : DdOk m (lX m S) ∧ expB (lX m S) S = true := by
  unfold lOk at h
  rw [Bool.and_eq_true] at h
  have hd : ((lA m S).any fun f => decide (f ∈ lD m S)) = false := by simpa using h.1
  refine ⟨lX_ok hm hS hd, expB_iff.mpr fun p hp => ⟨lX_fits p hp, ?_⟩⟩
  have := List.all_eq_true.mp h.2 p hp
  simpa using this
end
/-! ### the law's deeds -/
theorem e4_map (l : List Dd) : (l.map fun x => e4 x) = l.map e4 := rfl
theorem ev_law_deeds {h : Hv} (hk : HOk h) {n : Nat} (hn : n ≤ 4) : d__law_deeds [.int n] h = some (.ok (.lst ((deedsL n).map e4)), h) := by
  have lm : lim = 16000000 := rfl
  have p9 : ∀ k, k ≤ 4 → 9 ^ k ≤ 6561 := fun k hk => Nat.le_trans (Nat.pow_le_pow_right (by omega) hk) (by decide)
  refine def_val hk ?_ (fun k => lows_map _ (fun x => e4_low x k) _)
  refine ws_asgS (t := .lst ((deedsL 0).map e4)) (h1 := h) (ev_lst (ea_cons (ev_tup (ea_cons (ev_tup ea_nil) (ea_cons (ev_tup ea_nil) (ea_cons (ev_tup ea_nil) (ea_cons (ev_tup ea_nil) ea_nil))))) ea_nil)) rfl ?_
  refine ws_seq (ws_for (e := fun k : Nat => T.int k) (List.range n) (fun r sl g => g = h ∧ ∃ (k : Nat) (v2 v3 v4 v5 v6 v7 v8 v9 : Option T), k ≤ n ∧ r = (List.range n).drop k ∧ sl = [some (.int n), some (.lst ((deedsL k).map e4)), v2, v3, v4, v5, v6, v7, v8, v9]) (sr_rngN (ev_var 0 rfl) (by omega)) ⟨rfl, 0, _, _, _, _, _, _, _, _, by omega, by simp, rfl⟩ ?_ ?_)
  · rintro x r sl g ⟨rfl, k, v2, v3, v4, v5, v6, v7, v8, v9, hk', hr, rfl⟩
    have hlt : k < n := by
      rcases Nat.lt_or_ge k n with z | z
      · exact z
      · rw [List.drop_eq_nil_of_le (by simpa using z)] at hr
        cases hr
    have hd : (List.range n).drop k = k :: (List.range n).drop (k + 1) := by
      rw [List.drop_eq_getElem_cons (by simpa using hlt)]
      simp
    rw [hd] at hr
    obtain ⟨rfl, rfl⟩ := List.cons.inj hr
    have hl9 := p9 (x + 1) (by omega)
    have hlk := deedsL_len (x + 1)
    refine ⟨_, rfl, ?_⟩
    refine ws_asgS (t := .lst (([] : List Dd).map e4)) (h1 := g) (ev_lst ea_nil) rfl ?_
    refine ws_seq (ws_for (e := e4) (deedsL x) (fun q sl g' => g' = g ∧ (∀ y ∈ q, y ∈ deedsL x) ∧ ∃ (done : List Dd) (v4 v5 v6 v7 v8 v9 : Option T), done ++ q.flatMap (stpD (x : Int)) = deedsL (x + 1) ∧ sl = [some (.int n), some (.lst ((deedsL x).map e4)), some (.int x), some (.lst (done.map e4)), v4, v5, v6, v7, v8, v9])
      (sr_lst (ev_var 1 rfl)) ⟨rfl, fun y hy => hy, [], _, _, _, _, _, _, rfl, rfl⟩ ?_ ?_)
    · rintro y q sl g' ⟨rfl, hq, done, v4, v5, v6, v7, v8, v9, hdone, rfl⟩
      have oy := deedsL_ok (hq y (List.mem_cons_self ..))
      have l1 := row_len oy.n
      have l2 := row_len oy.b
      have l3 := row_len oy.a
      have l4 := row_len oy.d
      have ldone : done.length + 9 ≤ 6561 := by
        have := congrArg List.length hdone
        rw [List.length_append, List.flatMap_cons, List.length_append, show (stpD (x : Int) y).length = 9 from rfl, hlk] at this
        omega
      have addK : ∀ {l : List Int}, l.length ≤ ((x : Int)).toNat → ∀ {g : Hv}, fAdd (eF l) (.tup [.int (x : Int)]) g = some (.ok (eF (l ++ [(x : Int)])), g) := fun {l} hl {g} => op_catT (e := T.int) (ys := [(x : Int)]) (by simp only [List.length_cons, List.length_nil]; omega)
      refine ⟨_, rfl, ?_⟩
      refine ws_for (e := eFF) (th (y.n, y.b) (x : Int)) (fun ones sl g2 => g2 = g' ∧ ones.length ≤ 3 ∧ ∃ (done2 : List Dd) (v8 v9 : Option T), done2 ++ (ones.flatMap fun one => (th (y.a, y.d) (x : Int)).map fun two => (⟨one.1, one.2, two.1, two.2, 0⟩ : Dd)) = done ++ stpD (x : Int) y ∧ sl = [some (.int n), some (.lst ((deedsL x).map e4)), some (.int x), some (.lst (done2.map e4)), some (eF y.n), some (eF y.b), some (eF y.a), some (eF y.d), v8, v9])
        (sr_tup (ev_tup (ea_cons (ev_tup (ea_cons (ev_var 4 rfl) (ea_cons (ev_var 5 rfl) ea_nil))) (ea_cons (ev_tup (ea_cons (ev_bin (ev_var 4 rfl) (ev_tup (ea_cons (ev_var 2 rfl) ea_nil)) (addK l1)) (ea_cons (ev_var 5 rfl) ea_nil))) (ea_cons (ev_tup (ea_cons (ev_var 4 rfl) (ea_cons (ev_bin (ev_var 5 rfl) (ev_tup (ea_cons (ev_var 2 rfl) ea_nil)) (addK l2)) ea_nil))) ea_nil)))))
        ⟨rfl, by simp [th], done, _, _, rfl, rfl⟩ ?_ ?_
      · rintro ⟨o1, o2⟩ ones sl g2 ⟨rfl, hones, done2, v8, v9, hd2, rfl⟩
        have ld2 : done2.length + 3 ≤ 6561 := by
          have := congrArg List.length hd2
          rw [List.length_append, List.flatMap_cons, List.length_append, List.length_append, List.length_map, show (th (y.a, y.d) (x : Int)).length = 3 from rfl, show (stpD (x : Int) y).length = 9 from rfl] at this
          omega
        refine ⟨_, rfl, ws_asg (t := .lst ((done2 ++ (th (y.a, y.d) (x : Int)).map fun two => (⟨o1, o2, two.1, two.2, 0⟩ : Dd)).map e4)) (ev_bin (ev_var 3 rfl) (lc_evA (e := eFF) (l := th (y.a, y.d) (x : Int)) (G := fun two => e4 ⟨o1, o2, two.1, two.2, 0⟩)
          (sr_tup (ev_tup (ea_cons (ev_tup (ea_cons (ev_var 6 rfl) (ea_cons (ev_var 7 rfl) ea_nil))) (ea_cons (ev_tup (ea_cons (ev_bin (ev_var 6 rfl) (ev_tup (ea_cons (ev_var 2 rfl) ea_nil)) (addK l3)) (ea_cons (ev_var 7 rfl) ea_nil))) (ea_cons (ev_tup (ea_cons (ev_var 6 rfl) (ea_cons (ev_bin (ev_var 7 rfl) (ev_tup (ea_cons (ev_var 2 rfl) ea_nil)) (addK l4)) ea_nil))) ea_nil)))))
          (fun two _ => lcY_ev rfl (ev_bin (ev_var 8 rfl) (ev_var 9 rfl) ?_)) (by simp [th, lim])) ((ev_addL (by rw [List.length_map, List.length_map, show (th (y.a, y.d) (x : Int)).length = 3 from rfl]; omega)).trans (by rw [List.map_append, List.map_map]; rfl))) rfl ⟨rfl, by simp only [List.length_cons] at hones; omega, _, _, _, ?_, rfl⟩⟩
        · show fAdd (.tup [eF o1, eF o2]) (.tup [eF two.1, eF two.2]) g2 = _
          simp [fAdd, ret, e4, lim]
        · rw [List.append_assoc]
          exact hd2
      · rintro sl g2 ⟨rfl, _, done2, v8, v9, hd2, rfl⟩
        refine ⟨rfl, fun z hz => hq z (List.mem_cons_of_mem _ hz), done2, _, _, _, _, _, _, ?_, rfl⟩
        rw [List.flatMap_nil, List.append_nil] at hd2
        rw [hd2, List.append_assoc]
        exact hdone
    · rintro sl g' ⟨rfl, _, done, v4, v5, v6, v7, v8, v9, hdone, rfl⟩
      rw [List.flatMap_nil, List.append_nil] at hdone
      subst hdone
      exact ws_asg (ev_var 3 rfl) rfl ⟨rfl, x + 1, _, _, _, _, _, _, _, _, hlt, rfl, rfl⟩
  · rintro sl g ⟨rfl, k, v2, v3, v4, v5, v6, v7, v8, v9, hk', hr, rfl⟩
    have hkn : k = n := by
      have := congrArg List.length hr
      simp at this
      omega
    subst hkn
    exact ws_ret (ev_var 1 rfl) ⟨rfl, rfl⟩
end Z

/-! K5 (k18): the law, from what is learnt on. -/
namespace Z
open PySem PySem.W
/-! the tactics of this text (local): k_places evaluates what stands on the left; k_memK: what may be left open -/
local macro_rules | `(tactic| k_memK) => `(tactic| first
  | exact Nat.le_of_ble_eq_true rfl
  | assumption
  | (with_reducible apply side_le))
local macro_rules | `(tactic| k_places) => `(tactic| first
  | (with_reducible assumption)
  | (with_reducible exact ev_c)
  | ((with_reducible apply ev_var); rfl)
  | (with_reducible exact ea_nil)
  | (intro _; k_places)
  | ((with_reducible apply ea_cons) <;> k_places)
  | ((with_reducible apply ev_callU) <;> first | k_places | rfl)
  | ((with_reducible apply ev_tuple) <;> k_places)
  | ((with_reducible apply ev_tupleT) <;> k_places)
  | ((with_reducible apply ev_lenT) <;> k_places)
  | ((with_reducible apply ev_lenL) <;> k_places)
  | ((with_reducible apply ev_all) <;> k_places)
  | ((with_reducible apply ev_any) <;> k_places)
  | ((with_reducible apply ev_sortedL') <;> first | k_places | infer_instance | decide)
  | ((with_reducible apply ev_dB) <;> k_places)
  | ((with_reducible apply ev_truB) <;> k_places)
  | ((with_reducible apply ev_andV) <;> k_places)
  | ((with_reducible apply ev_orV) <;> k_places)
  | ((with_reducible apply ev_notV) <;> k_places)
  | ((with_reducible apply ev_and) <;> k_places)
  | ((with_reducible apply ev_or) <;> k_places)
  | ((with_reducible apply ev_not) <;> k_places)
  | ((with_reducible apply ev_chn) <;> k_places)
  | ((with_reducible apply ev_tup) <;> first | k_places | k_memK)
  | ((with_reducible apply ev_lst) <;> first | k_places | k_memK)
  | ((with_reducible apply ev_ix) <;> first | k_places | rfl)
  | ((with_reducible apply ev_ixL) <;> first | k_places | rfl)
  | ((with_reducible apply lc_evA) <;> first | k_places | (intro _ _; (apply lcY_ev rfl); k_places) | k_memK)
  | ((with_reducible apply lc_ev) <;> first | k_places | (intro _ _; (apply lcT_ev rfl) <;> k_places) | k_memK)
  | ((with_reducible apply ev_bin) <;> k_places)
  | ((with_reducible apply ev_un) <;> k_places)
  | ((with_reducible apply sr_tup) <;> k_places)
  | ((with_reducible apply sr_lst) <;> k_places)
  | ((with_reducible apply sr_rng1) <;> first | k_places | k_memK)
  | ((with_reducible apply op_cat) <;> k_memK)
  | ((with_reducible apply op_catT) <;> k_memK)
  | exact oi_add | exact oi_sub | exact oi_lt | exact oi_le | exact oi_gt | exact oi_ge | exact oi_neg
  | exact op_neT _ _ | exact op_neL _ _ | exact op_eqT _ _ | exact op_eqL _ _ | exact op_neT0 _ | exact op_eqT0 _
  | exact op_eq _ _ | exact op_ne _ _ | exact in_tup _ _ | exact in_lst _ _ | exact ni_tup _ _ | exact ni_lst _ _)
def PoT : Po := ⟨fun _ _ => False, fun _ _ => False, fun _ _ => False, fun t _ => t = .bl true⟩
theorem cutT_map {α β : Type} (f : α → β) (l : List α) (lo hi : Option Int) : cutT (l.map f) lo hi = (cutT l lo hi).map f := by
  unfold cutT
  rw [List.length_map, List.map_take, List.map_drop]
theorem cutT_mem {α : Type} {l : List α} {lo hi : Option Int} {x : α} (h : x ∈ cutT l lo hi) : x ∈ l := List.mem_of_mem_drop (List.mem_of_mem_take h)
theorem ev_slL {sl : Sl} {h h1 h2 h3 : Hv} {d : D} {dl dh : DO} {xs : List T} {lo hi : Option Int} (a : d sl h = some (.ok (.lst xs), h1)) (b : dl sl h1 = some (.ok lo, h2)) (c : dh sl h2 = some (.ok hi, h3)) : dSl d dl dh sl h = some (.ok (.lst (cutT xs lo hi)), h3) := by simp only [dSl, bnd, a, b, c, fSl, dr]
theorem ev_tupleO {sl : Sl} {h : Hv} {d : D} {n : Nat} {xs : List T} (a : d sl h = some (.ok (.ref n), h)) (g : h[n]? = some (.lst xs)) : dCall fTuple (dCons d dNil) sl h = some (.ok (.tup xs), h) := ev_call (ea_cons a ea_nil) (by simp only [fTuple, dr, g])
theorem add4 {x : Dd} (hc : x.c = 0) {h : Hv} : fAdd (e4 x) (.tup [.int 0]) h = some (.ok (eDd x), h) := by
  show fAdd (.tup [eF x.n, eF x.b, eF x.a, eF x.d]) (.tup [.int 0]) h = _
  unfold eDd
  rw [hc]
  simp [fAdd, ret, lim]
theorem isn_LR {m : Int} {S : Smp} {h : Hv} : fIs (eLR m S) .non h = some (.ok (.bl (!lOk m S)), h) := by
  unfold eLR
  cases lOk m S <;> rfl
theorem notn_LR {m : Int} {S : Smp} {h : Hv} : fNot (eLR m S) .non h = some (.ok (.bl (lOk m S)), h) := by
  unfold eLR
  cases lOk m S <;> rfl
/-- what the law asks of a deed and the samples -/
theorem ev_asks {sl : Sl} {h : Hv} {i : Nat} {x : Dd} {S : Smp} {n : Nat} (hk : HOk h) (l1 : x.n.length ≤ lim) (l2 : x.b.length ≤ lim) (lS : S.length ≤ 4096) (e13 : sl[13]? = some (some (.ref n))) (g : h[n]? = some (.lst (S.map eFF)))
    (H : ∀ p : List Int × List Int, ∃ sl1, setTg (.tup [.nm 25, .nm 26]) (eFF p) (wipS sl [25, 26]) = some sl1 ∧ sl1[i]? = some (some (eDd x)) ∧ sl1[25]? = some (some (eF p.1)) ∧ sl1[26]? = some (some (eF p.2))) :
    dCall fAll (dCons (dLc false [25, 26] (dSrc (dVar 13)) (.tup [.nm 25, .nm 26]) dYes (dAndV (dCall (fun ts => if ts.length = 2 then d__law_fits ts else bot) (dCons (dVar i) (dCons (dVar 25) dNil))) (dBin fEq (dCall (fun ts => if ts.length = 2 then d__law_after ts else bot) (dCons (dVar i) (dCons (dVar 25) dNil))) (dVar 26)))) dNil) sl h = some (.ok (.bl (expB x S)), h) := by
  refine ev_all (q := fun p : List Int × List Int => fitsB x.n x.b p.1 && decide (aft x p.1 = p.2)) (lc_evO (e := eFF) (l := S) (G := fun p => .bl (fitsB x.n x.b p.1 && decide (aft x p.1 = p.2))) (ev_var 13 e13) g (fun p hp => ?_) (by omega))
  obtain ⟨sl1, a, b1, b2, b3⟩ := H p
  exact lcY_ev a (ev_andV (ev_callU (ea_cons (ev_var i b1) (ea_cons (ev_var 25 b2) ea_nil)) (ev_fits_core l1 l2 hk)) fun _ => ev_bin (ev_callU (ea_cons (ev_var i b1) (ea_cons (ev_var 25 b2) ea_nil)) (ev_law_after hk)) (ev_var 26 b3) (op_eq (e := eF) _ _))
theorem law_e {g : Hv} (hk : HOk g) {n : Nat} (hn : 1 ≤ n ∧ n ≤ 4) {x : Dd} (ox : DdOk (n : Int) x) {S : Smp} (hS : S ≠ []) (s : SOkS (n : Int) S) (g3 : g[3]? = some (.lst (S.map eFF))) {a0 a1 a2 a3 a4 a5 a6 a7 a8 a9 a10 a14 a15 a16 a17 a18 a19 a20 a21 a22 a23 a24 a25 a26 : Option T} :
    WS (t_law_17 [a0, a1, a2, a3, a4, a5, a6, a7, a8, a9, a10, some (.int n), some (eDd x), some (.ref 3), a14, a15, a16, a17, a18, a19, a20, a21, a22, a23, a24, a25, a26] g) PoT := by
  have lm : lim = 16000000 := rfl
  have hm : (1 : Int) ≤ n ∧ (n : Int) ≤ 12 := by omega
  have p9 : (deedsL n).length ≤ 6561 := by
    rw [deedsL_len]
    exact Nat.le_trans (Nat.pow_le_pow_right (by omega) hn.2) (by decide)
  have lS := s.1
  have lims : ∀ {y : Dd}, DdOk (n : Int) y → y.n.length ≤ lim ∧ y.b.length ≤ lim := fun o => ⟨row_lim o.n (by omega), row_lim o.b (by omega)⟩
  obtain ⟨lx1, lx2⟩ := lims ox
  have hgood : ∀ y ∈ (deedsL n).filter fun y => expB y S, DdOk (n : Int) y ∧ expB y S = true := fun y hy => ⟨deedsL_ok (List.mem_filter.mp hy).1, (List.mem_filter.mp hy).2⟩
  have hlX : lOk (n : Int) S = true → lX (n : Int) S ∈ (deedsL n).filter fun y => expB y S := fun h => by
    obtain ⟨o, e⟩ := lX_exp (m := (n : Int)) (by omega) hS h
    exact List.mem_filter.mpr ⟨of_deedsL o rfl, e⟩
  have hiff : lOk (n : Int) S = !decide ((((deedsL n).filter fun y => expB y S).length : Int) = 0) := by
    cases q : lOk (n : Int) S with
    | true =>
      have := List.length_pos_of_mem (hlX q)
      symm
      simp only [Bool.not_eq_true', decide_eq_false_iff_not]
      omega
    | false =>
      have : (deedsL n).filter (fun y => expB y S) = [] := by
        cases e : (deedsL n).filter (fun y => expB y S) with
        | nil => rfl
        | cons y r =>
          obtain ⟨o, e2⟩ := hgood y (by rw [e]; exact List.mem_cons_self ..)
          rw [(learnt_of ⟨by omega, hm.2⟩ s hS o e2).1] at q
          cases q
      rw [this]
      rfl
  refine ws_asgS (t := eLR (n : Int) S) (h1 := g) (ev_callU (ea_cons (ev_var 11 rfl) (ea_cons (ev_tupleO (ev_var 13 rfl) g3) ea_nil)) (ev_learnt hk hm hS s)) rfl ?_
  refine ws_asgS (t := .lst ((deedsL n).map eDd)) (h1 := g) (lc_evA (e := e4) (l := deedsL n) (G := eDd) (sr_lst (ev_callU (ea_cons (ev_var 11 rfl) ea_nil) (ev_law_deeds hk hn.2))) (fun y hy => lcY_ev rfl (ev_bin (ev_var 18 rfl) (ev_tup (ea_cons ev_c ea_nil)) (add4 (mem_deedsL.mp hy).2.2))) (by omega)) rfl ?_
  refine ws_asgS (t := .lst (((deedsL n).filter fun y => expB y S).map eDd)) (h1 := g) (lc_ev (e := eDd) (l := deedsL n) (p := fun y => expB y S) (G := eDd) (sr_lst (ev_var 16 rfl)) (fun y hy => lcT_ev rfl (ev_truB (ev_asks hk (lims (deedsL_ok hy)).1 (lims (deedsL_ok hy)).2 lS rfl g3 fun p => ⟨_, rfl, rfl, rfl, rfl⟩)) fun _ => ev_var 18 rfl) (by omega)) rfl ?_
  have elen := fun a b c d e f => ev_lenL (l := ((deedsL n).filter fun y => expB y S).map eDd) (ev_var (sl := [a0, a1, a2, a3, a4, a5, a6, a7, a8, a9, a10, some (.int n), some (eDd x), some (.ref 3), a14, some (eLR (n : Int) S), some (.lst ((deedsL n).map eDd)), some (.lst (((deedsL n).filter fun y => expB y S).map eDd)), a, b, c, d, e, f, a24, a25, a26]) (h := g) 17 rfl)
  simp only [List.length_map] at elen
  refine ws_skipS (k := decide ((!lOk (n : Int) S) ≠ decide ((((deedsL n).filter fun y => expB y S).length : Int) = 0))) (h1 := g) (ev_dB (ev_bin (ev_bin (ev_var 15 rfl) ev_c isn_LR) (ev_bin (elen a18 a19 a20 a21 a22 a23) ev_c (op_eq (e := T.int) _ 0)) (op_ne (e := T.bl) _ _))) (by rw [hiff]; simp) ?_
  refine ws_seq (ws_for (e := eDd) (cutT (deedsL n) none (some 40)) (fun r sl g' => g' = g ∧ (∀ y ∈ r, y ∈ deedsL n) ∧ ∃ a, sl = [a0, a1, a2, a3, a4, a5, a6, a7, a8, a9, a10, some (.int n), some (eDd x), some (.ref 3), a14, some (eLR (n : Int) S), some (.lst ((deedsL n).map eDd)), some (.lst (((deedsL n).filter fun y => expB y S).map eDd)), a, a19, a20, a21, a22, a23, a24, a25, a26])
    ((sr_lst (ev_slL (ev_var 16 rfl) rfl (ev_ps ev_c))).trans (by rw [cutT_map])) ⟨rfl, fun y hy => cutT_mem hy, _, rfl⟩ ?_ ?_)
  · rintro y r sl g' ⟨rfl, hr, a, rfl⟩
    have hy := hr y (List.mem_cons_self ..)
    refine ⟨_, rfl, ws_skip (k := decide (expB y S ≠ decide (y ∈ (deedsL n).filter fun y => expB y S))) (h1 := g') (ev_dB (ev_bin (ev_callU (ea_cons (ev_var 18 rfl) (ea_cons (ev_tupleO (ev_var 13 rfl) g3) ea_nil)) (ev_explains hk hm.2 (deedsL_ok hy) s)) (ev_bin (ev_var 18 rfl) (ev_var 17 rfl) (in_lst (e := eDd) y _)) (op_ne (e := T.bl) _ _))) ?_ ⟨rfl, fun z hz => hr z (List.mem_cons_of_mem _ hz), _, rfl⟩⟩
    have : (y ∈ (deedsL n).filter fun y => expB y S) ↔ expB y S = true := by rw [List.mem_filter]; exact and_iff_right hy
    by_cases q : expB y S = true
    · rw [decide_eq_true (this.mpr q), q]; rfl
    · have q2 : expB y S = false := by simpa using q
      rw [decide_eq_false (fun z => q (this.mp z)), q2]; rfl
  · rintro sl g' ⟨rfl, _, a, rfl⟩
    have fin : ∀ {b19 b20 b21 b22 b23 : Option T}, WS (t_law_23 [a0, a1, a2, a3, a4, a5, a6, a7, a8, a9, a10, some (.int n), some (eDd x), some (.ref 3), a14, some (eLR (n : Int) S), some (.lst ((deedsL n).map eDd)), some (.lst (((deedsL n).filter fun y => expB y S).map eDd)), a, b19, b20, b21, b22, b23, a24, a25, a26] g') PoT := fun {b19 b20 b21 b22 b23} => by
      refine ws_ret (t := .bl true) (h1 := g') (ev_refT hk ?_ (c := "InvalidPlan") (by decide)) rfl
      obtain ⟨h', e, q⟩ := ex_learnt (h := g') (m := (n : Int))
      exact ⟨h', ev_callX (ea_cons (ev_var 11 rfl) (ea_cons (ev_tup ea_nil) ea_nil)) e, q⟩
    refine ws_ifS (k := lOk (n : Int) S) (h1 := g') (ev_dB (ev_bin (ev_var 15 rfl) ev_c notn_LR)) (fun hok => ?_) fun _ => ws_nx fin
    obtain ⟨oX, eX⟩ := lX_exp (m := (n : Int)) (by omega) hS hok
    have hLR : eLR (n : Int) S = e4 (lX (n : Int) S) := by unfold eLR; rw [if_pos hok]
    rw [hLR]
    refine ws_skipS (k := false) (h1 := g') ?_ rfl ?_
    · refine (ev_or (k := !decide (lX (n : Int) S ∈ (deedsL n).filter fun y => expB y S)) (k2 := decide (expB x S ≠ expB x S)) (ev_dB (ev_bin (ev_bin (ev_var 15 rfl) (ev_tup (ea_cons ev_c ea_nil)) (add4 rfl)) (ev_var 17 rfl) (ni_lst (e := eDd) _ _))) fun _ => ev_dB (ev_bin (ev_callU (ea_cons (ev_var 12 rfl) (ea_cons (ev_tupleO (ev_var 13 rfl) g3) ea_nil)) (ev_explains hk hm.2 ox s)) (ev_asks hk lx1 lx2 lS rfl g3 fun p => ⟨_, rfl, rfl, rfl, rfl⟩) (op_ne (e := T.bl) _ _))).trans ?_
      rw [decide_eq_true (hlX hok)]
      simp
    rw [← hLR]
    refine ws_for (e := eDd) ((deedsL n).filter fun y => expB y S) (fun r sl g2 => g2 = g' ∧ (∀ y ∈ r, y ∈ (deedsL n).filter fun y => expB y S) ∧ ∃ b19 b20 b21 b22 b23, sl = [a0, a1, a2, a3, a4, a5, a6, a7, a8, a9, a10, some (.int n), some (eDd x), some (.ref 3), a14, some (eLR (n : Int) S), some (.lst ((deedsL n).map eDd)), some (.lst (((deedsL n).filter fun y => expB y S).map eDd)), a, b19, b20, b21, b22, b23, a24, a25, a26])
      (sr_lst (ev_var 17 rfl)) ⟨rfl, fun y hy => hy, _, _, _, _, _, rfl⟩ ?_ ?_
    · rintro y r sl g2 ⟨rfl, hr, b19, b20, b21, b22, b23, rfl⟩
      obtain ⟨oy, ey⟩ := hgood y (hr y (List.mem_cons_self ..))
      obtain ⟨_, k1, k2, k3, k4⟩ := learnt_of ⟨by omega, hm.2⟩ s hS oy ey
      have no : ∀ {l m : List Int}, (∀ f ∈ l, f ∈ m) → (l.any fun f => !decide (f ∈ m)) = false := fun {l m} h => by
        rw [List.any_eq_false]
        intro f hf
        simp [h f hf]
      have one : ∀ {sl : Sl} {d dd : D} {l m : List Int}, l.length ≤ lim → d sl g2 = some (.ok (eF l), g2) → (∀ f : Int, ∃ sl1, setTg (.nm 24) (.int f) (wipS sl [24]) = some sl1 ∧ sl1[24]? = some (some (.int f)) ∧ dd sl1 g2 = some (.ok (eF m), g2)) → (∀ f ∈ l, f ∈ m) →
          dTru (dCall fAny (dCons (dLc false [24] (dSrc d) (.nm 24) dYes (dBin fNotIn (dVar 24) dd)) dNil)) sl g2 = some (.ok false, g2) := fun {sl d dd l m} hl e H sub => by
        refine (ev_truB (ev_any (q := fun f : Int => !decide (f ∈ m)) (lc_evA (e := T.int) (l := l) (G := fun f => .bl (!decide (f ∈ m))) (sr_tup e) (fun f hf => ?_) hl))).trans (by rw [no sub])
        obtain ⟨sl1, q1, q2, q3⟩ := H f
        exact lcY_ev q1 (ev_bin (ev_var 24 q2) q3 (ni_tup (e := T.int) f m))
      have rl : ∀ {l : List Int}, Row (n : Int) l → l.length ≤ lim := fun h => row_lim h (by omega)
      have ix : ∀ {sl : Sl} {i : Nat} {t : T}, sl[15]? = some (some (eLR (n : Int) S)) → ([eF (lN (n : Int) S), eF (lB (n : Int) S), eF (lA (n : Int) S), eF (lD (n : Int) S)] : List T)[i]? = some t → dBin fIx (dVar 15) (dC (.int (i : Nat))) sl g2 = some (.ok t, g2) := fun {sl i t} e1 e2 =>
        ev_ix (xs := [eF (lN (n : Int) S), eF (lB (n : Int) S), eF (lA (n : Int) S), eF (lD (n : Int) S)]) ((ev_var 15 e1).trans (by rw [hLR]; rfl)) ev_c e2
      refine ⟨_, rfl, ?_⟩
      refine ws_skipS (k := false) (h1 := g2) ?_ rfl (ws_skip (k := false) (h1 := g2) ?_ rfl ⟨rfl, fun z hz => hr z (List.mem_cons_of_mem _ hz), _, _, _, _, _, rfl⟩)
      · exact ev_or (k := false) (k2 := false) (one (rl oy.n) (ev_var 19 rfl) (fun f => ⟨_, rfl, rfl, ix (i := 0) rfl rfl⟩) k1) fun _ => one (rl oy.b) (ev_var 20 rfl) (fun f => ⟨_, rfl, rfl, ix (i := 1) rfl rfl⟩) k2
      · exact ev_or (k := false) (k2 := false) (one (rl oX.a) (ix (i := 2) rfl rfl) (fun f => ⟨_, rfl, rfl, ev_var 21 rfl⟩) k3) fun _ => one (rl oX.d) (ix (i := 3) rfl rfl) (fun f => ⟨_, rfl, rfl, ev_var 22 rfl⟩) k4
    · rintro sl g2 ⟨rfl, _, b19, b20, b21, b22, b23, rfl⟩
      exact fin
end Z

/-! K6 (k18): the samples. -/
namespace Z
open PySem PySem.W
/-! the tactics of this text (local): k_places evaluates what stands on the left; k_memK: what may be left open -/
local macro_rules | `(tactic| k_memK) => `(tactic| first
  | exact Nat.le_of_ble_eq_true rfl
  | assumption
  | (with_reducible apply side_le))
local macro_rules | `(tactic| k_places) => `(tactic| first
  | (with_reducible assumption)
  | (with_reducible exact ev_c)
  | ((with_reducible apply ev_var); rfl)
  | (with_reducible exact ea_nil)
  | (intro _; k_places)
  | ((with_reducible apply ea_cons) <;> k_places)
  | ((with_reducible apply ev_callU) <;> first | k_places | rfl)
  | ((with_reducible apply ev_tuple) <;> k_places)
  | ((with_reducible apply ev_tupleT) <;> k_places)
  | ((with_reducible apply ev_lenT) <;> k_places)
  | ((with_reducible apply ev_lenL) <;> k_places)
  | ((with_reducible apply ev_all) <;> k_places)
  | ((with_reducible apply ev_any) <;> k_places)
  | ((with_reducible apply ev_sortedL') <;> first | k_places | infer_instance | decide)
  | ((with_reducible apply ev_dB) <;> k_places)
  | ((with_reducible apply ev_truB) <;> k_places)
  | ((with_reducible apply ev_andV) <;> k_places)
  | ((with_reducible apply ev_orV) <;> k_places)
  | ((with_reducible apply ev_notV) <;> k_places)
  | ((with_reducible apply ev_and) <;> k_places)
  | ((with_reducible apply ev_or) <;> k_places)
  | ((with_reducible apply ev_not) <;> k_places)
  | ((with_reducible apply ev_chn) <;> k_places)
  | ((with_reducible apply ev_tup) <;> first | k_places | k_memK)
  | ((with_reducible apply ev_lst) <;> first | k_places | k_memK)
  | ((with_reducible apply ev_ix) <;> first | k_places | rfl)
  | ((with_reducible apply ev_ixL) <;> first | k_places | rfl)
  | ((with_reducible apply lc_evA) <;> first | k_places | (intro _ _; (apply lcY_ev rfl); k_places) | k_memK)
  | ((with_reducible apply lc_ev) <;> first | k_places | (intro _ _; (apply lcT_ev rfl) <;> k_places) | k_memK)
  | ((with_reducible apply ev_bin) <;> k_places)
  | ((with_reducible apply ev_un) <;> k_places)
  | ((with_reducible apply sr_tup) <;> k_places)
  | ((with_reducible apply sr_lst) <;> k_places)
  | ((with_reducible apply sr_rng1) <;> first | k_places | k_memK)
  | ((with_reducible apply op_cat) <;> k_memK)
  | ((with_reducible apply op_catT) <;> k_memK)
  | exact oi_add | exact oi_sub | exact oi_lt | exact oi_le | exact oi_gt | exact oi_ge | exact oi_neg
  | exact op_neT _ _ | exact op_neL _ _ | exact op_eqT _ _ | exact op_eqL _ _ | exact op_neT0 _ | exact op_eqT0 _
  | exact op_eq _ _ | exact op_ne _ _ | exact in_tup _ _ | exact in_lst _ _ | exact ni_tup _ _ | exact ni_lst _ _)
theorem ev_andF {ta tb : DB} {sl : Sl} {h h1 : Hv} (a : ta sl h = some (.ok false, h1)) : dAnd ta tb sl h = some (.ok false, h1) := by simp [dAnd, bnd, ret, a]
theorem ev_andT {ta tb : DB} {sl : Sl} {h h1 h2 : Hv} {k : Bool} (a : ta sl h = some (.ok true, h1)) (b : tb sl h1 = some (.ok k, h2)) : dAnd ta tb sl h = some (.ok k, h2) := by simp [dAnd, bnd, ret, a, b]
theorem srt_row {m : Int} {l : List Int} (h : Row m l) : srt T.int l = l := srt_lt h.1 (lt_nodup h.1) fun _ => Iff.rfl
theorem rng_row (n : Nat) : Row (n : Int) ((List.range n).map fun k : Nat => (k : Int)) := nats_row (List.Sublist.refl _)
def exS (O1 O2 : O) (S : Smp) : Hv := [O1, O2, .lst (S.map eFF)]
section
variable {O1 O2 : O} {g g' : Hv} {S S' : Smp}
theorem ex_at (t : TapeX (exS O1 O2 S) g) : g[3]? = some (.lst (S.map eFF)) := t.at 2
theorem ex_set (t : TapeX (exS O1 O2 S) g) : TapeX (exS O1 O2 S') (g.set 3 (.lst (S'.map eFF))) := t.upd (n := 2) (o := .lst (S'.map eFF)) (lows_map _ (fun x => EO.low (e := eFF) x 0) _)
end
theorem law_d16 {O1 O2 : O} {g : Hv} {n : Nat} (hn : 1 ≤ n ∧ n ≤ 4) {x : Dd} (ox : DdOk (n : Int) x) {S : Smp} (hS : S ≠ []) (s : SOkS (n : Int) S) (tp : TapeX (exS O1 O2 S) g) {a0 a2 a3 a4 a5 a6 a7 a8 a9 a10 a14 a15 a16 a17 a18 a19 a20 a21 a22 a23 a24 a25 a26 : Option T} :
    WS (t_law_16 [a0, some (.ref 0), a2, a3, a4, a5, a6, a7, a8, a9, a10, some (.int n), some (eDd x), some (.ref 3), a14, a15, a16, a17, a18, a19, a20, a21, a22, a23, a24, a25, a26] g) PoT := by
  obtain ⟨r, g1, e1, hr, tp1⟩ := ev_take tp (n := 4) (by decide)
  refine ws_ifS (k := decide (r = 0)) (h1 := g1) (ev_dB (ev_bin (ev_callU (ea_cons (ev_var 1 rfl) (ea_cons ev_c ea_nil)) e1) ev_c (op_eq (e := T.int) r 0))) (fun _ => ?_) fun _ => ws_nx (law_e tp1.hok hn ox hS s (ex_at tp1))
  cases S with
  | nil => exact absurd rfl hS
  | cons p S' =>
    obtain ⟨q, g2, e2, hq, tp2⟩ := ev_drawS (sl := [a0, some (.ref 0), a2, a3, a4, a5, a6, a7, a8, a9, a10, some (.int n), some (eDd x), some (.ref 3), a14, a15, a16, a17, a18, a19, a20, a21, a22, a23, a24, a25, a26]) (i := 24) (t := 1) (q := 2) (n := n) (dN := dVar 11) tp1 (ev_var 11 rfl) (by omega) (by decide) fun z => ⟨_, rfl, rfl, rfl⟩
    have s0 := s.2 p (List.mem_cons_self ..)
    refine ws_set (v := eFF (p.1, q)) (o := .ref 3) (x := .int 0) (h4 := g2.set 3 (.lst (((p.1, q) :: S').map eFF))) (ev_tup (ea_cons (ev_ix (i := 0) (ev_ixIO (xs := (p :: S').map eFF) (k := 0) (t := eFF p) (ev_var 13 rfl) ev_c (ex_at tp1) (at_int (by decide) rfl)) ev_c rfl) (ea_cons e2 ea_nil))) (ev_var 13 rfl) ev_c ?_ ?_
    · have := ex_at tp2
      have ix : L2.ixN ((p :: S').map eFF).length 0 = some 0 := by simp [L2.ixN]
      simp only [fSet, this, ix]
      rfl
    · refine law_e (S := (p.1, q) :: S') (ex_set (S' := (p.1, q) :: S') tp2).hok hn ox (fun z => nomatch z) ⟨s.1, fun z hz => ?_⟩ (ex_at (ex_set (S' := (p.1, q) :: S') tp2))
      rcases List.mem_cons.mp hz with rfl | hz
      · exact ⟨s0.1, hq⟩
      · exact s.2 z (List.mem_cons_of_mem _ hz)
theorem aftS_row {n : Nat} (hn : n ≤ 12) {x : Dd} (ox : DdOk (n : Int) x) {row : List Int} (h : Row (n : Int) row) : Row (n : Int) (aft x row) := aft_row (by omega) h ox
theorem law_d {O1 O2 : O} {g : Hv} (tp : TapeX [O1, O2] g) {a0 a2 a3 a4 a5 a6 a7 a8 a9 a10 a11 a12 a13 a14 a15 a16 a17 a18 a19 a20 a21 a22 a23 a24 a25 a26 : Option T} :
    WS (t_law_11 [a0, some (.ref 0), a2, a3, a4, a5, a6, a7, a8, a9, a10, a11, a12, a13, a14, a15, a16, a17, a18, a19, a20, a21, a22, a23, a24, a25, a26] g) PoT := by
  have lm : lim = 16000000 := rfl
  obtain ⟨r, g1, e1, hr, tp1⟩ := ev_take tp (n := 3) (by decide)
  obtain ⟨n, hn⟩ : ∃ n : Nat, (n : Int) = 1 + r := ⟨(1 + r).toNat, by omega⟩
  have hn4 : 1 ≤ n ∧ n ≤ 4 := by omega
  refine ws_asgS (t := .int n) (h1 := g1) ((ev_bin ev_c (ev_callU (ea_cons (ev_var 1 rfl) (ea_cons ev_c ea_nil)) e1) oi_add).trans (by rw [hn])) rfl ?_
  obtain ⟨x, g2, e2, ox, tp2⟩ := ev_deed tp1 (n := n) (by omega)
  refine ws_asgS (t := eDd x) (h1 := g2) (ev_callU (ea_cons (ev_var 1 rfl) (ea_cons (ev_var 11 rfl) ea_nil)) e2) rfl ?_
  have l2 : g2.length = 3 := tp2.len
  have tp3 : TapeX (exS O1 O2 []) (g2 ++ [.lst []]) := tp2.more (ex2 := [.lst []]) fun o ho => by
    rw [List.mem_singleton.mp ho]; rfl
  refine ws_asgS (t := .ref 3) (h1 := g2 ++ [.lst []]) ((ev_lstO ea_nil).trans (by rw [l2])) rfl ?_
  have hrg := rng_row n
  have es := ev_lawsub (h := g2 ++ [.lst []]) tp3.hok (L := (List.range n).map fun k : Nat => (k : Int)) (by simp; omega)
  have lSS : (SS ((List.range n).map fun k : Nat => (k : Int))).length ≤ 16 := by
    rw [SS_len, List.length_map, List.length_range]
    exact Nat.le_trans (Nat.pow_le_pow_right (by omega) hn4.2) (by decide)
  have e0 : ∀ p : List Int × List Int, eFF p = .tup [eF p.1, eF p.2] := fun p => rfl
  refine ws_seq (ws_for (e := eF) (SS ((List.range n).map fun k : Nat => (k : Int))) (fun r sl g => ∃ S, TapeX (exS O1 O2 S) g ∧ S.length + r.length ≤ 16 ∧ (∀ p ∈ S, Row (n : Int) p.1 ∧ Row (n : Int) p.2) ∧ (∀ q ∈ r, Row (n : Int) q) ∧ ∃ a14, sl = [a0, some (.ref 0), a2, a3, a4, a5, a6, a7, a8, a9, a10, some (.int n), some (eDd x), some (.ref 3), a14, a15, a16, a17, a18, a19, a20, a21, a22, a23, a24, a25, a26])
    (sr_lst (ev_callU (ea_cons (ev_rgv (by omega) (ev_var 11 rfl)) ea_nil) es)) ⟨[], tp3, by simpa using lSS, (fun p hp => nomatch hp), fun q hq => ?_, _, rfl⟩ ?_ ?_)
  · have := subR_sub (mem_SS.mp hq)
    exact ⟨hrg.1.sublist this, fun f hf => hrg.2 f (this.subset hf)⟩
  · rintro row r' sl g ⟨S, tpS, hl, hrows, hq, a14, rfl⟩
    have hrow := hq row (List.mem_cons_self ..)
    have hq' : ∀ q ∈ r', Row (n : Int) q := fun q h => hq q (List.mem_cons_of_mem _ h)
    simp only [List.length_cons] at hl
    have efit := ev_fits_core (h := g) (n := x.n) (b := x.b) (s := row) (r := [eF x.a, eF x.d, .int x.c]) (row_lim ox.n (by omega)) (row_lim ox.b (by omega)) tpS.hok
    refine ⟨_, rfl, ?_⟩
    refine ws_asgS (t := eF row) (h1 := g) ((ev_tuple (ev_sortedT (e := T.int) (ev_var 14 rfl))).trans (by rw [srt_row hrow]; rfl)) rfl ?_
    cases hfit : fitsB x.n x.b row with
    | false =>
      rw [hfit] at efit
      exact ws_skip (k := false) (h1 := g) (ev_andF (ev_truB (ev_callU (ea_cons (ev_var 12 rfl) (ea_cons (ev_var 14 rfl) ea_nil)) efit))) rfl ⟨S, tpS, by omega, hrows, hq', _, rfl⟩
    | true =>
      rw [hfit] at efit
      obtain ⟨r2, g3, e3, _, tp4⟩ := ev_take tpS (n := 2) (by decide)
      refine ws_if (k := decide (r2 = 0)) (h1 := g3) (ev_andT (ev_truB (ev_callU (ea_cons (ev_var 12 rfl) (ea_cons (ev_var 14 rfl) ea_nil)) efit)) (ev_dB (ev_bin (ev_callU (ea_cons (ev_var 1 rfl) (ea_cons ev_c ea_nil)) e3) ev_c (op_eq (e := T.int) r2 0)))) (fun _ => ?_) fun _ => ws_nx ⟨S, tp4, by omega, hrows, hq', _, rfl⟩
      refine ws_expr (t := .non) (h1 := g3.set 3 (.lst ((S ++ [(row, aft x row)]).map eFF))) ((ev_append (x := eFF (row, aft x row)) (ev_var 13 rfl) (ev_tup (ea_cons (ev_var 14 rfl) (ea_cons (ev_callU (ea_cons (ev_var 12 rfl) (ea_cons (ev_var 14 rfl) ea_nil)) (ev_law_after tp4.hok)) ea_nil))) (ex_at tp4) (by rw [List.length_map]; omega)).trans (by rw [List.map_append]; rfl)) ⟨S ++ [(row, aft x row)], ex_set tp4, by rw [List.length_append]; simp only [List.length_cons, List.length_nil]; omega, fun p hp => ?_, hq', _, rfl⟩
      rcases List.mem_append.mp hp with z | z
      · exact hrows p z
      · rw [List.mem_singleton.mp z]
        exact ⟨hrow, aftS_row (by omega) ox hrow⟩
  · rintro sl g ⟨S, tpS, hl, hrows, _, a14, rfl⟩
    have elen : dCall fLen (dCons (dVar 13) dNil) [a0, some (.ref 0), a2, a3, a4, a5, a6, a7, a8, a9, a10, some (.int n), some (eDd x), some (.ref 3), a14, a15, a16, a17, a18, a19, a20, a21, a22, a23, a24, a25, a26] g = some (.ok (.int S.length), g) := ev_call (ea_cons (ev_var 13 rfl) ea_nil) (by
      have := ex_at tpS
      simp only [fLen, dr, this, List.length_map])
    simp only [List.length_nil, Nat.add_zero] at hl
    refine ws_ifS (k := decide ((S.length : Int) = 0)) (h1 := g) (ev_dB (ev_bin elen ev_c (op_eq (e := T.int) _ 0))) (fun hc => ?_) fun hc => ?_
    · have hS : S = [] := List.eq_nil_of_length_eq_zero (by simpa using hc)
      subst hS
      refine ws_asgS (t := eF x.n) (h1 := g) (ev_ix (i := 0) (ev_var 12 rfl) ev_c rfl) rfl ?_
      refine ws_expr (t := .non) (h1 := g.set 3 (.lst ([(x.n, aft x x.n)].map eFF))) ((ev_append (x := eFF (x.n, aft x x.n)) (ev_var 13 rfl) (ev_tup (ea_cons (ev_var 14 rfl) (ea_cons (ev_callU (ea_cons (ev_var 12 rfl) (ea_cons (ev_var 14 rfl) ea_nil)) (ev_law_after tpS.hok)) ea_nil))) (ex_at tpS) (by simp [lim])).trans (by rfl)) ?_
      exact law_d16 hn4 ox (S := [(x.n, aft x x.n)]) (fun z => nomatch z) ⟨by simp, fun p hp => by
        rw [List.mem_singleton.mp hp]
        exact ⟨ox.n, aftS_row (by omega) ox ox.n⟩⟩ (ex_set tpS)
    · exact ws_nx (law_d16 hn4 ox (fun z => by subst z; simp at hc) ⟨by omega, hrows⟩ tpS)
end Z

/-! K7 (k18): the law. -/
namespace Z
open PySem PySem.W
/-! the tactics of this text (local): k_places evaluates what stands on the left; k_memK: what may be left open -/
local macro_rules | `(tactic| k_memK) => `(tactic| first
  | exact Nat.le_of_ble_eq_true rfl
  | assumption
  | (with_reducible apply side_le))
local macro_rules | `(tactic| k_places) => `(tactic| first
  | (with_reducible assumption)
  | (with_reducible exact ev_c)
  | ((with_reducible apply ev_var); rfl)
  | (with_reducible exact ea_nil)
  | (intro _; k_places)
  | ((with_reducible apply ea_cons) <;> k_places)
  | ((with_reducible apply ev_callU) <;> first | k_places | rfl)
  | ((with_reducible apply ev_tuple) <;> k_places)
  | ((with_reducible apply ev_tupleT) <;> k_places)
  | ((with_reducible apply ev_lenT) <;> k_places)
  | ((with_reducible apply ev_lenL) <;> k_places)
  | ((with_reducible apply ev_all) <;> k_places)
  | ((with_reducible apply ev_any) <;> k_places)
  | ((with_reducible apply ev_sortedL') <;> first | k_places | infer_instance | decide)
  | ((with_reducible apply ev_dB) <;> k_places)
  | ((with_reducible apply ev_truB) <;> k_places)
  | ((with_reducible apply ev_andV) <;> k_places)
  | ((with_reducible apply ev_orV) <;> k_places)
  | ((with_reducible apply ev_notV) <;> k_places)
  | ((with_reducible apply ev_and) <;> k_places)
  | ((with_reducible apply ev_or) <;> k_places)
  | ((with_reducible apply ev_not) <;> k_places)
  | ((with_reducible apply ev_chn) <;> k_places)
  | ((with_reducible apply ev_tup) <;> first | k_places | k_memK)
  | ((with_reducible apply ev_lst) <;> first | k_places | k_memK)
  | ((with_reducible apply ev_ix) <;> first | k_places | rfl)
  | ((with_reducible apply ev_ixL) <;> first | k_places | rfl)
  | ((with_reducible apply lc_evA) <;> first | k_places | (intro _ _; (apply lcY_ev rfl); k_places) | k_memK)
  | ((with_reducible apply lc_ev) <;> first | k_places | (intro _ _; (apply lcT_ev rfl) <;> k_places) | k_memK)
  | ((with_reducible apply ev_bin) <;> k_places)
  | ((with_reducible apply ev_un) <;> k_places)
  | ((with_reducible apply sr_tup) <;> k_places)
  | ((with_reducible apply sr_lst) <;> k_places)
  | ((with_reducible apply sr_rng1) <;> first | k_places | k_memK)
  | ((with_reducible apply op_cat) <;> k_memK)
  | ((with_reducible apply op_catT) <;> k_memK)
  | exact oi_add | exact oi_sub | exact oi_lt | exact oi_le | exact oi_gt | exact oi_ge | exact oi_neg
  | exact op_neT _ _ | exact op_neL _ _ | exact op_eqT _ _ | exact op_eqL _ _ | exact op_neT0 _ | exact op_eqT0 _
  | exact op_eq _ _ | exact op_ne _ _ | exact in_tup _ _ | exact in_lst _ _ | exact ni_tup _ _ | exact ni_lst _ _)
theorem okD_map {α : Type} [DecidableEq α] {e : α → T} {d : Nat} [i : EO e d] [j : EA e true] (l : List α) (hd : d ≤ 64 := by decide) : okD (l.map e) = true := by
  unfold okD
  rw [List.all_eq_true]
  intro a ha
  obtain ⟨x, hx, rfl⟩ := List.mem_map.mp ha
  have n : notNoneB (e x).py = true := by
    have := j.tp
    simp only [if_true] at this
    have := this x
    cases q : (e x).py <;> rw [q] at this <;> first | rfl | cases this
  rw [EO.sh x hd, n, Bool.and_self, Bool.true_and, List.all_eq_true]
  intro b hb
  obtain ⟨y, hy, rfl⟩ := List.mem_map.mp hb
  exact j.al x y
theorem minT_first {x : T} : ∀ {l : List T}, (∀ y ∈ l, leT x y = true) → minT x l = x
  | [], _ => rfl
  | y :: l, h => by
    have h1 := h y (List.mem_cons_self ..)
    rw [leT_lt] at h1
    have h2 : dataLt y.py x.py = false := by simpa using h1
    have := minT_first (x := x) (l := l) fun z hz => h z (List.mem_cons_of_mem _ hz)
    unfold minT at this ⊢
    rw [List.foldl_cons, h2]
    exact this
noncomputable def cM (w : Wd) (row : List Int) : Bool := canB (wM w row)
noncomputable def cG (w : Wd) (row : List Int) : Bool := canB (wG w row)
noncomputable def F1 (w : Wd) : List (Int × List Int) := ((SS (LM w)).filter (cM w)).map pr
noncomputable def F2 (w : Wd) : List (Int × List Int) := ((SS (LG w)).filter (cG w)).map pr
theorem wG_nil (w : Wd) : wG w [] = w := by
  have : ∀ l : List Int, lessG l [] = l := fun l => by unfold lessG; simp
  unfold wG
  rw [this, this]
theorem wM_nil {w : Wd} (o : WdOk w) : wM w [] = w := by
  unfold wM
  rw [List.append_nil, srt_row o.s]
theorem first_nil {L : List Int} {q : List Int → Bool} : (SS L).find? q = some [] ↔ q [] = true := by
  obtain ⟨R, hR⟩ := SS_first L
  constructor
  · intro h
    exact List.find?_some h
  · intro h
    rw [hR, find_or, if_pos h]
theorem row_less {w : Wd} (o : WdOk w) {L : List Int} (hL : Row w.m L) {row : List Int} (h : row ∈ SS L) : Row w.m row := by
  have := subR_sub (mem_SS.mp h)
  exact ⟨hL.1.sublist this, fun f hf => hL.2 f (this.subset hf)⟩
theorem oF_low {l : List (Int × List Int)} : (O.lst (l.map eIF)).low 0 = true := lows_map _ (fun x => EO.low (e := eIF) x 0) _
theorem law_c {O1 : O} {g : Hv} {w : Wd} (o : WdOk w) (tp : TapeX [O1] g) {a0 a2 a6 a7 a8 a9 a10 a11 a12 a13 a14 a15 a16 a17 a18 a19 a20 a21 a22 a23 a24 a25 a26 : Option T} :
    WS (t_law_7 [a0, some (.ref 0), a2, some (eWd w), some (eF w.s), some (.tup [eF w.gn, eF w.gb]), a6, a7, a8, a9, a10, a11, a12, a13, a14, a15, a16, a17, a18, a19, a20, a21, a22, a23, a24, a25, a26] g) PoT := by
  have lm : lim = 16000000 := rfl
  have hm := o.m
  have n1 := row_len o.gn
  have n2 := row_len o.gb
  have lL := LG_len o
  have lSS : (SS (LG w)).length ≤ 4096 := by
    rw [SS_len]
    exact Nat.le_trans (Nat.pow_le_pow_right (by omega) lL) (by decide)
  have es := ev_lawsub (h := g) tp.hok (L := LG w) (by omega)
  refine ws_asgS (t := .lst ((SS (LG w)).map eF)) (h1 := g) (lc_evA (e := eF) (l := SS (LG w)) (G := eF) (sr_lst (ev_callU (ea_cons (ev_tuple (ev_sortedT (e := T.int) (ev_bin (ev_ix (i := 0) (ev_var 5 rfl) ev_c rfl) (ev_ix (i := 1) (ev_var 5 rfl) ev_c rfl) (op_catT (by omega))))) ea_nil) es)) (fun row hrow => lcY_ev rfl ((ev_tuple (ev_sortedT (e := T.int) (ev_var 9 rfl))).trans (by rw [srt_row (row_less o (LG_row o) hrow)]; rfl))) (by omega)) rfl ?_
  have l2 : g.length = 2 := tp.len
  have tp2 : TapeX [O1, .lst (([] : List (Int × List Int)).map eIF)] (g ++ [.lst []]) := tp.more (ex2 := [.lst []]) fun o ho => by
    rw [List.mem_singleton.mp ho]; rfl
  refine ws_asgS (t := .ref 2) (h1 := g ++ [.lst []]) ((ev_lstO ea_nil).trans (by rw [l2])) rfl ?_
  refine ws_seq (ws_for (e := eF) (SS (LG w)) (fun r sl g => ∃ done, done ++ r = SS (LG w) ∧ TapeX [O1, .lst (((done.filter (cG w)).map pr).map eIF)] g ∧ ∃ a9 a10, sl = [a0, some (.ref 0), a2, some (eWd w), some (eF w.s), some (.tup [eF w.gn, eF w.gb]), a6, some (.ref 2), some (.lst ((SS (LG w)).map eF)), a9, a10, a11, a12, a13, a14, a15, a16, a17, a18, a19, a20, a21, a22, a23, a24, a25, a26])
    (sr_lst (ev_var 8 rfl)) ⟨[], rfl, tp2, _, _, rfl⟩ ?_ ?_)
  · rintro row r sl g ⟨done, hd, tpS, a9, a10, rfl⟩
    have hd' : (done ++ [row]) ++ r = SS (LG w) := by rw [List.append_assoc]; exact hd
    have ldone : done.length ≤ 4096 := by
      have := congrArg List.length hd
      rw [List.length_append] at this
      omega
    have hcan : d__law_can [eWd w, eF w.s, .tup [eF (lessG w.gn row), eF (lessG w.gb row)]] g = some (.ok (.bl (cG w row)), g) := ev_law_can tpS.hok (wG_ok o row)
    refine ⟨_, rfl, ?_⟩
    refine ws_asgS (t := .tup [eF (lessG w.gn row), eF (lessG w.gb row)]) (h1 := g) (ev_tup (ea_cons (ev_tuple ((lc_evt (e := T.int) (e' := T.int) (l := w.gn) (p := fun f => !decide (f ∈ row)) (G := fun f => f) (sr_tup (ev_ix (i := 0) (ev_var 5 rfl) ev_c rfl)) (fun f hf => lcT_ev rfl (ev_dB (ev_bin (ev_var 24 rfl) (ev_var 9 rfl) (ni_tup (e := T.int) f row))) fun _ => ev_var 24 rfl) (by omega)).trans (by rw [List.map_id']; rfl)))
      (ea_cons (ev_tuple ((lc_evt (e := T.int) (e' := T.int) (l := w.gb) (p := fun f => !decide (f ∈ row)) (G := fun f => f) (sr_tup (ev_ix (i := 1) (ev_var 5 rfl) ev_c rfl)) (fun f hf => lcT_ev rfl (ev_dB (ev_bin (ev_var 24 rfl) (ev_var 9 rfl) (ni_tup (e := T.int) f row))) fun _ => ev_var 24 rfl) (by omega)).trans (by rw [List.map_id']; rfl))) ea_nil))) rfl ?_
    refine ws_if (k := cG w row) (h1 := g) (ev_truB (ev_callU (ea_cons (ev_var 3 rfl) (ea_cons (ev_var 4 rfl) (ea_cons (ev_var 10 rfl) ea_nil))) hcan)) (fun hc => ?_) fun hc => ?_
    · have ef : (done ++ [row]).filter (cG w) = done.filter (cG w) ++ [row] := by rw [List.filter_append]; simp [hc]
      have lf : (done.filter (cG w)).length ≤ done.length := List.length_filter_le ..
      refine ws_expr (t := .non) (h1 := g.set 2 (.lst ((((done ++ [row]).filter (cG w)).map pr).map eIF))) ((ev_append (x := eIF (pr row)) (xs := ((done.filter (cG w)).map pr).map eIF) (ev_var 7 rfl) (ev_tup (ea_cons ((ev_lenT (l := row.map .int) (ev_var 9 rfl)).trans (by rw [List.length_map]; rfl)) (ea_cons (ev_var 9 rfl) ea_nil))) (tpS.at 1) (by rw [List.length_map, List.length_map]; omega)).trans (by rw [ef, List.map_append, List.map_append]; rfl)) ⟨done ++ [row], hd', tpS.upd (n := 1) (o := .lst ((((done ++ [row]).filter (cG w)).map pr).map eIF)) oF_low, _, _, rfl⟩
    · have ef : (done ++ [row]).filter (cG w) = done.filter (cG w) := by rw [List.filter_append]; simp [hc]
      exact ws_nx ⟨done ++ [row], hd', by rw [ef]; exact tpS, _, _, rfl⟩
  · rintro sl g ⟨done, hd, tpS, a9, a10, rfl⟩
    rw [List.append_nil] at hd
    subst hd
    obtain ⟨row0, hrow0⟩ := wG_find w
    have etm := ev_toomuch (h := g) tpS.hok o hrow0
    have ems := ev_missing (h := g) tpS.hok o
    have hhead : ((SS (LG w)).filter (cG w)).head? = some row0 := by rw [← find_head]; exact hrow0
    obtain ⟨rest, hrest⟩ : ∃ rest, (SS (LG w)).filter (cG w) = row0 :: rest := by
      cases q : (SS (LG w)).filter (cG w) with
      | nil => rw [q] at hhead; cases hhead
      | cons a b => rw [q] at hhead; cases hhead; exact ⟨b, rfl⟩
    have gl : g[2]? = some (.lst (((row0 :: rest).map pr).map eIF)) := by rw [← hrest]; exact tpS.at 1
    have emin : fMinD [.ref 2] g = some (.ok (eIF (pr row0)), g) := by
      have e1 : slQ g (.ref 2) = some (((row0 :: rest).map pr).map eIF) := by simp only [slQ, dr, gl]
      have ok := okD_map (e := eIF) ((row0 :: rest).map pr)
      simp only [List.map_cons] at e1 ok
      have srt := SS_filter (LG w) (cG w)
      rw [hrest] at srt
      have pw : (((row0 :: rest).map pr)).Pairwise fun a b => leT (eIF a) (eIF b) = true := by rw [← srt]; exact srt_sorted _
      rw [List.map_cons] at pw
      have mf := minT_first (x := eIF (pr row0)) (l := (rest.map pr).map eIF) fun y hy => by
        obtain ⟨z, hz, rfl⟩ := List.mem_map.mp hy
        exact (List.pairwise_cons.mp pw).1 z hz
      simp only [fMinD, e1, ok, if_true, mf]
    have hb : (row0 = []) ↔ ((SS (LM w)).find? fun row => canB (wM w row)) = some [] := by
      rw [first_nil]
      have h1 : (canB (wM w []) = true) ↔ canB w = true := by rw [wM_nil o]
      have h2 : (canB (wG w []) = true) ↔ canB w = true := by rw [wG_nil]
      refine Iff.trans ?_ (h2.trans h1.symm)
      constructor
      · intro e
        subst e
        exact List.find?_some (p := fun row => canB (wG w row)) hrow0
      · intro e
        rw [first_nil.mpr e] at hrow0
        cases hrow0
        rfl
    refine ws_skipS (k := false) (h1 := g) ?_ rfl (law_d tpS)
    refine (ev_or (k := decide (row0 ≠ row0)) (k2 := decide (decide (row0 = []) ≠ decide (((SS (LM w)).find? fun row => canB (wM w row)) = some []))) (ev_dB (ev_bin (ev_callU (ea_cons (ev_var 3 rfl) ea_nil) etm) (ev_ix (i := 1) (xs := [.int (row0.length : Int), eF row0]) (ev_call (ea_cons (ev_var 7 rfl) ea_nil) emin) ev_c rfl) (op_ne (e := eF) _ _))) fun _ => ev_dB (ev_bin (ev_bin (ev_callU (ea_cons (ev_var 3 rfl) ea_nil) etm) (ev_tup ea_nil) (op_eqT0 (e := T.int) row0)) (ev_bin (ev_callU (ea_cons (ev_var 3 rfl) ea_nil) ems) (ev_tup ea_nil) (op_eq (e := eO eF) _ (some []))) (op_ne (e := T.bl) _ _))).trans ?_
    have hd : decide (row0 = []) = decide (((SS (LM w)).find? fun row => canB (wM w row)) = some []) := decide_eq_decide.mpr hb
    rw [hd]
    simp
theorem law_b {g : Hv} {w : Wd} (o : WdOk w) (tp : Tape g) {a0 a6 a7 a8 a9 a10 a11 a12 a13 a14 a15 a16 a17 a18 a19 a20 a21 a22 a23 a24 a25 a26 : Option T} :
    WS (t_law_4 [a0, some (.ref 0), some (.int w.m), some (eWd w), some (eF w.s), some (.tup [eF w.gn, eF w.gb]), a6, a7, a8, a9, a10, a11, a12, a13, a14, a15, a16, a17, a18, a19, a20, a21, a22, a23, a24, a25, a26] g) PoT := by
  have lm : lim = 16000000 := rfl
  have hm := o.m
  have lL := LM_len o
  have lSS : (SS (LM w)).length ≤ 4096 := by
    rw [SS_len]
    exact Nat.le_trans (Nat.pow_le_pow_right (by omega) lL) (by decide)
  have es := ev_lawsub (h := g) tp.hok (L := LM w) (by omega)
  have src : ∀ {sl : Sl}, sl[2]? = some (some (T.int w.m)) → dRng1 (dCons (dVar 2) dNil) sl g = some (.ok (.fix ((rgI w.m).map T.int)), g) := fun {sl} e => (sr_rng1 (ev_var 2 e) (by unfold in62; exact decide_eq_true ⟨by omega, by omega⟩)).trans (by unfold rgI; simp)
  have lr : (rgI w.m).length ≤ lim := by rw [rgI_len]; omega
  refine ws_asgS (t := .lst ((SS (LM w)).map eF)) (h1 := g) (lc_evA (e := eF) (l := SS (LM w)) (G := eF) (sr_lst (ev_callU (ea_cons (ev_tuple ((lc_evt (e := T.int) (e' := T.int) (l := rgI w.m) (p := fun f => !decide (f ∈ w.s)) (G := fun f => f) (src rfl) (fun f hf => lcT_ev rfl (ev_dB (ev_bin (ev_var 24 rfl) (ev_var 4 rfl) (ni_tup (e := T.int) f w.s))) fun _ => ev_var 24 rfl) lr).trans (by rw [List.map_id']; rfl))) ea_nil) es)) (fun row hrow => lcY_ev rfl ((ev_tuple (ev_sortedT (e := T.int) (ev_var 9 rfl))).trans (by rw [srt_row (row_less o (LM_row o) hrow)]; rfl))) (by omega)) rfl ?_
  have l1 : g.length = 1 := tp.len
  have tp2 : TapeX [O.lst ((F1 w).map eIF)] (g ++ [O.lst ((F1 w).map eIF)]) := tp.more (ex2 := [O.lst ((F1 w).map eIF)]) fun o ho => by
    rw [List.mem_singleton.mp ho]; exact oF_low
  refine ws_asgS (t := .ref 1) (h1 := g ++ [O.lst ((F1 w).map eIF)]) (ev_call (h1 := g) (ts := [T.lst (((SS (LM w)).filter (cM w)).map fun row => eIF (pr row))]) (ea_cons (lc_ev (e := eF) (l := SS (LM w)) (p := cM w) (G := fun row => eIF (pr row)) (sr_lst (ev_var 6 rfl)) (fun row hrow => lcT_ev rfl (ev_truB (ev_callU (ea_cons (ev_var 3 rfl) (ea_cons (ev_tuple (ev_sortedT (e := T.int) (ev_bin (ev_var 4 rfl) (ev_var 9 rfl) (op_catT ?_)))) (ea_cons (ev_var 5 rfl) ea_nil))) (ev_law_can (s := srt T.int (w.s ++ row)) (gn := w.gn) (gb := w.gb) tp.hok (wM_ok o (subR_sub (mem_SS.mp hrow)))))) fun _ => ev_tup (ea_cons ((ev_lenT (l := row.map .int) (ev_var 9 rfl)).trans (by rw [List.length_map]; rfl)) (ea_cons (ev_var 9 rfl) ea_nil))) (by omega)) ea_nil) ?_) rfl ?_
  · have h1 := row_len o.s
    have h2 := row_len (row_less o (LM_row o) hrow)
    omega
  · have em : (((SS (LM w)).filter (cM w)).map fun row => eIF (pr row)) = (F1 w).map eIF := by unfold F1; rw [List.map_map]; rfl
    rw [em]
    have s1 := sOk_map (e := eIF) (F1 w)
    have s2 : sortT ((F1 w).map eIF) = (F1 w).map eIF := by
      rw [srt_map]
      unfold F1
      rw [SS_filter]
    simp only [fSorted, itQ, dr, s1, s2, if_true, own, l1]
  · have ems := ev_missing (h := g ++ [O.lst ((F1 w).map eIF)]) tp2.hok o
    have g1 : (g ++ [.lst ((F1 w).map eIF)])[1]? = some (.lst ((F1 w).map eIF)) := tp2.at 0
    have elen : ∀ {sl : Sl}, sl[7]? = some (some (T.ref 1)) → dCall fLen (dCons (dVar 7) dNil) sl (g ++ [.lst ((F1 w).map eIF)]) = some (.ok (.int (F1 w).length), g ++ [.lst ((F1 w).map eIF)]) := fun {sl} e => ev_call (ea_cons (ev_var 7 e) ea_nil) (by simp only [fLen, dr, g1, List.length_map])
    have hf : ((SS (LM w)).find? fun row => canB (wM w row)) = ((SS (LM w)).filter (cM w)).head? := find_head (cM w) _
    refine ws_skipS (k := decide (((SS (LM w)).find? fun row => canB (wM w row)) ≠ ((SS (LM w)).filter (cM w)).head?)) (h1 := g ++ [O.lst ((F1 w).map eIF)]) (ev_dB (ev_bin (ev_callU (ea_cons (ev_var 3 rfl) ea_nil) ems) (y := eO eF ((SS (LM w)).filter (cM w)).head?) (ev_dIf (k := decide ((0 : Int) < (F1 w).length)) (ev_dB (ev_bin (elen rfl) ev_c rfl)) (fun hk => ?_) fun hk => ?_) (op_ne (e := eO eF) _ _))) (by rw [hf]; simp) (law_c o tp2)
    · have hpos : 0 < (F1 w).length := by simpa using hk
      cases q : (SS (LM w)).filter (cM w) with
      | nil => unfold F1 at hpos; rw [q] at hpos; exact absurd hpos (by simp)
      | cons a b =>
        have g2 : (g ++ [.lst ((F1 w).map eIF)])[1]? = some (.lst (((a :: b).map pr).map eIF)) := by rw [g1]; unfold F1; rw [q]
        exact ev_ix (i := 1) (xs := [.int (a.length : Int), eF a]) (ev_ixIO (xs := ((a :: b).map pr).map eIF) (k := 0) (ev_var 7 rfl) ev_c g2 (at_int (by decide) rfl)) ev_c rfl
    · have hz : (SS (LM w)).filter (cM w) = [] := by
        have : (F1 w).length = 0 := by
          have h2 : ¬ 0 < (F1 w).length := by simpa using hk
          omega
        unfold F1 at this
        rw [List.length_map] at this
        exact List.eq_nil_of_length_eq_zero this
      rw [hz]
      exact ev_c
theorem law_true (ns : List Int) (hl : ns.length ≤ 63) : ∃ h', d_law [.arg (ns.map .int)] [] = some (.ok (.bl true), h') := by
  obtain ⟨g1, e1, tp1⟩ := ev_tape (ns := ns) (by omega)
  obtain ⟨r, g2, e2, hr, tp2⟩ := ev_take tp1 (n := 4) (by decide)
  obtain ⟨n, hn⟩ : ∃ n : Nat, (n : Int) = 1 + r := ⟨(1 + r).toNat, by omega⟩
  obtain ⟨c0, g3, e3, hc, tp3⟩ := ev_take tp2 (n := 6) (by decide)
  obtain ⟨c, hc2⟩ : ∃ c : Nat, (c : Int) = c0 := ⟨c0.toNat, by omega⟩
  rw [← hc2] at e3
  obtain ⟨w, g4, e4, o, wm, tp4⟩ := ev_world tp3 (n := n) (c := c) (by omega) (by omega)
  have key : ∃ t h', d_law [.arg (ns.map .int)] [] = some (.ok t, h') ∧ t = .bl true := by
    refine def_ws (Q := fun t _ => t = .bl true) ?_
    refine WS.imp (Q := PoT) ?_ (fun _ _ z => z.elim) (fun _ _ z => z.elim) (fun _ _ z => z.elim) fun t h' z => ?_
    · refine ws_asgS (t := .ref 0) (h1 := g1) (ev_callU (ea_cons (ev_var 0 rfl) ea_nil) e1) rfl ?_
      refine ws_asgS (t := .int n) (h1 := g2) ((ev_bin ev_c (ev_callU (ea_cons (ev_var 1 rfl) (ea_cons ev_c ea_nil)) e2) oi_add).trans (by rw [hn])) rfl ?_
      refine ws_asgS (t := eWd w) (h1 := g4) (ev_callU (ea_cons (ev_var 1 rfl) (ea_cons (ev_var 2 rfl) (ea_cons (ev_callU (ea_cons (ev_var 1 rfl) (ea_cons ev_c ea_nil)) e3) ea_nil))) e4) rfl ?_
      refine ws_asgS (t := .tup [eF w.s, .tup [eF w.gn, eF w.gb]]) (h1 := g4) (ev_tup (ea_cons (ev_ix (i := 2) (ev_var 3 rfl) ev_c rfl) (ea_cons (ev_ix (i := 3) (ev_var 3 rfl) ev_c rfl) ea_nil))) rfl ?_
      rw [← wm]
      exact law_b o tp4
    · subst z
      exact endOk (h := []) (ex := h') rfl (fun _ => rfl) rfl
  obtain ⟨t, h', e, rfl⟩ := key
  exact ⟨h', e⟩
end Z

namespace Z
open PySem PySem.Spec PyProof.Rows L2
def D__law_tape : He.DefD := ⟨("_law_tape", none), "_law_tape", "_law_tape", defArgs s__law_tape, defBody s__law_tape, defScope s__law_tape, [], []⟩
def D__law_take : He.DefD := ⟨("_law_take", none), "_law_take", "_law_take", defArgs s__law_take, defBody s__law_take, defScope s__law_take, [], []⟩
def D__law_deed : He.DefD := ⟨("_law_deed", none), "_law_deed", "_law_deed", defArgs s__law_deed, defBody s__law_deed, defScope s__law_deed, [], []⟩
def D__law_world : He.DefD := ⟨("_law_world", none), "_law_world", "_law_world", defArgs s__law_world, defBody s__law_world, defScope s__law_world, [], []⟩
def D__law_subsets : He.DefD := ⟨("_law_subsets", none), "_law_subsets", "_law_subsets", defArgs s__law_subsets, defBody s__law_subsets, defScope s__law_subsets, [], []⟩
def D_after : He.DefD := ⟨("after", none), "after", "after", defArgs s_after, defBody s_after, defScope s_after, [], []⟩
def D_learnt : He.DefD := ⟨("learnt", none), "learnt", "learnt", defArgs s_learnt, defBody s_learnt, defScope s_learnt, [], []⟩
def D_is_facts : He.DefD := ⟨("is_facts", none), "is_facts", "is_facts", defArgs s_is_facts, defBody s_is_facts, defScope s_is_facts, [], []⟩
def D_check_deed : He.DefD := ⟨("check_deed", none), "check_deed", "check_deed", defArgs s_check_deed, defBody s_check_deed, defScope s_check_deed, [], []⟩
def D_check_world : He.DefD := ⟨("check_world", none), "check_world", "check_world", defArgs s_check_world, defBody s_check_world, defScope s_check_world, [], []⟩
def D_holds : He.DefD := ⟨("holds", none), "holds", "holds", defArgs s_holds, defBody s_holds, defScope s_holds, [], []⟩
def D_can : He.DefD := ⟨("can", none), "can", "can", defArgs s_can, defBody s_can, defScope s_can, [], []⟩
def D_next_states : He.DefD := ⟨("next_states", none), "next_states", "next_states", defArgs s_next_states, defBody s_next_states, defScope s_next_states, [], []⟩
def D_cheapest : He.DefD := ⟨("cheapest", none), "cheapest", "cheapest", defArgs s_cheapest, defBody s_cheapest, defScope s_cheapest, [], []⟩
def D_missing_facts : He.DefD := ⟨("missing_facts", none), "missing_facts", "missing_facts", defArgs s_missing_facts, defBody s_missing_facts, defScope s_missing_facts, [], []⟩
def D__law_after : He.DefD := ⟨("_law_after", none), "_law_after", "_law_after", defArgs s__law_after, defBody s__law_after, defScope s__law_after, [], []⟩
def D__law_fits : He.DefD := ⟨("_law_fits", none), "_law_fits", "_law_fits", defArgs s__law_fits, defBody s__law_fits, defScope s__law_fits, [], []⟩
def D__law_next : He.DefD := ⟨("_law_next", none), "_law_next", "_law_next", defArgs s__law_next, defBody s__law_next, defScope s__law_next, [], []⟩
def D__law_reached : He.DefD := ⟨("_law_reached", none), "_law_reached", "_law_reached", defArgs s__law_reached, defBody s__law_reached, defScope s__law_reached, [], []⟩
def D__law_costs : He.DefD := ⟨("_law_costs", none), "_law_costs", "_law_costs", defArgs s__law_costs, defBody s__law_costs, defScope s__law_costs, [], []⟩
def D__law_can : He.DefD := ⟨("_law_can", none), "_law_can", "_law_can", defArgs s__law_can, defBody s__law_can, defScope s__law_can, [], []⟩
def D_too_much : He.DefD := ⟨("too_much", none), "too_much", "too_much", defArgs s_too_much, defBody s_too_much, defScope s_too_much, [], []⟩
def D__law_deeds : He.DefD := ⟨("_law_deeds", none), "_law_deeds", "_law_deeds", defArgs s__law_deeds, defBody s__law_deeds, defScope s__law_deeds, [], []⟩
def D_explains : He.DefD := ⟨("explains", none), "explains", "explains", defArgs s_explains, defBody s_explains, defScope s_explains, [], []⟩
def D_law : He.DefD := ⟨("law", none), "law", "law", defArgs s_law, defBody s_law, defScope s_law, [], []⟩
def D__law_refused : He.DefD := ⟨("_law_refused", none), "_law_refused", "_law_refused", defArgs s__law_refused, defBody s__law_refused, defScope s__law_refused, [], []⟩
def fn : List He.DefD := [D__law_tape, D__law_take, D__law_deed, D__law_world, D__law_subsets, D_after, D_learnt, D_is_facts, D_check_deed, D_check_world, D_holds, D_can, D_next_states, D_cheapest, D_missing_facts, D__law_after, D__law_fits, D__law_next, D__law_reached, D__law_costs, D__law_can, D_too_much, D__law_deeds, D_explains, D_law, D__law_refused]
def fa : List He.Fa := [.glo "_law_tape", .glo "_law_take", .glo "_law_deed", .glo "_law_world", .glo "_law_subsets", .glo "after", .glo "learnt", .glo "is_facts", .glo "check_deed", .glo "check_world", .glo "holds", .glo "can", .glo "next_states", .glo "cheapest", .glo "missing_facts", .glo "_law_after", .glo "_law_fits", .glo "_law_next", .glo "_law_reached", .glo "_law_costs", .glo "_law_can", .glo "too_much", .glo "_law_deeds", .glo "explains", .glo "law", .glo "_law_refused", .free "abs", .free "all", .free "any", .free "dict", .free "enumerate", .free "int", .free "len", .free "min", .free "range", .free "sorted", .free "tuple", .free "zip", .int "MOST_DEEDS" 24, .int "MOST_FACTS" 12, .glo "InvalidPlan", .exc "InvalidPlan", .glo "InvalidWorld", .exc "InvalidWorld", .glo "PlanError", .exm "InvalidWorld" "PlanError" true, .exm "InvalidPlan" "PlanError" true]
abbrev RR : PySem.W.OpenRow := PySem.W.OpenLaw.row PySem.Challenge.rw_noshorterplan_k18_whole_why_and_what_is
abbrev hk : PySem.W.Hook := He.hookX 4 fa fn [] tf exB
def ob (s : PySem.W.SharedT) : He.AlX := He.obsX 4 fa fn [] tf exB (HandSHeadRun.getT s)
theorem ob_eq (s : PySem.W.SharedT) : ob s = hk.obs s.abs := He.obsX_eq (HandSHeadRun.getT_eq s)
def loose0 : List Str := ["__name__", "PlanError", "InvalidWorld", "InvalidPlan", "MOST_FACTS", "MOST_DEEDS", "is_facts", "check_deed", "check_world", "holds", "can", "after", "next_states", "cheapest", "missing_facts", "too_much", "learnt", "explains", "_law_tape", "_law_take"]
def loose1 : List Str := ["_law_deed", "_law_world", "_law_fits", "_law_after", "_law_next", "_law_reached", "_law_costs", "_law_subsets", "_law_refused", "_law_can", "_law_deeds"]
abbrev loose : List Str := loose0 ++ loose1
theorem run (w : World) : HandSHeadRun.RunEq RR (PySem.W.view RR.prog [35]) hk ob 3000 loose w := by
  intro os
  kernel_rfl
theorem facts {P : Program} {w : World} {K : PySem.W.Frag} {h : Heap} {mg : Str → Option Value} {f : Addr} (X : K.In h) (G : h.Ns mainGlobals mg) (hfa : mg ("law" : Str) = some (.ref f)) (c : He.SaysX fa fn [] tf exB w h K) :
    ∃ fd : FuncData, (∀ (s : Shared) (v : Value), BindsTo s fd ⟨[v], []⟩ [("script", v)]) ∧ ∀ base : Heap, K.In base → base.Ns mainGlobals mg → (∀ p ∈ tf.map (He.cT K), LamX.TabB base mg p.1 p.2) → FnOk P w K mg base (L2.CX P w) 6 f fd ["script"] (spD K mg 1 d_law) := by
  obtain ⟨fd__law_tape, F__law_tape⟩ := c.t.d.def_ 0 (d := D__law_tape) rfl
  have g__law_tape := He.glo_ok X G (c.t.d.fact 0 (f := .glo "_law_tape") rfl)
  obtain ⟨fd__law_take, F__law_take⟩ := c.t.d.def_ 1 (d := D__law_take) rfl
  have g__law_take := He.glo_ok X G (c.t.d.fact 1 (f := .glo "_law_take") rfl)
  obtain ⟨fd__law_deed, F__law_deed⟩ := c.t.d.def_ 2 (d := D__law_deed) rfl
  have g__law_deed := He.glo_ok X G (c.t.d.fact 2 (f := .glo "_law_deed") rfl)
  obtain ⟨fd__law_world, F__law_world⟩ := c.t.d.def_ 3 (d := D__law_world) rfl
  have g__law_world := He.glo_ok X G (c.t.d.fact 3 (f := .glo "_law_world") rfl)
  obtain ⟨fd__law_subsets, F__law_subsets⟩ := c.t.d.def_ 4 (d := D__law_subsets) rfl
  have g__law_subsets := He.glo_ok X G (c.t.d.fact 4 (f := .glo "_law_subsets") rfl)
  obtain ⟨fd_after, F_after⟩ := c.t.d.def_ 5 (d := D_after) rfl
  have g_after := He.glo_ok X G (c.t.d.fact 5 (f := .glo "after") rfl)
  obtain ⟨fd_learnt, F_learnt⟩ := c.t.d.def_ 6 (d := D_learnt) rfl
  have g_learnt := He.glo_ok X G (c.t.d.fact 6 (f := .glo "learnt") rfl)
  obtain ⟨fd_is_facts, F_is_facts⟩ := c.t.d.def_ 7 (d := D_is_facts) rfl
  have g_is_facts := He.glo_ok X G (c.t.d.fact 7 (f := .glo "is_facts") rfl)
  obtain ⟨fd_check_deed, F_check_deed⟩ := c.t.d.def_ 8 (d := D_check_deed) rfl
  have g_check_deed := He.glo_ok X G (c.t.d.fact 8 (f := .glo "check_deed") rfl)
  obtain ⟨fd_check_world, F_check_world⟩ := c.t.d.def_ 9 (d := D_check_world) rfl
  have g_check_world := He.glo_ok X G (c.t.d.fact 9 (f := .glo "check_world") rfl)
  obtain ⟨fd_holds, F_holds⟩ := c.t.d.def_ 10 (d := D_holds) rfl
  have g_holds := He.glo_ok X G (c.t.d.fact 10 (f := .glo "holds") rfl)
  obtain ⟨fd_can, F_can⟩ := c.t.d.def_ 11 (d := D_can) rfl
  have g_can := He.glo_ok X G (c.t.d.fact 11 (f := .glo "can") rfl)
  obtain ⟨fd_next_states, F_next_states⟩ := c.t.d.def_ 12 (d := D_next_states) rfl
  have g_next_states := He.glo_ok X G (c.t.d.fact 12 (f := .glo "next_states") rfl)
  obtain ⟨fd_cheapest, F_cheapest⟩ := c.t.d.def_ 13 (d := D_cheapest) rfl
  have g_cheapest := He.glo_ok X G (c.t.d.fact 13 (f := .glo "cheapest") rfl)
  obtain ⟨fd_missing_facts, F_missing_facts⟩ := c.t.d.def_ 14 (d := D_missing_facts) rfl
  have g_missing_facts := He.glo_ok X G (c.t.d.fact 14 (f := .glo "missing_facts") rfl)
  obtain ⟨fd__law_after, F__law_after⟩ := c.t.d.def_ 15 (d := D__law_after) rfl
  have g__law_after := He.glo_ok X G (c.t.d.fact 15 (f := .glo "_law_after") rfl)
  obtain ⟨fd__law_fits, F__law_fits⟩ := c.t.d.def_ 16 (d := D__law_fits) rfl
  have g__law_fits := He.glo_ok X G (c.t.d.fact 16 (f := .glo "_law_fits") rfl)
  obtain ⟨fd__law_next, F__law_next⟩ := c.t.d.def_ 17 (d := D__law_next) rfl
  have g__law_next := He.glo_ok X G (c.t.d.fact 17 (f := .glo "_law_next") rfl)
  obtain ⟨fd__law_reached, F__law_reached⟩ := c.t.d.def_ 18 (d := D__law_reached) rfl
  have g__law_reached := He.glo_ok X G (c.t.d.fact 18 (f := .glo "_law_reached") rfl)
  obtain ⟨fd__law_costs, F__law_costs⟩ := c.t.d.def_ 19 (d := D__law_costs) rfl
  have g__law_costs := He.glo_ok X G (c.t.d.fact 19 (f := .glo "_law_costs") rfl)
  obtain ⟨fd__law_can, F__law_can⟩ := c.t.d.def_ 20 (d := D__law_can) rfl
  have g__law_can := He.glo_ok X G (c.t.d.fact 20 (f := .glo "_law_can") rfl)
  obtain ⟨fd_too_much, F_too_much⟩ := c.t.d.def_ 21 (d := D_too_much) rfl
  have g_too_much := He.glo_ok X G (c.t.d.fact 21 (f := .glo "too_much") rfl)
  obtain ⟨fd__law_deeds, F__law_deeds⟩ := c.t.d.def_ 22 (d := D__law_deeds) rfl
  have g__law_deeds := He.glo_ok X G (c.t.d.fact 22 (f := .glo "_law_deeds") rfl)
  obtain ⟨fd_explains, F_explains⟩ := c.t.d.def_ 23 (d := D_explains) rfl
  have g_explains := He.glo_ok X G (c.t.d.fact 23 (f := .glo "explains") rfl)
  obtain ⟨fd_law, F_law⟩ := c.t.d.def_ 24 (d := D_law) rfl
  have g_law := He.glo_ok X G (c.t.d.fact 24 (f := .glo "law") rfl)
  obtain ⟨fd__law_refused, F__law_refused⟩ := c.t.d.def_ 25 (d := D__law_refused) rfl
  have g__law_refused := He.glo_ok X G (c.t.d.fact 25 (f := .glo "_law_refused") rfl)
  have n_abs := He.free_ok X G (c.t.d.fact 26 (f := .free "abs") rfl)
  have n_all := He.free_ok X G (c.t.d.fact 27 (f := .free "all") rfl)
  have n_any := He.free_ok X G (c.t.d.fact 28 (f := .free "any") rfl)
  have n_dict := He.free_ok X G (c.t.d.fact 29 (f := .free "dict") rfl)
  have n_enumerate := He.free_ok X G (c.t.d.fact 30 (f := .free "enumerate") rfl)
  have n_int := He.free_ok X G (c.t.d.fact 31 (f := .free "int") rfl)
  have n_len := He.free_ok X G (c.t.d.fact 32 (f := .free "len") rfl)
  have n_min := He.free_ok X G (c.t.d.fact 33 (f := .free "min") rfl)
  have n_range := He.free_ok X G (c.t.d.fact 34 (f := .free "range") rfl)
  have n_sorted := He.free_ok X G (c.t.d.fact 35 (f := .free "sorted") rfl)
  have n_tuple := He.free_ok X G (c.t.d.fact 36 (f := .free "tuple") rfl)
  have n_zip := He.free_ok X G (c.t.d.fact 37 (f := .free "zip") rfl)
  obtain ⟨t_MOST_DEEDS, c_MOST_DEEDS⟩ := He.int_ok X G (c.t.d.fact 38 (f := .int "MOST_DEEDS" 24) rfl)
  obtain ⟨t_MOST_FACTS, c_MOST_FACTS⟩ := He.int_ok X G (c.t.d.fact 39 (f := .int "MOST_FACTS" 12) rfl)
  have gc_InvalidPlan := He.glo_ok X G (c.t.d.fact 40 (f := .glo "InvalidPlan") rfl)
  have x_InvalidPlan : ExC K mg "InvalidPlan" := by obtain ⟨a1, a2, a3, a4⟩ := He.exc_ok (c.t.d.fact 41 (f := .exc "InvalidPlan") rfl); exact ⟨_, gc_InvalidPlan, a1, a2, a3, a4⟩
  have gc_InvalidWorld := He.glo_ok X G (c.t.d.fact 42 (f := .glo "InvalidWorld") rfl)
  have x_InvalidWorld : ExC K mg "InvalidWorld" := by obtain ⟨a1, a2, a3, a4⟩ := He.exc_ok (c.t.d.fact 43 (f := .exc "InvalidWorld") rfl); exact ⟨_, gc_InvalidWorld, a1, a2, a3, a4⟩
  have e__law_refused := He.glo_ok X G (c.t.d.fact 44 (f := .glo "PlanError") rfl)
  have xs__law_refused : ∀ c ∈ cs__law_refused, ∀ C, mg c = some (.ref C) → PySem.W.exmOne K (.ref C) (.ref (He.ga K "PlanError")) = some true := by
    exact all_cons (fun C hC => by cases gc_InvalidPlan.symm.trans hC; exact He.exm_ok (c.t.d.fact 46 (f := .exm "InvalidPlan" "PlanError" true) rfl)) (all_cons (fun C hC => by cases gc_InvalidWorld.symm.trans hC; exact He.exm_ok (c.t.d.fact 45 (f := .exm "InvalidWorld" "PlanError" true) rfl)) (all_nil))
  have e0 := hfa.symm.trans g_law
  cases e0
  have b := FunD.bindsA (ps := ["script"]) F_law fun _ _ _ _ _ _ us hl => match us, hl with | [_], _ => rfl
  exact ⟨fd_law, fun s v => b s [v] rfl, fun base _ _ tb => ok_law { a__law_tape := _, fd__law_tape := _, F__law_tape := F__law_tape, g__law_tape := g__law_tape, a__law_take := _, fd__law_take := _, F__law_take := F__law_take, g__law_take := g__law_take, a__law_deed := _, fd__law_deed := _, F__law_deed := F__law_deed, g__law_deed := g__law_deed, a__law_world := _, fd__law_world := _, F__law_world := F__law_world, g__law_world := g__law_world, a__law_subsets := _, fd__law_subsets := _, F__law_subsets := F__law_subsets, g__law_subsets := g__law_subsets, a_after := _, fd_after := _, F_after := F_after, g_after := g_after, a_learnt := _, fd_learnt := _, F_learnt := F_learnt, g_learnt := g_learnt, a_is_facts := _, fd_is_facts := _, F_is_facts := F_is_facts, g_is_facts := g_is_facts, a_check_deed := _, fd_check_deed := _, F_check_deed := F_check_deed, g_check_deed := g_check_deed, a_check_world := _, fd_check_world := _, F_check_world := F_check_world, g_check_world := g_check_world, a_holds := _, fd_holds := _, F_holds := F_holds, g_holds := g_holds, a_can := _, fd_can := _, F_can := F_can, g_can := g_can, a_next_states := _, fd_next_states := _, F_next_states := F_next_states, g_next_states := g_next_states, a_cheapest := _, fd_cheapest := _, F_cheapest := F_cheapest, g_cheapest := g_cheapest, a_missing_facts := _, fd_missing_facts := _, F_missing_facts := F_missing_facts, g_missing_facts := g_missing_facts, a__law_after := _, fd__law_after := _, F__law_after := F__law_after, g__law_after := g__law_after, a__law_fits := _, fd__law_fits := _, F__law_fits := F__law_fits, g__law_fits := g__law_fits, a__law_next := _, fd__law_next := _, F__law_next := F__law_next, g__law_next := g__law_next, a__law_reached := _, fd__law_reached := _, F__law_reached := F__law_reached, g__law_reached := g__law_reached, a__law_costs := _, fd__law_costs := _, F__law_costs := F__law_costs, g__law_costs := g__law_costs, a__law_can := _, fd__law_can := _, F__law_can := F__law_can, g__law_can := g__law_can, a_too_much := _, fd_too_much := _, F_too_much := F_too_much, g_too_much := g_too_much, a__law_deeds := _, fd__law_deeds := _, F__law_deeds := F__law_deeds, g__law_deeds := g__law_deeds, a_explains := _, fd_explains := _, F_explains := F_explains, g_explains := g_explains, a_law := _, fd_law := _, F_law := F_law, g_law := g_law, a__law_refused := _, fd__law_refused := _, F__law_refused := F__law_refused, g__law_refused := g__law_refused, n_abs := n_abs, n_all := n_all, n_any := n_any, n_dict := n_dict, n_enumerate := n_enumerate, n_int := n_int, n_len := n_len, n_min := n_min, n_range := n_range, n_sorted := n_sorted, n_tuple := n_tuple, n_zip := n_zip, t_MOST_DEEDS := _, c_MOST_DEEDS := c_MOST_DEEDS, t_MOST_FACTS := _, c_MOST_FACTS := c_MOST_FACTS, x_InvalidPlan := x_InvalidPlan, x_InvalidWorld := x_InvalidWorld, c__law_refused := _, e__law_refused := e__law_refused, xs__law_refused := xs__law_refused, kt_cheapest := kt_of (p := ("cheapest", none)) F_cheapest rfl (tb _ (List.mem_map.mpr ⟨("cheapest", none), by simp [tf], rfl⟩)) (List.mem_map.mpr ⟨("cheapest", none), by simp [tf], rfl⟩) c.more, kt_law := kt_of (p := ("law", none)) F_law rfl (tb _ (List.mem_map.mpr ⟨("law", none), by simp [tf], rfl⟩)) (List.mem_map.mpr ⟨("law", none), by simp [tf], rfl⟩) c.more, kt_missing_facts := kt_of (p := ("missing_facts", none)) F_missing_facts rfl (tb _ (List.mem_map.mpr ⟨("missing_facts", none), by simp [tf], rfl⟩)) (List.mem_map.mpr ⟨("missing_facts", none), by simp [tf], rfl⟩) c.more, kt_too_much := kt_of (p := ("too_much", none)) F_too_much rfl (tb _ (List.mem_map.mpr ⟨("too_much", none), by simp [tf], rfl⟩)) (List.mem_map.mpr ⟨("too_much", none), by simp [tf], rfl⟩) c.more }⟩
end Z


open PySem PySem.W PySem.Calls PyProof.Rows
theorem PySem.Challenge.cw_noshorterplan_k18_whole_why_and_what_is_holds : PySem.Challenge.rw_noshorterplan_k18_whole_why_and_what_is.Holds := by
  w_on; o_law
  refine HandSHeadRun.head_any (r := OpenLaw.row PySem.Challenge.rw_noshorterplan_k18_whole_why_and_what_is) (q := view (OpenLaw.row PySem.Challenge.rw_noshorterplan_k18_whole_why_and_what_is).prog [35]) (H := Z.hk) (ob := Z.ob) (M := 3000) (loose := Z.loose) (d := HandSHeadRun.topDef (OpenLaw.row PySem.Challenge.rw_noshorterplan_k18_whole_why_and_what_is).prog 35) (kwd := []) Z.ob_eq
    (by kernel_rfl) (fun s => by kernel_rfl) Z.run (by kernel_rfl) (by kernel_rfl) (by kernel_rfl) (by rfl) (by first | assumption | decide +kernel) (by decide +kernel) ⟨rfl, rfl, rfl, rfl, rfl, by decide +kernel⟩ ?hw ?hc
  case hw => w_witness2
  case hc =>
    refine LamX.walk_ofTsE (l := PySem.Challenge.rw_noshorterplan_k18_whole_why_and_what_is) (n := 63) (k := 6) (x := "script") (CX := fun w => L2.CX (PySem.Challenge.rw_noshorterplan_k18_whole_why_and_what_is).prog w) rfl (by decide) (by kernel_rfl) ⟨rfl, by decide, by decide⟩ ?F (fun _ _ _ _ _ z => by obtain ⟨_, _, _, _, _, _, _, _, _, _, _, _, z⟩ := z; exact z)
    intro w mg fa h Y G hmg0
    obtain ⟨K, KX, c⟩ := Y
    have hmg : mg ("law" : PySem.Str) = some (.ref fa) := by
      have e : (HandSHeadRun.topDef (OpenLaw.row PySem.Challenge.rw_noshorterplan_k18_whole_why_and_what_is).prog 35).name = ("law" : PySem.Str) := by kernel_rfl
      rw [← e]
      exact hmg0
    obtain ⟨fd, hb, hF⟩ := Z.facts (P := (PySem.Challenge.rw_noshorterplan_k18_whole_why_and_what_is).prog) (w := w) KX G hmg c
    exact ⟨K, KX, fd, Z.tf.map (He.cT K), Z.spD K mg 1 Z.d_law, fun p hp => by obtain ⟨q, hq, rfl⟩ := List.mem_map.mp hp; exact c.empty q hq, fun p hp => by obtain ⟨q, hq, rfl⟩ := List.mem_map.mp hp; exact c.out q hq,
      fun p hp => by obtain ⟨q, hq, rfl⟩ := List.mem_map.mp hp; exact PySem.W.codeHd_of_K KX (c.hd q hq), hb,
      fun H a ns hl _ hT hS => Z.law_endT (fun p hp => by obtain ⟨q, hq, rfl⟩ := List.mem_map.mp hp; exact hT _ (List.mem_map.mpr ⟨q, hq, rfl⟩)) hS (Z.law_true ns hl), fun base h1 h2 h3 => hF base h1 h2 h3⟩

#print axioms PySem.Challenge.cw_noshorterplan_k18_whole_why_and_what_is_holds
