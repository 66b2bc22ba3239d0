/-
  The evaluator: EzM1 EzM2 EzM3 EzM4 EzM5 EzM6 EzM7.
-/
import Derived.Test.YtkefahdbckjajaaGreatDoorEzO1
import Derived.Test.YtkefahdbckjajaaGreatDoorEzO2
/-
  Trees as plain values: nodes, depths, children, what is left when nodes go.
-/
set_option linter.unusedSimpArgs false
set_option linter.unusedVariables false
namespace Go.Ev
open Go

/-- A node; its qualifiers are some of the two of the examples. -/
structure Nd where
  par : Int
  pol : Oid
  ex : List Oid
  q : List Bool
deriving DecidableEq

/-! ### How many are there below an index -/
def rk (A : Nat → Bool) : Nat → Nat
  | 0 => 0
  | i + 1 => rk A i + (if A i then 1 else 0)
theorem rk_le (A : Nat → Bool) : ∀ i, rk A i ≤ i
  | 0 => Nat.le_refl _
  | i + 1 => by have := rk_le A i; unfold rk; split <;> omega
theorem rk_mono {A : Nat → Bool} {i : Nat} : ∀ {j}, i ≤ j → rk A i ≤ rk A j
  | 0, h => by obtain rfl : i = 0 := by omega
               exact Nat.le_refl _
  | j + 1, h => by
    by_cases hij : i = j + 1
    · subst hij; exact Nat.le_refl _
    · have := rk_mono (A := A) (i := i) (j := j) (by omega)
      rw [show rk A (j + 1) = rk A j + (if A j then 1 else 0) from rfl]; omega
theorem rk_lt {A : Nat → Bool} {i j : Nat} (h : i < j) (hi : A i = true) : rk A i < rk A j := by
  have : rk A (i + 1) ≤ rk A j := rk_mono (by omega)
  have h1 : rk A (i + 1) = rk A i + 1 := by rw [rk, if_pos hi]
  omega
theorem rk_congr {A B : Nat → Bool} : ∀ {n : Nat}, (∀ i, i < n → A i = B i) → rk A n = rk B n
  | 0, _ => rfl
  | n + 1, h => by rw [rk, rk, rk_congr (n := n) (fun i hi => h i (by omega)), h n (by omega)]
/-! ### The nodes that stay, renumbered -/
def mv (l : List Nd) (A : Nat → Bool) (n : Nd) : Nd := { n with par := if n.par < 0 then n.par else (rk A n.par.toNat : Int) }
def sub (l : List Nd) (A : Nat → Bool) : Nat → List Nd
  | 0 => []
  | i + 1 => match l[i]? with
    | none => sub l A i
    | some n => if A i then sub l A i ++ [mv l A n] else sub l A i
theorem sub_succ {l : List Nd} {A : Nat → Bool} {i : Nat} (h : i < l.length) : sub l A (i + 1) = if A i then sub l A i ++ [mv l A l[i]] else sub l A i := by
  rw [sub, List.getElem?_eq_getElem h]
theorem sub_len {l : List Nd} {A : Nat → Bool} : ∀ {i : Nat}, i ≤ l.length → (sub l A i).length = rk A i
  | 0, _ => rfl
  | i + 1, h => by
    rw [sub_succ (by omega), rk]
    have := sub_len (l := l) (A := A) (i := i) (by omega)
    split <;> simp [this]
theorem sub_get {l : List Nd} {A : Nat → Bool} : ∀ {n i : Nat} (hn : n ≤ l.length) (hi : i < n), A i = true → (sub l A n)[rk A i]? = some (mv l A (l[i]'(by omega)))
  | 0, i, _, hi, _ => by omega
  | n + 1, i, hn, hi, ha => by
    rw [sub_succ (by omega)]
    by_cases hin : i = n
    · subst hin
      rw [if_pos ha, List.getElem?_append_right (by rw [sub_len (by omega)]; exact Nat.le_refl _), sub_len (by omega)]; simp
    · have ih := sub_get (l := l) (A := A) (n := n) (i := i) (by omega) (by omega) ha
      split
      · rw [List.getElem?_append_left (by rw [sub_len (by omega)]; exact rk_lt (by omega) ha)]; exact ih
      · exact ih
/-- What is left. -/
def left (l : List Nd) (A : Nat → Bool) : List Nd := sub l A l.length
theorem left_len (l : List Nd) (A : Nat → Bool) : (left l A).length = rk A l.length := sub_len (Nat.le_refl _)
theorem left_get {l : List Nd} {A : Nat → Bool} {i : Nat} (hi : i < l.length) (ha : A i = true) : (left l A)[rk A i]? = some (mv l A l[i]) := sub_get (Nat.le_refl _) hi ha
theorem list_ext_get {α : Type} {a b : List α} (hl : a.length = b.length) (h : ∀ i, i < a.length → a[i]? = b[i]?) : a = b := by
  apply List.ext_getElem? 
  intro i
  by_cases hi : i < a.length
  · exact h i hi
  · rw [List.getElem?_eq_none (by omega), List.getElem?_eq_none (by omega)]
theorem left_congr {l : List Nd} {A B : Nat → Bool} (h : ∀ i, i < l.length → A i = B i) (hp : ∀ n, n ∈ l → n.par < l.length) : left l A = left l B := by
  have e : ∀ n, n ∈ l → mv l A n = mv l B n := fun n hn => by
    unfold mv
    have := hp n hn
    split
    · rfl
    · rw [rk_congr (A := A) (B := B) (fun i hi => h i (by omega))]
  have : ∀ i, i ≤ l.length → sub l A i = sub l B i := fun i => by
    induction i with
    | zero => intro _; rfl
    | succ i ih =>
      intro hi
      rw [sub_succ (by omega), sub_succ (by omega), ih (by omega), h i (by omega), e _ (List.getElem_mem _)]
  exact this _ (Nat.le_refl _)
theorem left_all (l : List Nd) (hp : ∀ n, n ∈ l → n.par < l.length) : left l (fun _ => true) = l := by
  have hr : ∀ i, rk (fun _ => true) i = i := fun i => by
    induction i with
    | zero => rfl
    | succ i ih => rw [rk, ih]; rfl
  refine list_ext_get (by rw [left_len, hr]) fun j hj => ?_
  rw [left_len, hr] at hj
  have := left_get (l := l) (A := fun _ => true) hj rfl
  rw [hr] at this
  rw [this, List.getElem?_eq_getElem hj]
  unfold mv
  congr 1
  have : l[j].par = if l[j].par < 0 then l[j].par else (rk (fun _ => true) l[j].par.toNat : Int) := by
    rw [hr]; split <;> omega
  rw [← this]

/-! ### Shapes, depths -/
def parN (l : List Nd) (i : Nat) : Nat := match l[i]? with
  | none => 0
  | some n => n.par.toNat
structure Shape (l : List Nd) : Prop where
  root : ∀ n, l[0]? = some n → n.par = -1
  lt : ∀ (i : Nat) (n : Nd), 0 < i → l[i]? = some n → 0 ≤ n.par ∧ n.par < (i : Int)
theorem Shape.par {l : List Nd} (h : Shape l) {i : Nat} (hi : i < l.length) (h0 : 0 < i) : l[i].par = (parN l i : Int) ∧ parN l i < i := by
  have := h.lt i l[i] h0 (List.getElem?_eq_getElem hi)
  unfold parN
  rw [List.getElem?_eq_getElem hi]
  dsimp only
  omega
theorem Shape.par_lt {l : List Nd} (h : Shape l) : ∀ n, n ∈ l → n.par < l.length := fun n hn => by
  obtain ⟨i, hi, rfl⟩ := List.getElem_of_mem hn
  by_cases h0 : i = 0
  · subst h0
    have := h.root _ (List.getElem?_eq_getElem hi)
    omega
  · have := h.par hi (by omega); omega
def depF (l : List Nd) : Nat → Nat → Nat
  | 0, _ => 0
  | f + 1, i => if i = 0 then 0 else depF l f (parN l i) + 1
def dep (l : List Nd) (i : Nat) : Nat := depF l i i
theorem depF_eq {l : List Nd} (h : Shape l) : ∀ {f g i : Nat}, i < l.length → i ≤ f → i ≤ g → depF l f i = depF l g i
  | 0, 0, i, _, _, _ => rfl
  | 0, g + 1, i, _, hf, _ => by obtain rfl : i = 0 := by omega
                                simp [depF]
  | f + 1, 0, i, _, _, hg => by obtain rfl : i = 0 := by omega
                                simp [depF]
  | f + 1, g + 1, i, hi, hf, hg => by
    unfold depF
    by_cases h0 : i = 0
    · rw [if_pos h0, if_pos h0]
    · rw [if_neg h0, if_neg h0]
      have := (h.par hi (by omega)).2
      rw [depF_eq h (f := f) (g := g) (by omega) (by omega) (by omega)]
theorem dep_zero (l : List Nd) : dep l 0 = 0 := rfl
theorem dep_pos {l : List Nd} (h : Shape l) {i : Nat} (hi : i < l.length) (h0 : 0 < i) : dep l i = dep l (parN l i) + 1 := by
  obtain ⟨j, rfl⟩ : ∃ j, i = j + 1 := ⟨i - 1, by omega⟩
  have := (h.par hi h0).2
  unfold dep
  rw [depF, if_neg (by omega), depF_eq h (f := j) (g := parN l (j + 1)) (by omega) (by omega) (by omega)]
theorem dep_le (l : List Nd) : ∀ i, dep l i ≤ i := fun i => by
  have : ∀ f i, depF l f i ≤ f := fun f => by
    induction f with
    | zero => intro i; exact Nat.le_refl _
    | succ f ih => intro i; unfold depF; split
                   · omega
                   · have := ih (parN l i); omega
  exact this i i

/-! ### Alive, childless, staying -/
/-- Whoever is alive has its parent alive. -/
def Up (l : List Nd) (A : Nat → Bool) : Prop := ∀ i, i < l.length → 0 < i → A i = true → A (parN l i) = true
theorem Up.root {l : List Nd} (h : Shape l) {A : Nat → Bool} (hu : Up l A) : ∀ i, i < l.length → A i = true → A 0 = true := fun i => by
  induction i using Nat.strongRecOn with
  | _ i ih =>
    intro hi ha
    by_cases h0 : i = 0
    · subst h0; exact ha
    · have := (h.par hi (by omega)).2
      exact ih _ this (by omega) (hu i hi (by omega) ha)
/-- Has an alive child. -/
def kid (l : List Nd) (A : Nat → Bool) (i : Nat) : Bool := (List.range l.length).any fun k => decide (0 < k) && A k && decide (parN l k = i)
theorem kid_iff {l : List Nd} {A : Nat → Bool} {i : Nat} : kid l A i = true ↔ ∃ k, k < l.length ∧ 0 < k ∧ A k = true ∧ parN l k = i := by
  unfold kid
  simp only [List.any_eq_true, List.mem_range, Bool.and_eq_true, decide_eq_true_eq]
  constructor
  · rintro ⟨k, h1, ⟨h2, h3⟩, h4⟩; exact ⟨k, h1, h2, h3, h4⟩
  · rintro ⟨k, h1, h2, h3, h4⟩; exact ⟨k, h1, ⟨h2, h3⟩, h4⟩
/-- Alive, above the depth, without alive children. -/
def chl (l : List Nd) (A : Nat → Bool) (d i : Nat) : Bool := A i && decide (dep l i < d) && !kid l A i
def stF (l : List Nd) (d : Nat) : Nat → Nat → Bool
  | 0, _ => false
  | f + 1, i => decide (d ≤ dep l i) || (List.range l.length).any fun k => decide (0 < k) && stF l d f k && decide (parN l k = i)
/-- Is of the depth, or has a descendant that is. -/
def stays (l : List Nd) (d i : Nat) : Bool := stF l d (l.length - i) i
theorem stF_eq {l : List Nd} (h : Shape l) (d : Nat) : ∀ (f g i : Nat), l.length - i ≤ f → l.length - i ≤ g → i < l.length → stF l d f i = stF l d g i
  | 0, g, i, hf, hg, hi => by omega
  | f + 1, 0, i, hf, hg, hi => by omega
  | f + 1, g + 1, i, hf, hg, hi => by
    unfold stF
    congr 1
    have : ∀ k, k < l.length → (decide (0 < k) && stF l d f k && decide (parN l k = i)) = (decide (0 < k) && stF l d g k && decide (parN l k = i)) := fun k hk => by
      by_cases hp : parN l k = i
      · by_cases h0 : 0 < k
        · have := (h.par hk h0).2
          rw [stF_eq h d f g k (by omega) (by omega) hk]
        · rw [decide_eq_false h0]; rfl
      · rw [decide_eq_false hp, Bool.and_false, Bool.and_false]
    rw [Bool.eq_iff_iff, List.any_eq_true, List.any_eq_true]
    constructor
    · rintro ⟨k, hk, e⟩; exact ⟨k, hk, by rw [← this k (List.mem_range.1 hk)]; exact e⟩
    · rintro ⟨k, hk, e⟩; exact ⟨k, hk, by rw [this k (List.mem_range.1 hk)]; exact e⟩
theorem stays_iff {l : List Nd} (h : Shape l) {d i : Nat} (hi : i < l.length) : stays l d i = true ↔ d ≤ dep l i ∨ ∃ k, k < l.length ∧ 0 < k ∧ stays l d k = true ∧ parN l k = i := by
  unfold stays
  obtain ⟨f, hf⟩ : ∃ f, l.length - i = f + 1 := ⟨l.length - i - 1, by omega⟩
  rw [hf, stF]
  simp only [Bool.or_eq_true, decide_eq_true_eq, List.any_eq_true, List.mem_range, Bool.and_eq_true]
  constructor
  · rintro (h1 | ⟨k, h1, ⟨h2, h3⟩, h4⟩)
    · exact .inl h1
    · have := (h.par h1 h2).2
      exact .inr ⟨k, h1, h2, by rw [stF_eq h d (l.length - k) f k (by omega) (by omega) h1]; exact h3, h4⟩
  · rintro (h1 | ⟨k, h1, h2, h3, h4⟩)
    · exact .inl h1
    · have := (h.par h1 h2).2
      exact .inr ⟨k, h1, ⟨h2, by rw [← stF_eq h d (l.length - k) f k (by omega) (by omega) h1]; exact h3⟩, h4⟩
/-- What can come of a tree by deleting childless nodes. -/
structure Live (l : List Nd) (d : Nat) (A : Nat → Bool) : Prop where
  up : Up l A
  st : ∀ i, i < l.length → stays l d i = true → A i = true
theorem Live.all (l : List Nd) (d : Nat) : Live l d (fun _ => true) := ⟨fun _ _ _ _ => rfl, fun _ _ _ => rfl⟩
def del (A : Nat → Bool) (x : Nat) : Nat → Bool := fun i => A i && !decide (i = x)
theorem Live.del {l : List Nd} (h : Shape l) {d : Nat} {A : Nat → Bool} (hl : Live l d A) {x : Nat} (hx : x < l.length) (hc : chl l A d x = true) : Live l d (del A x) := by
  unfold chl at hc
  simp only [Bool.and_eq_true, decide_eq_true_eq, Bool.not_eq_true'] at hc
  obtain ⟨⟨h1, h2⟩, h3⟩ := hc
  have nokid : ∀ k, k < l.length → 0 < k → A k = true → parN l k ≠ x := fun k hk h0 ha e => by
    have : kid l A x = true := kid_iff.2 ⟨k, hk, h0, ha, e⟩
    rw [h3] at this; cases this
  refine ⟨fun i hi h0 ha => ?_, fun i hi hs => ?_⟩
  · unfold Go.Ev.del at ha ⊢
    simp only [Bool.and_eq_true, Bool.not_eq_true', decide_eq_false_iff_not] at ha ⊢
    exact ⟨hl.up i hi h0 ha.1, nokid i hi h0 ha.1⟩
  · unfold Go.Ev.del
    simp only [Bool.and_eq_true, Bool.not_eq_true', decide_eq_false_iff_not]
    refine ⟨hl.st i hi hs, fun e => ?_⟩
    subst e
    rcases (stays_iff h hi).1 hs with hd | ⟨k, hk, h0, hsk, hp⟩
    · omega
    · exact nokid k hk h0 (hl.st k hk hsk) hp
theorem Live.done {l : List Nd} (h : Shape l) {d : Nat} {A : Nat → Bool} (hl : Live l d A) (hn : ∀ i, i < l.length → chl l A d i = false) : ∀ i, i < l.length → A i = stays l d i := by
  have key : ∀ f i, l.length - i ≤ f → i < l.length → A i = true → stays l d i = true := fun f => by
    induction f with
    | zero => intro i h1 h2; omega
    | succ f ih =>
      intro i hf hi ha
      rw [stays_iff h hi]
      by_cases hd : d ≤ dep l i
      · exact .inl hd
      · have := hn i hi
        unfold chl at this
        rw [ha, decide_eq_true (by omega)] at this
        simp only [Bool.true_and, Bool.not_eq_false'] at this
        obtain ⟨k, h1, h2, h3, h4⟩ := kid_iff.1 this
        have hlt := (h.par h1 h2).2
        exact .inr ⟨k, h1, h2, ih k (by omega) h1 h3, h4⟩
  intro i hi
  cases ha : A i with
  | true => exact (key _ i (Nat.le_refl _) hi ha).symm
  | false =>
    cases hs : stays l d i with
    | false => rfl
    | true => rw [hl.st i hi hs] at ha; cases ha

/-! ### In what is left -/
section
variable {l : List Nd} (h : Shape l) {A : Nat → Bool} (hu : Up l A)
include h hu
end
end Go.Ev

/-
  Pruning one node after another: whatever the order, what is left is what stays.
-/
set_option linter.unusedSimpArgs false
set_option linter.unusedVariables false
namespace Go.Ev
open Go

/-- The childless nodes above a depth, ascending. -/
def clist (l : List Nd) (A : Nat → Bool) (d : Nat) : List Nat := (List.range l.length).filter (chl l A d)
theorem clist_mem {l : List Nd} {A : Nat → Bool} {d i : Nat} : i ∈ clist l A d ↔ i < l.length ∧ chl l A d i = true := by
  unfold clist; rw [List.mem_filter, List.mem_range]
/-- Deleting by choices: 'ch k n': which of n, in round k. -/
def pby (l : List Nd) (d : Nat) (ch : Nat → Nat → Nat) : Nat → (Nat → Bool) → Nat → (Nat → Bool) × Nat
  | 0, A, k => (A, k)
  | f + 1, A, k => match clist l A d with
    | [] => (A, k)
    | x :: r => pby l d ch f (del A ((x :: r).getD (ch k (x :: r).length) 0)) (k + 1)
theorem pby_nil {l : List Nd} {d : Nat} {ch : Nat → Nat → Nat} {f : Nat} {A : Nat → Bool} {k : Nat} (h : clist l A d = []) : pby l d ch f A k = (A, k) := by
  cases f with
  | zero => rfl
  | succ f => rw [pby, h]
theorem pby_cons {l : List Nd} {d : Nat} {ch : Nat → Nat → Nat} {f : Nat} {A : Nat → Bool} {k : Nat} (h : clist l A d ≠ []) : pby l d ch (f + 1) A k = pby l d ch f (del A ((clist l A d).getD (ch k (clist l A d).length) 0)) (k + 1) := by
  rw [pby]
  cases hc : clist l A d with
  | nil => exact absurd hc h
  | cons x r => rfl
theorem rk_del {A : Nat → Bool} {x : Nat} (ha : A x = true) : ∀ {n : Nat}, rk (del A x) n + (if x < n then 1 else 0) = rk A n
  | 0 => by simp [rk]
  | n + 1 => by
    have ih := rk_del ha (n := n)
    have e : del A x n = (A n && !decide (n = x)) := rfl
    rw [rk, rk, e]
    by_cases hx : n = x
    · subst hx
      have e1 : (if n < n then 1 else 0 : Nat) = 0 := if_neg (by omega)
      have e2 : (if n < n + 1 then 1 else 0 : Nat) = 1 := if_pos (by omega)
      rw [e1] at ih
      rw [e2, ha, decide_eq_true rfl]
      simp
      omega
    · rw [decide_eq_false hx, Bool.not_false, Bool.and_true]
      have e2 : (if x < n + 1 then 1 else 0 : Nat) = (if x < n then 1 else 0 : Nat) := by
        by_cases h2 : x < n
        · rw [if_pos h2, if_pos (by omega)]
        · rw [if_neg h2, if_neg (by omega)]
      rw [e2]; omega
theorem getD_mem {α : Type} {l : List α} {i : Nat} {d : α} (h : i < l.length) : l.getD i d ∈ l := by
  rw [List.getD_eq_getElem?_getD, List.getElem?_eq_getElem h]; exact List.getElem_mem h

structure PbyOk (l : List Nd) (d : Nat) (A : Nat → Bool) (k : Nat) (r : (Nat → Bool) × Nat) : Prop where
  live : Live l d r.1
  done : ∀ i, i < l.length → r.1 i = stays l d i
  num : r.2 + rk r.1 l.length = k + rk A l.length
  none : clist l r.1 d = []
theorem pby_ok {l : List Nd} (h : Shape l) {d : Nat} {ch : Nat → Nat → Nat} (hch : ∀ k n, 0 < n → ch k n < n) : ∀ (f : Nat) (A : Nat → Bool) (k : Nat), Live l d A → rk A l.length < f → PbyOk l d A k (pby l d ch f A k)
  | 0, A, k, _, hf => by omega
  | f + 1, A, k, hl, hf => by
    by_cases hc : clist l A d = []
    · rw [pby_nil hc]
      refine ⟨hl, hl.done h fun i hi => ?_, rfl, hc⟩
      cases hh : chl l A d i with
      | false => rfl
      | true =>
        have : i ∈ clist l A d := clist_mem.2 ⟨hi, hh⟩
        rw [hc] at this; cases this
    · rw [pby_cons hc]
      have hn : 0 < (clist l A d).length := List.length_pos_iff.2 hc
      have hm := clist_mem.1 (getD_mem (d := 0) (hch k _ hn))
      have ha : A ((clist l A d).getD (ch k (clist l A d).length) 0) = true := by
        have := hm.2
        unfold chl at this
        simp only [Bool.and_eq_true] at this
        exact this.1.1
      have hr := rk_del ha (n := l.length)
      rw [if_pos hm.1] at hr
      have ih := pby_ok h hch f _ (k + 1) (hl.del h hm.1 hm.2) (by omega)
      exact ⟨ih.live, ih.done, by have := ih.num; omega, ih.none⟩
/-! ### Whoever is under one of some nodes -/
def undF (l : List Nd) (at_ : List Int) : Nat → Nat → Bool
  | 0, _ => false
  | f + 1, i => at_.contains (i : Int) || (decide (0 < i) && undF l at_ f (parN l i))
def und (l : List Nd) (at_ : List Int) (i : Nat) : Bool := undF l at_ (i + 1) i
theorem undF_eq {l : List Nd} (h : Shape l) (at_ : List Int) : ∀ (f g i : Nat), i < l.length → i < f → i < g → undF l at_ f i = undF l at_ g i
  | 0, g, i, _, hf, _ => by omega
  | f + 1, 0, i, _, _, hg => by omega
  | f + 1, g + 1, i, hi, hf, hg => by
    unfold undF
    congr 1
    by_cases h0 : 0 < i
    · have := (h.par hi h0).2
      rw [undF_eq h at_ f g _ (by omega) (by omega) (by omega)]
    · rw [decide_eq_false h0]; rfl
theorem und_step {l : List Nd} (h : Shape l) (at_ : List Int) {i : Nat} (hi : i < l.length) : und l at_ i = (at_.contains (i : Int) || (decide (0 < i) && und l at_ (parN l i))) := by
  unfold und
  rw [undF]
  congr 1
  by_cases h0 : 0 < i
  · have := (h.par hi h0).2
    rw [undF_eq h at_ i (parN l i + 1) _ (by omega) (by omega) (by omega)]
  · rw [decide_eq_false h0]; rfl
end Go.Ev

/-
  Valid trees; one more node.
-/
set_option linter.unusedSimpArgs false
set_option linter.unusedVariables false
namespace Go.Ev
open Go

/-! ### The order of policies -/
theorem cmpL_swap : ∀ (a b : List Nat), cmpL b a = -cmpL a b
  | [], [] => rfl
  | [], _ :: _ => rfl
  | _ :: _, [] => rfl
  | x :: a, y :: b => by
    unfold cmpL
    rcases Nat.lt_trichotomy x y with h | h | h
    · rw [if_pos h, if_neg (by omega), if_pos h]; rfl
    · subst h; rw [if_neg (by omega), if_neg (by omega), if_neg (by omega), if_neg (by omega)]; exact cmpL_swap a b
    · rw [if_pos h, if_neg (by omega), if_pos h]
theorem cmpL_zero : ∀ {a b : List Nat}, cmpL a b = 0 → a = b
  | [], [], _ => rfl
  | [], _ :: _, h => by simp [cmpL] at h
  | _ :: _, [], h => by simp [cmpL] at h
  | x :: a, y :: b, h => by
    unfold cmpL at h
    rcases Nat.lt_trichotomy x y with h1 | h1 | h1
    · rw [if_pos h1] at h; omega
    · subst h1
      rw [if_neg (by omega), if_neg (by omega)] at h
      rw [cmpL_zero h]
    · rw [if_neg (by omega), if_pos h1] at h; omega
theorem cmpL_self : ∀ (a : List Nat), cmpL a a = 0
  | [] => rfl
  | x :: a => by unfold cmpL; rw [if_neg (by omega), if_neg (by omega)]; exact cmpL_self a
theorem Oid.cmp_swap (a b : Oid) : b.cmp a = -a.cmp b := cmpL_swap _ _
theorem Oid.cmp_self (a : Oid) : a.cmp a = 0 := cmpL_self _
theorem all_zero_eq : ∀ {l m : List Nat}, l.length = m.length → (l.all fun x => decide (x = 0)) = true → (m.all fun x => decide (x = 0)) = true → l = m
  | [], [], _, _, _ => rfl
  | [], _ :: _, h, _, _ => by simp at h
  | _ :: _, [], h, _, _ => by simp at h
  | x :: l, y :: m, h, h1, h2 => by
    simp only [List.all_cons, Bool.and_eq_true, decide_eq_true_eq] at h1 h2
    rw [h1.1, h2.1, all_zero_eq (by simpa using h) h1.2 h2.2]
/-- Valid ones that compare as equal are equal. -/
theorem Oid.cmp_zero {a b : Oid} (ha : a.ok) (hb : b.ok) (ga : a.good = true) (gb : b.good = true) (h : a.cmp b = 0) : a = b := by
  have e := cmpL_zero h
  unfold Oid.good at ga gb
  simp only [Bool.and_eq_true, decide_eq_true_eq] at ga gb
  unfold Oid.arcs at e
  rw [Nat.min_eq_left ga.1.1.2, Nat.min_eq_left gb.1.1.2] at e
  have hn : a.n = b.n := by
    have := congrArg List.length e
    rw [List.length_take, List.length_take, ha.len, hb.len, Nat.min_eq_left ga.1.1.2, Nat.min_eq_left gb.1.1.2] at this
    exact this
  have hd : a.a.drop a.n = b.a.drop b.n := all_zero_eq (by rw [List.length_drop, List.length_drop, ha.len, hb.len, hn]) ga.1.2 gb.1.2
  obtain ⟨n, l⟩ := a
  obtain ⟨m, l'⟩ := b
  dsimp only at hn e hd
  subst hn
  rw [Oid.mk.injEq]
  exact ⟨rfl, by rw [← List.take_append_drop n l, ← List.take_append_drop n l', e, hd]⟩

/-! ### What is wrong with a node -/
structure Nd.ok (n : Nd) : Prop where
  pol : n.pol.ok
  ex : ∀ o, o ∈ n.ex → o.ok
def ndE (n : Nd) : Int := if n.pol.good = false then 1 else if setErr n.ex ≠ 0 then setErr n.ex else if 8 < n.q.length then 3 else 0
def prevN (l : List Nd) (i : Nat) : Nd := l.getD (i - 1) ⟨0, ⟨0, []⟩, [], []⟩
/-- Of its place. -/
def plE (l : List Nd) (i : Nat) (n : Nd) : Int :=
  if (i = 0 ∧ n.par ≠ -1) ∨ (0 < i ∧ (n.par < 0 ∨ (i : Int) ≤ n.par)) then 1
  else if 1 < i ∧ (n.par < (prevN l i).par ∨ (prevN l i).par = n.par ∧ 0 < (prevN l i).pol.cmp n.pol) then 13
  else if 1 < i ∧ (prevN l i).par = n.par ∧ (prevN l i).pol = n.pol then 14
  else if 64 < dep l i then 12 else 0
def oneE (l : List Nd) (i : Nat) : Int := match l[i]? with
  | none => 0
  | some n => if plE l i n ≠ 0 then plE l i n else ndE n
/-- The first error from a node on. -/
def errFrom (l : List Nd) : Nat → Nat → Int
  | 0, _ => 0
  | f + 1, i => if oneE l i = 0 then errFrom l f (i + 1) else oneE l i
def treeErr (l : List Nd) : Int := if 65536 < l.length then 3 else errFrom l l.length 0
theorem errFrom_zero {l : List Nd} : ∀ {f i : Nat}, errFrom l f i = 0 ↔ ∀ j, i ≤ j → j < i + f → oneE l j = 0
  | 0, i => ⟨fun _ j h1 h2 => by omega, fun _ => rfl⟩
  | f + 1, i => by
    unfold errFrom
    by_cases h : oneE l i = 0
    · rw [if_pos h, errFrom_zero]
      constructor
      · intro hh j h1 h2
        by_cases hj : j = i
        · subst hj; exact h
        · exact hh j (by omega) (by omega)
      · intro hh j h1 h2; exact hh j (by omega) (by omega)
    · rw [if_neg h]
      exact ⟨fun e => absurd e h, fun hh => absurd (hh i (Nat.le_refl _) (by omega)) h⟩

/-- Key of a node: before another one. -/
def keyLt (a b : Nd) : Prop := a.par < b.par ∨ a.par = b.par ∧ a.pol.cmp b.pol < 0
/-- A valid tree. -/
structure Valid (l : List Nd) : Prop where
  len : l.length ≤ 65536
  shape : Shape l
  key : ∀ (i : Nat) (h : i + 1 < l.length), 0 < i → keyLt l[i] l[i + 1]
  dep : ∀ i, i < l.length → dep l i ≤ 64
  nd : ∀ n, n ∈ l → ndE n = 0
theorem ndE_zero {n : Nd} : ndE n = 0 ↔ n.pol.good = true ∧ setErr n.ex = 0 ∧ n.q.length ≤ 8 := by
  unfold ndE
  by_cases h1 : n.pol.good = false
  · rw [if_pos h1]; exact ⟨fun e => absurd e (by decide), fun ⟨e, _⟩ => by rw [h1] at e; cases e⟩
  · rw [if_neg h1]
    by_cases h2 : setErr n.ex = 0
    · rw [if_neg (by simpa using h2)]
      by_cases h3 : 8 < n.q.length
      · rw [if_pos h3]; exact ⟨fun e => absurd e (by decide), fun ⟨_, _, e⟩ => absurd e (by omega)⟩
      · rw [if_neg h3]; exact ⟨fun _ => ⟨by simpa using h1, h2, by omega⟩, fun _ => rfl⟩
    · rw [if_pos h2]; exact ⟨fun e => absurd e h2, fun ⟨_, e, _⟩ => absurd e h2⟩
theorem prevN_eq {l : List Nd} {i : Nat} (h : i < l.length) : prevN l (i + 1) = l[i] := by
  unfold prevN; rw [Nat.add_sub_cancel, List.getD_eq_getElem?_getD, List.getElem?_eq_getElem h]; rfl
theorem valid_iff {l : List Nd} (hok : ∀ n, n ∈ l → n.ok) : treeErr l = 0 ↔ Valid l := by
  unfold treeErr
  by_cases hb : 65536 < l.length
  · rw [if_pos hb]
    exact ⟨fun e => absurd e (by decide), fun h => absurd h.len (by omega)⟩
  rw [if_neg hb, errFrom_zero]
  constructor
  · intro h
    have one : ∀ i (hi : i < l.length), plE l i l[i] = 0 ∧ ndE l[i] = 0 := fun i hi => by
      have := h i (by omega) (by omega)
      unfold oneE at this
      rw [List.getElem?_eq_getElem hi] at this
      dsimp only at this
      by_cases hp : plE l i l[i] = 0
      · rw [if_neg (by simpa using hp)] at this; exact ⟨hp, this⟩
      · rw [if_pos hp] at this; exact absurd this hp
    have pl : ∀ i (hi : i < l.length), ¬ ((i = 0 ∧ l[i].par ≠ -1) ∨ (0 < i ∧ (l[i].par < 0 ∨ (i : Int) ≤ l[i].par))) ∧ ¬ (1 < i ∧ (l[i].par < (prevN l i).par ∨ (prevN l i).par = l[i].par ∧ 0 < (prevN l i).pol.cmp l[i].pol)) ∧ ¬ (1 < i ∧ (prevN l i).par = l[i].par ∧ (prevN l i).pol = l[i].pol) ∧ ¬ 64 < dep l i := fun i hi => by
      have := (one i hi).1
      unfold plE at this
      split at this
      · cases this
      · split at this
        · cases this
        · split at this
          · cases this
          · split at this
            · cases this
            · exact ⟨by assumption, by assumption, by assumption, by assumption⟩
    have hn : ∀ n, n ∈ l → ndE n = 0 := fun n hm => by
      obtain ⟨i, hi, rfl⟩ := List.getElem_of_mem hm; exact (one i hi).2
    refine ⟨by omega, ⟨fun n hn => ?_, fun i n h0 hn => ?_⟩, fun i hi h0 => ?_, fun i hi => ?_, hn⟩
    · obtain ⟨hl, rfl⟩ := List.getElem?_eq_some_iff.1 hn
      have := (pl 0 hl).1
      exact Decidable.byContradiction fun e => this (.inl ⟨rfl, e⟩)
    · obtain ⟨hl, rfl⟩ := List.getElem?_eq_some_iff.1 hn
      have := (pl i hl).1
      omega
    · have h1 := (pl (i + 1) hi).2.1
      have h2 := (pl (i + 1) hi).2.2.1
      rw [prevN_eq (by omega)] at h1 h2
      unfold keyLt
      by_cases hp : l[i].par = l[i + 1].par
      · right
        refine ⟨hp, ?_⟩
        have a1 := hok _ (List.getElem_mem (show i < l.length by omega))
        have a2 := hok _ (List.getElem_mem hi)
        have g1 := (ndE_zero.1 (hn _ (List.getElem_mem (show i < l.length by omega)))).1
        have g2 := (ndE_zero.1 (hn _ (List.getElem_mem hi))).1
        have n0 : l[i].pol.cmp l[i + 1].pol ≠ 0 := fun e => h2 ⟨by omega, hp, Oid.cmp_zero a1.pol a2.pol g1 g2 e⟩
        have n1 : ¬ 0 < l[i].pol.cmp l[i + 1].pol := fun e => h1 ⟨by omega, .inr ⟨hp, e⟩⟩
        omega
      · left
        have : ¬ l[i + 1].par < l[i].par := fun e => h1 ⟨by omega, .inl e⟩
        omega
    · have := (pl i hi).2.2.2; omega
  · intro h j _ hj
    have hj' : j < l.length := by omega
    unfold oneE
    rw [List.getElem?_eq_getElem hj']
    dsimp only
    have hpl : plE l j l[j] = 0 := by
      unfold plE
      have hd := h.dep j hj'
      by_cases h0 : j = 0
      · subst h0
        have := h.shape.root _ (List.getElem?_eq_getElem hj')
        rw [if_neg (by omega), if_neg (by omega), if_neg (by omega), if_neg (by omega)]
      · have hp := h.shape.par hj' (by omega)
        rw [if_neg (by omega)]
        by_cases h1 : 1 < j
        · obtain ⟨i, rfl⟩ : ∃ i, j = i + 1 := ⟨j - 1, by omega⟩
          have hk := h.key i hj' (by omega)
          rw [prevN_eq (by omega)]
          unfold keyLt at hk
          rw [if_neg (by omega), if_neg, if_neg (by omega)]
          rintro ⟨_, e1, e2⟩
          rw [e2] at hk
          have := Oid.cmp_self l[i + 1].pol
          omega
        · rw [if_neg (by omega), if_neg (by omega), if_neg (by omega)]
    rw [hpl]
    simp only [ne_eq, not_true, if_false]
    exact h.nd _ (List.getElem_mem hj')
end Go.Ev

/-
  One more node in a valid tree.
-/
set_option linter.unusedSimpArgs false
set_option linter.unusedVariables false
namespace Go.Ev
open Go

/-- Does a node, which is not the root, stand behind a new one? -/
def behind (n x : Nd) : Bool := decide (n.par < x.par) || (decide (x.par = n.par) && decide (0 < x.pol.cmp n.pol))
/-- The index of the child with a policy, from an index on; else -1. -/
def hasChild (l : List Nd) (p : Int) (o : Oid) : Bool := l.any fun x => decide (x.par = p) && decide (x.pol = o)
def addE (l : List Nd) (n : Nd) : Int :=
  if (l.length = 0 ∧ n.par ≠ -1) ∨ (0 < l.length ∧ (n.par < 0 ∨ (l.length : Int) ≤ n.par)) then 19
  else if hasChild l n.par n.pol = true then 20
  else if l.length = 65536 then 3
  else if 0 ≤ n.par ∧ dep l n.par.toNat = 64 then 12
  else ndE n

section
variable {l : List Nd} {n : Nd}
variable (hv : Valid l) (hok : ∀ x, x ∈ l → x.ok) (hn : n.ok) (he : addE l n = 0)
include hv hok hn he
omit hok hn in
omit hok hn he in
omit hv he in
end
end Go.Ev

/-
  Trees as plain data are valid.
-/
set_option linter.unusedSimpArgs false
set_option linter.unusedVariables false
namespace Go.Ev
open Go
/-- Qualifiers by their number. -/
def notesQ (k : Nat) : List Bool := if k % 4 = 1 then [true] else if k % 4 = 2 then [false] else if k % 4 = 3 then [false, true] else []
/-- Four numbers. -/
structure T4 where
  a : Nat
  b : Nat
  c : Nat
  d : Nat
def T4.nd (t : T4) (par : Int) : Nd := ⟨par, polO t.b, (setOf t.c).1, notesQ t.d⟩
structure Tree (l : List Nd) : Prop where
  valid : Valid l
  ok : ∀ n, n ∈ l → n.ok
theorem Tree.nil : Tree [] := ⟨⟨by decide, ⟨fun n h => by simp at h, fun i n _ h => by simp at h⟩, fun i h => by simp at h, fun i h => by simp at h, fun n h => nomatch h⟩, fun n h => nomatch h⟩
end Go.Ev

/-
  Pruning in one sweep; children counted.
-/
set_option linter.unusedSimpArgs false
set_option linter.unusedVariables false
namespace Go.Ev
open Go
/-- From the last node to the first. -/
def sweep (l : List Nd) (d : Nat) : Nat → (Nat → Bool) → (Nat → Bool)
  | 0, A => A
  | i + 1, A => sweep l d i (if chl l A d i = true then del A i else A)
theorem chl_del_other {l : List Nd} (h : Shape l) {A : Nat → Bool} {d i j : Nat} (hij : i < j) : chl l (del A i) d j = chl l A d j := by
  have hk : kid l (del A i) j = kid l A j := by
    rw [Bool.eq_iff_iff, kid_iff, kid_iff]
    constructor
    · rintro ⟨k, h1, h2, h3, h4⟩
      unfold del at h3
      simp only [Bool.and_eq_true] at h3
      exact ⟨k, h1, h2, h3.1, h4⟩
    · rintro ⟨k, h1, h2, h3, h4⟩
      have := (h.par h1 h2).2
      refine ⟨k, h1, h2, ?_, h4⟩
      unfold del
      rw [h3, decide_eq_false (by omega)]; rfl
  unfold chl
  rw [hk]
  have : del A i j = A j := by unfold del; rw [decide_eq_false (by omega)]; simp
  rw [this]
theorem sweep_ok {l : List Nd} (h : Shape l) {d : Nat} : ∀ (i : Nat) (A : Nat → Bool), i ≤ l.length → Live l d A → (∀ j, i ≤ j → j < l.length → chl l A d j = false) → Live l d (sweep l d i A) ∧ ∀ j, j < l.length → chl l (sweep l d i A) d j = false
  | 0, A, hi, hl, hn => ⟨hl, fun j hj => hn j (by omega) hj⟩
  | i + 1, A, hi, hl, hn => by
    unfold sweep
    by_cases hc : chl l A d i = true
    · rw [if_pos hc]
      refine sweep_ok h i _ (by omega) (hl.del h (by omega) hc) fun j h1 h2 => ?_
      by_cases hj : j = i
      · subst hj
        unfold chl del
        simp
      · rw [chl_del_other h (by omega)]; exact hn j (by omega) h2
    · rw [if_neg hc]
      refine sweep_ok h i _ (by omega) hl fun j h1 h2 => ?_
      by_cases hj : j = i
      · subst hj; simpa using hc
      · exact hn j (by omega) h2
theorem sweep_stays {l : List Nd} (h : Shape l) (d : Nat) : ∀ i, i < l.length → sweep l d l.length (fun _ => true) i = stays l d i := by
  obtain ⟨h1, h2⟩ := sweep_ok h (d := d) l.length _ (Nat.le_refl _) (Live.all l d) (fun j h1 h2 => by omega)
  exact h1.done h h2

/-- How many alive children, among the first nodes. -/
def cntK (l : List Nd) (A : Nat → Bool) (i : Nat) : Nat → Nat
  | 0 => 0
  | k + 1 => cntK l A i k + (if 0 < k ∧ A k = true ∧ parN l k = i then 1 else 0)
theorem cntK_zero {l : List Nd} {A : Nat → Bool} {i : Nat} : ∀ {n : Nat}, cntK l A i n = 0 ↔ ∀ k, k < n → ¬ (0 < k ∧ A k = true ∧ parN l k = i)
  | 0 => ⟨fun _ k hk => by omega, fun _ => rfl⟩
  | n + 1 => by
    unfold cntK
    by_cases h : 0 < n ∧ A n = true ∧ parN l n = i
    · rw [if_pos h]
      exact ⟨fun e => by omega, fun hh => absurd h (hh n (by omega))⟩
    · rw [if_neg h, Nat.add_zero, cntK_zero]
      constructor
      · intro hh k hk
        by_cases hkn : k = n
        · subst hkn; exact h
        · exact hh k (by omega)
      · intro hh k hk; exact hh k (by omega)
def kids (l : List Nd) (A : Nat → Bool) (i : Nat) : Nat := cntK l A i l.length
theorem kids_zero {l : List Nd} {A : Nat → Bool} {i : Nat} : kids l A i = 0 ↔ kid l A i = false := by
  unfold kids
  rw [cntK_zero, ← Bool.not_eq_true, kid_iff]
  constructor
  · rintro h ⟨k, h1, h2, h3, h4⟩; exact h k h1 ⟨h2, h3, h4⟩
  · intro h k hk hh; exact h ⟨k, hk, hh.1, hh.2.1, hh.2.2⟩
theorem cntK_le {l : List Nd} {A : Nat → Bool} {i : Nat} : ∀ n, cntK l A i n ≤ n
  | 0 => Nat.le_refl _
  | n + 1 => by have := cntK_le (l := l) (A := A) (i := i) n; unfold cntK; split <;> omega
theorem cntK_del {l : List Nd} {A : Nat → Bool} {x : Nat} (hx : 0 < x) (ha : A x = true) (i : Nat) : ∀ n, cntK l (del A x) i n + (if x < n ∧ parN l x = i then 1 else 0) = cntK l A i n
  | 0 => by simp [cntK]
  | n + 1 => by
    have ih := cntK_del hx ha i n (l := l)
    have e : del A x n = (A n && !decide (n = x)) := rfl
    unfold cntK
    rw [e]
    by_cases hn : n = x
    · subst hn
      rw [if_neg (by omega)] at ih
      rw [if_neg (by simp)]
      by_cases hp : parN l n = i
      · rw [if_pos ⟨by omega, hp⟩, if_pos ⟨hx, ha, hp⟩]; omega
      · rw [if_neg (by rintro ⟨_, e⟩; exact hp e), if_neg (by rintro ⟨_, _, e⟩; exact hp e)]; omega
    · have e2 : (A n && !decide (n = x)) = A n := by rw [decide_eq_false hn]; simp
      rw [e2]
      have e3 : (if x < n + 1 ∧ parN l x = i then 1 else 0 : Nat) = (if x < n ∧ parN l x = i then 1 else 0) := by
        by_cases hlt : x < n
        · by_cases hp : parN l x = i
          · rw [if_pos ⟨by omega, hp⟩, if_pos ⟨hlt, hp⟩]
          · rw [if_neg (fun q => hp q.2), if_neg (fun q => hp q.2)]
        · rw [if_neg (fun q => by omega), if_neg (fun q => hlt q.1)]
      rw [e3]; omega
/-- Without a node: its parent has one child less. -/
theorem kids_del {l : List Nd} {A : Nat → Bool} {x : Nat} (hx : 0 < x) (hl : x < l.length) (ha : A x = true) (i : Nat) : kids l (del A x) i + (if parN l x = i then 1 else 0) = kids l A i := by
  have := cntK_del hx ha i l.length (l := l)
  unfold kids
  rw [← this]
  congr 1
  by_cases hp : parN l x = i
  · rw [if_pos hp, if_pos ⟨hl, hp⟩]
  · rw [if_neg hp, if_neg (fun q => hp q.2)]
theorem kids_del_root {l : List Nd} {A : Nat → Bool} (i : Nat) : kids l (del A 0) i = kids l A i := by
  have : ∀ n, cntK l (del A 0) i n = cntK l A i n := fun n => by
    induction n with
    | zero => rfl
    | succ n ih =>
      unfold cntK
      rw [ih]
      congr 1
      by_cases h0 : 0 < n
      · have : del A 0 n = A n := by unfold del; rw [decide_eq_false (by omega)]; simp
        rw [this]
      · rw [if_neg (fun q => h0 q.1), if_neg (fun q => h0 q.1)]
  exact this _
/-- Deleting what is gone leaves the others. -/
theorem und_gone {l : List Nd} (h : Shape l) {A : Nat → Bool} (hu : Up l A) {at_ : List Int} (hat : ∀ i, i < l.length → (at_.contains (i : Int) = !A i)) : ∀ i, i < l.length → und l at_ i = !A i := fun i => by
  induction i using Nat.strongRecOn with
  | _ i ih =>
    intro hi
    rw [und_step h at_ hi, hat i hi]
    by_cases h0 : 0 < i
    · have hp := (h.par hi h0).2
      rw [decide_eq_true h0, Bool.true_and, ih _ hp (by omega)]
      cases ha : A i with
      | true => rw [hu i hi h0 ha]; rfl
      | false => rfl
    · rw [decide_eq_false h0, Bool.false_and, Bool.or_false]
end Go.Ev

/-
  What stays in what is left; lines.
-/
set_option linter.unusedSimpArgs false
set_option linter.unusedVariables false
namespace Go.Ev
open Go
theorem stays_up {l : List Nd} (h : Shape l) (d : Nat) : Up l (stays l d) := fun i hi h0 hs => by
  have := (h.par hi h0).2
  rw [stays_iff h (by omega)]
  exact .inr ⟨i, hi, h0, hs, rfl⟩
/-- Pruned. -/
def prune (l : List Nd) (d : Nat) : List Nd := left l (stays l d)
end Go.Ev
