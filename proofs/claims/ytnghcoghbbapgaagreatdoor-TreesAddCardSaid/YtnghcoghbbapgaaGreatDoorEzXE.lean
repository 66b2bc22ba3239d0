/-
  The evaluator: EzM1 EzM2 EzM3 EzM4 EzM5 EzM6 EzM7.
-/
import Derived.Test.YtnghcoghbbapgaaGreatDoorEzO1
import Derived.Test.YtnghcoghbbapgaaGreatDoorEzO2
/-
 Trees as plain values: nodes, depths, children, what is left when nodes go.
-/
set_option linter.unusedSimpArgs false
set_option linter.unusedVariables false
namespace Go.Ev
open Go
structure Nd where
 par : Int
 pol : Oid
 ex : List Oid
 q : List Bool
deriving DecidableEq
def rk (A : Nat → Bool) : Nat → Nat
 | 0 => 0
 | i + 1 => rk A i + (if A i then 1 else 0)
theorem rk_le (A : Nat → Bool) : ∀ i, rk A i ≤ i
 | 0 => Nat.le_refl _
 | i + 1 => by have := rk_le A i; unfold rk; split <;> omega
theorem Z1wl {A : Nat → Bool} {i : Nat} : ∀ {j}, i ≤ j → rk A i ≤ rk A j
  | 0, h => by obtain rfl : i = 0 := by omega
               exact Nat.le_refl _
  | j + 1, h => by
    by_cases hij : i = j + 1
    · subst hij; exact Nat.le_refl _
    · have := Z1wl (A := A) (i := i) (j := j) (by omega)
      rw [show rk A (j + 1) = rk A j + (if A j then 1 else 0) from rfl]; omega
theorem rk_lt {A : Nat → Bool} {i j : Nat} (h : i < j) (hi : A i = true) : rk A i < rk A j := by
 have : rk A (i + 1) ≤ rk A j := Z1wl (by omega)
 have h1 : rk A (i + 1) = rk A i + 1 := by rw [rk, if_pos hi]
 omega
theorem Z1xr {A B : Nat → Bool} : ∀ {n : Nat}, (∀ i, i < n → A i = B i) → rk A n = rk B n
 | 0, _ => rfl
 | n + 1, h => by rw [rk, rk, Z1xr (n := n) (fun i hi => h i (by omega)), h n (by omega)]
def mv (l : List Nd) (A : Nat → Bool) (n : Nd) : Nd := { n with par := if n.par < 0 then n.par else (rk A n.par.toNat : Int) }
def sub (l : List Nd) (A : Nat → Bool) : Nat → List Nd
 | 0 => []
 | i + 1 => match l[i]? with
  | none => sub l A i
  | some n => if A i then sub l A i ++ [mv l A n] else sub l A i
theorem Z1a1 {l : List Nd} {A : Nat → Bool} {i : Nat} (h : i < l.length) : sub l A (i + 1) = if A i then sub l A i ++ [mv l A l[i]] else sub l A i := by
 rw [sub, List.getElem?_eq_getElem h]
theorem Z1ck {l : List Nd} {A : Nat → Bool} : ∀ {i : Nat}, i ≤ l.length → (sub l A i).length = rk A i
 | 0, _ => rfl
 | i + 1, h => by
  rw [Z1a1 (by omega), rk]
  have := Z1ck (l := l) (A := A) (i := i) (by omega)
  split <;> simp [this]
theorem Z1zv {l : List Nd} {A : Nat → Bool} : ∀ {n i : Nat} (hn : n ≤ l.length) (hi : i < n), A i = true → (sub l A n)[rk A i]? = some (mv l A (l[i]'(by omega)))
 | 0, i, _, hi, _ => by omega
 | n + 1, i, hn, hi, ha => by
  rw [Z1a1 (by omega)]
  by_cases hin : i = n
  ·subst hin
   rw [if_pos ha, List.getElem?_append_right (by rw [Z1ck (by omega)]; exact Nat.le_refl _), Z1ck (by omega)]; simp
  ·have ih := Z1zv (l := l) (A := A) (n := n) (i := i) (by omega) (by omega) ha
   split
   ·rw [List.getElem?_append_left (by rw [Z1ck (by omega)]; exact rk_lt (by omega) ha)]; exact ih
   ·exact ih
def left (l : List Nd) (A : Nat → Bool) : List Nd := sub l A l.length
theorem Z78 (l : List Nd) (A : Nat → Bool) : (left l A).length = rk A l.length := Z1ck (Nat.le_refl _)
theorem Zh2 {l : List Nd} {A : Nat → Bool} {i : Nat} (hi : i < l.length) (ha : A i = true) : (left l A)[rk A i]? = some (mv l A l[i]) := Z1zv (Nat.le_refl _) hi ha
theorem Z6r {α : Type} {a b : List α} (hl : a.length = b.length) (h : ∀ i, i < a.length → a[i]? = b[i]?) : a = b := by
 apply List.ext_getElem? 
 intro i
 by_cases hi : i < a.length
 ·exact h i hi
 ·rw [List.getElem?_eq_none (by omega), List.getElem?_eq_none (by omega)]
theorem Z120 {l : List Nd} {A B : Nat → Bool} (h : ∀ i, i < l.length → A i = B i) (hp : ∀ n, n ∈ l → n.par < l.length) : left l A = left l B := by
 have e : ∀ n, n ∈ l → mv l A n = mv l B n := fun n hn => by
  unfold mv
  have := hp n hn
  split
  ·rfl
  ·rw [Z1xr (A := A) (B := B) (fun i hi => h i (by omega))]
 have : ∀ i, i ≤ l.length → sub l A i = sub l B i := fun i => by
  induction i with
  | zero => intro _; rfl
  | succ i ih =>
   intro hi
   rw [Z1a1 (by omega), Z1a1 (by omega), ih (by omega), h i (by omega), e _ (List.getElem_mem _)]
 exact this _ (Nat.le_refl _)
def parN (l : List Nd) (i : Nat) : Nat := match l[i]? with
 | none => 0
 | some n => n.par.toNat
structure Shape (l : List Nd) : Prop where
 root : ∀ n, l[0]? = some n → n.par = -1
 lt : ∀ (i : Nat) (n : Nd), 0 < i → l[i]? = some n → 0 ≤ n.par ∧ n.par < (i : Int)
theorem Shape.par {l : List Nd} (h : Shape l) {i : Nat} (hi : i < l.length) (h0 : 0 < i) : l[i].par = (parN l i : Int) ∧ parN l i < i := by
 have := h.lt i l[i] h0 (List.getElem?_eq_getElem hi)
 unfold parN
 rw [List.getElem?_eq_getElem hi]
 dsimp only
 omega
theorem Shape.par_lt {l : List Nd} (h : Shape l) : ∀ n, n ∈ l → n.par < l.length := fun n hn => by
 obtain ⟨i, hi, rfl⟩ := List.getElem_of_mem hn
 by_cases h0 : i = 0
 ·subst h0
  have := h.root _ (List.getElem?_eq_getElem hi)
  omega
 ·have := h.par hi (by omega); omega
def depF (l : List Nd) : Nat → Nat → Nat
 | 0, _ => 0
 | f + 1, i => if i = 0 then 0 else depF l f (parN l i) + 1
def dep (l : List Nd) (i : Nat) : Nat := depF l i i
theorem Z1zx {l : List Nd} (h : Shape l) : ∀ {f g i : Nat}, i < l.length → i ≤ f → i ≤ g → depF l f i = depF l g i
  | 0, 0, i, _, _, _ => rfl
  | 0, g + 1, i, _, hf, _ => by obtain rfl : i = 0 := by omega
                                simp [depF]
  | f + 1, 0, i, _, _, hg => by obtain rfl : i = 0 := by omega
                                simp [depF]
  | f + 1, g + 1, i, hi, hf, hg => by
    unfold depF
    by_cases h0 : i = 0
    · rw [if_pos h0, if_pos h0]
    · rw [if_neg h0, if_neg h0]
      have := (h.par hi (by omega)).2
      rw [Z1zx h (f := f) (g := g) (by omega) (by omega) (by omega)]
theorem Z21p (l : List Nd) : dep l 0 = 0 := rfl
theorem Z1cl {l : List Nd} (h : Shape l) {i : Nat} (hi : i < l.length) (h0 : 0 < i) : dep l i = dep l (parN l i) + 1 := by
 obtain ⟨j, rfl⟩ : ∃ j, i = j + 1 := ⟨i - 1, by omega⟩
 have := (h.par hi h0).2
 unfold dep
 rw [depF, if_neg (by omega), Z1zx h (f := j) (g := parN l (j + 1)) (by omega) (by omega) (by omega)]
theorem dep_le (l : List Nd) : ∀ i, dep l i ≤ i := fun i => by
  have : ∀ f i, depF l f i ≤ f := fun f => by
    induction f with
    | zero => intro i; exact Nat.le_refl _
    | succ f ih => intro i; unfold depF; split
                   · omega
                   · have := ih (parN l i); omega
  exact this i i

def Up (l : List Nd) (A : Nat → Bool) : Prop := ∀ i, i < l.length → 0 < i → A i = true → A (parN l i) = true
theorem Up.root {l : List Nd} (h : Shape l) {A : Nat → Bool} (hu : Up l A) : ∀ i, i < l.length → A i = true → A 0 = true := fun i => by
 induction i using Nat.strongRecOn with
 | _ i ih =>
  intro hi ha
  by_cases h0 : i = 0
  ·subst h0; exact ha
  ·have := (h.par hi (by omega)).2
   exact ih _ this (by omega) (hu i hi (by omega) ha)
def kid (l : List Nd) (A : Nat → Bool) (i : Nat) : Bool := (List.range l.length).any fun k => decide (0 < k) && A k && decide (parN l k = i)
theorem Z1zy {l : List Nd} {A : Nat → Bool} {i : Nat} : kid l A i = true ↔ ∃ k, k < l.length ∧ 0 < k ∧ A k = true ∧ parN l k = i := by
 unfold kid
 simp only [List.any_eq_true, List.mem_range, Bool.and_eq_true, decide_eq_true_eq]
 constructor
 ·rintro ⟨k, h1, ⟨h2, h3⟩, h4⟩; exact ⟨k, h1, h2, h3, h4⟩
 ·rintro ⟨k, h1, h2, h3, h4⟩; exact ⟨k, h1, ⟨h2, h3⟩, h4⟩
def chl (l : List Nd) (A : Nat → Bool) (d i : Nat) : Bool := A i && decide (dep l i < d) && !kid l A i
def stF (l : List Nd) (d : Nat) : Nat → Nat → Bool
 | 0, _ => false
 | f + 1, i => decide (d ≤ dep l i) || (List.range l.length).any fun k => decide (0 < k) && stF l d f k && decide (parN l k = i)
def stays (l : List Nd) (d i : Nat) : Bool := stF l d (l.length - i) i
theorem stF_eq {l : List Nd} (h : Shape l) (d : Nat) : ∀ (f g i : Nat), l.length - i ≤ f → l.length - i ≤ g → i < l.length → stF l d f i = stF l d g i
 | 0, g, i, hf, hg, hi => by omega
 | f + 1, 0, i, hf, hg, hi => by omega
 | f + 1, g + 1, i, hf, hg, hi => by
  unfold stF
  congr 1
  have : ∀ k, k < l.length → (decide (0 < k) && stF l d f k && decide (parN l k = i)) = (decide (0 < k) && stF l d g k && decide (parN l k = i)) := fun k hk => by
   by_cases hp : parN l k = i
   ·by_cases h0 : 0 < k
    ·have := (h.par hk h0).2
     rw [stF_eq h d f g k (by omega) (by omega) hk]
    ·rw [decide_eq_false h0]; rfl
   ·rw [decide_eq_false hp, Bool.and_false, Bool.and_false]
  rw [Bool.eq_iff_iff, List.any_eq_true, List.any_eq_true]
  constructor
  ·rintro ⟨k, hk, e⟩; exact ⟨k, hk, by rw [← this k (List.mem_range.1 hk)]; exact e⟩
  ·rintro ⟨k, hk, e⟩; exact ⟨k, hk, by rw [this k (List.mem_range.1 hk)]; exact e⟩
theorem Z1v1 {l : List Nd} (h : Shape l) {d i : Nat} (hi : i < l.length) : stays l d i = true ↔ d ≤ dep l i ∨ ∃ k, k < l.length ∧ 0 < k ∧ stays l d k = true ∧ parN l k = i := by
 unfold stays
 obtain ⟨f, hf⟩ : ∃ f, l.length - i = f + 1 := ⟨l.length - i - 1, by omega⟩
 rw [hf, stF]
 simp only [Bool.or_eq_true, decide_eq_true_eq, List.any_eq_true, List.mem_range, Bool.and_eq_true]
 constructor
 ·rintro (h1 | ⟨k, h1, ⟨h2, h3⟩, h4⟩)
  ·exact .inl h1
  ·have := (h.par h1 h2).2
   exact .inr ⟨k, h1, h2, by rw [stF_eq h d (l.length - k) f k (by omega) (by omega) h1]; exact h3, h4⟩
 ·rintro (h1 | ⟨k, h1, h2, h3, h4⟩)
  ·exact .inl h1
  ·have := (h.par h1 h2).2
   exact .inr ⟨k, h1, ⟨h2, by rw [← stF_eq h d (l.length - k) f k (by omega) (by omega) h1]; exact h3⟩, h4⟩
structure Live (l : List Nd) (d : Nat) (A : Nat → Bool) : Prop where
 up : Up l A
 st : ∀ i, i < l.length → stays l d i = true → A i = true
theorem Live.all (l : List Nd) (d : Nat) : Live l d (fun _ => true) := ⟨fun _ _ _ _ => rfl, fun _ _ _ => rfl⟩
def del (A : Nat → Bool) (x : Nat) : Nat → Bool := fun i => A i && !decide (i = x)
theorem Live.del {l : List Nd} (h : Shape l) {d : Nat} {A : Nat → Bool} (hl : Live l d A) {x : Nat} (hx : x < l.length) (hc : chl l A d x = true) : Live l d (del A x) := by
 unfold chl at hc
 simp only [Bool.and_eq_true, decide_eq_true_eq, Bool.not_eq_true'] at hc
 obtain ⟨⟨h1, h2⟩, h3⟩ := hc
 have nokid : ∀ k, k < l.length → 0 < k → A k = true → parN l k ≠ x := fun k hk h0 ha e => by
  have : kid l A x = true := Z1zy.2 ⟨k, hk, h0, ha, e⟩
  rw [h3] at this; cases this
 refine ⟨fun i hi h0 ha => ?_, fun i hi hs => ?_⟩
 ·unfold Go.Ev.del at ha ⊢
  simp only [Bool.and_eq_true, Bool.not_eq_true', decide_eq_false_iff_not] at ha ⊢
  exact ⟨hl.up i hi h0 ha.1, nokid i hi h0 ha.1⟩
 ·unfold Go.Ev.del
  simp only [Bool.and_eq_true, Bool.not_eq_true', decide_eq_false_iff_not]
  refine ⟨hl.st i hi hs, fun e => ?_⟩
  subst e
  rcases (Z1v1 h hi).1 hs with hd | ⟨k, hk, h0, hsk, hp⟩
  ·omega
  ·exact nokid k hk h0 (hl.st k hk hsk) hp
theorem Live.done {l : List Nd} (h : Shape l) {d : Nat} {A : Nat → Bool} (hl : Live l d A) (hn : ∀ i, i < l.length → chl l A d i = false) : ∀ i, i < l.length → A i = stays l d i := by
 have key : ∀ f i, l.length - i ≤ f → i < l.length → A i = true → stays l d i = true := fun f => by
  induction f with
  | zero => intro i h1 h2; omega
  | succ f ih =>
   intro i hf hi ha
   rw [Z1v1 h hi]
   by_cases hd : d ≤ dep l i
   ·exact .inl hd
   ·have := hn i hi
    unfold chl at this
    rw [ha, decide_eq_true (by omega)] at this
    simp only [Bool.true_and, Bool.not_eq_false'] at this
    obtain ⟨k, h1, h2, h3, h4⟩ := Z1zy.1 this
    have hlt := (h.par h1 h2).2
    exact .inr ⟨k, h1, h2, ih k (by omega) h1 h3, h4⟩
 intro i hi
 cases ha : A i with
 | true => exact (key _ i (Nat.le_refl _) hi ha).symm
 | false =>
  cases hs : stays l d i with
  | false => rfl
  | true => rw [hl.st i hi hs] at ha; cases ha
section
variable {l : List Nd} (h : Shape l) {A : Nat → Bool} (hu : Up l A)
include h hu
end
end Go.Ev
/-
 Pruning one node after another: whatever the order, what is left is what stays.
-/
set_option linter.unusedSimpArgs false
set_option linter.unusedVariables false
namespace Go.Ev
open Go
def undF (l : List Nd) (at_ : List Int) : Nat → Nat → Bool
 | 0, _ => false
 | f + 1, i => at_.contains (i : Int) || (decide (0 < i) && undF l at_ f (parN l i))
def und (l : List Nd) (at_ : List Int) (i : Nat) : Bool := undF l at_ (i + 1) i
theorem Z1zz {l : List Nd} (h : Shape l) (at_ : List Int) : ∀ (f g i : Nat), i < l.length → i < f → i < g → undF l at_ f i = undF l at_ g i
 | 0, g, i, _, hf, _ => by omega
 | f + 1, 0, i, _, _, hg => by omega
 | f + 1, g + 1, i, hi, hf, hg => by
  unfold undF
  congr 1
  by_cases h0 : 0 < i
  ·have := (h.par hi h0).2
   rw [Z1zz h at_ f g _ (by omega) (by omega) (by omega)]
  ·rw [decide_eq_false h0]; rfl
theorem Zk3 {l : List Nd} (h : Shape l) (at_ : List Int) {i : Nat} (hi : i < l.length) : und l at_ i = (at_.contains (i : Int) || (decide (0 < i) && und l at_ (parN l i))) := by
 unfold und
 rw [undF]
 congr 1
 by_cases h0 : 0 < i
 ·have := (h.par hi h0).2
  rw [Z1zz h at_ i (parN l i + 1) _ (by omega) (by omega) (by omega)]
 ·rw [decide_eq_false h0]; rfl
def delR (l : List Nd) (at_ : List Int) : List Nd := left l (fun i => !und l at_ i)
end Go.Ev
/-
 Valid trees; one more node.
-/
set_option linter.unusedSimpArgs false
set_option linter.unusedVariables false
namespace Go.Ev
open Go
theorem cmpL_swap : ∀ (a b : List Nat), cmpL b a = -cmpL a b
 | [], [] => rfl
 | [], _ :: _ => rfl
 | _ :: _, [] => rfl
 | x :: a, y :: b => by
  unfold cmpL
  rcases Nat.lt_trichotomy x y with h | h | h
  ·rw [if_pos h, if_neg (by omega), if_pos h]; rfl
  ·subst h; rw [if_neg (by omega), if_neg (by omega), if_neg (by omega), if_neg (by omega)]; exact cmpL_swap a b
  ·rw [if_pos h, if_neg (by omega), if_pos h]
theorem cmpL_zero : ∀ {a b : List Nat}, cmpL a b = 0 → a = b
 | [], [], _ => rfl
 | [], _ :: _, h => by simp [cmpL] at h
 | _ :: _, [], h => by simp [cmpL] at h
 | x :: a, y :: b, h => by
  unfold cmpL at h
  rcases Nat.lt_trichotomy x y with h1 | h1 | h1
  ·rw [if_pos h1] at h; omega
  ·subst h1
   rw [if_neg (by omega), if_neg (by omega)] at h
   rw [cmpL_zero h]
  ·rw [if_neg (by omega), if_pos h1] at h; omega
theorem cmpL_self : ∀ (a : List Nat), cmpL a a = 0
 | [] => rfl
 | x :: a => by unfold cmpL; rw [if_neg (by omega), if_neg (by omega)]; exact cmpL_self a
theorem cmpL_lt_trans : ∀ {a b c : List Nat}, cmpL a b < 0 → cmpL b c < 0 → cmpL a c < 0
 | [], [], _, h, _ => by simp [cmpL] at h
 | [], _ :: _, [], _, h => by simp [cmpL] at h
 | [], _ :: _, _ :: _, _, _ => by simp [cmpL]
 | _ :: _, [], _, h, _ => by simp [cmpL] at h
 | _ :: _, _ :: _, [], _, h => by simp [cmpL] at h
 | x :: a, y :: b, z :: c, h1, h2 => by
  unfold cmpL at h1 h2 ⊢
  by_cases xy : x < y
  ·by_cases yz : y < z
   ·rw [if_pos (by omega)]; omega
   ·rw [if_neg yz] at h2
    by_cases zy : z < y
    ·rw [if_pos zy] at h2; omega
    ·rw [if_pos (by omega)]; omega
  ·rw [if_neg xy] at h1
   by_cases yx : y < x
   ·rw [if_pos yx] at h1; omega
   ·rw [if_neg yx] at h1
    obtain rfl : x = y := by omega
    by_cases xz : x < z
    ·rw [if_pos xz]; omega
    ·rw [if_neg xz] at h2 ⊢
     by_cases zx : z < x
     ·rw [if_pos zx] at h2; omega
     ·rw [if_neg zx] at h2 ⊢
      exact cmpL_lt_trans h1 h2
theorem Oid.cmp_swap (a b : Oid) : b.cmp a = -a.cmp b := cmpL_swap _ _
theorem Oid.cmp_self (a : Oid) : a.cmp a = 0 := cmpL_self _
theorem Oid.cmp_lt_trans {a b c : Oid} (h1 : a.cmp b < 0) (h2 : b.cmp c < 0) : a.cmp c < 0 := cmpL_lt_trans h1 h2
theorem all_zero_eq : ∀ {l m : List Nat}, l.length = m.length → (l.all fun x => decide (x = 0)) = true → (m.all fun x => decide (x = 0)) = true → l = m
 | [], [], _, _, _ => rfl
 | [], _ :: _, h, _, _ => by simp at h
 | _ :: _, [], h, _, _ => by simp at h
 | x :: l, y :: m, h, h1, h2 => by
  simp only [List.all_cons, Bool.and_eq_true, decide_eq_true_eq] at h1 h2
  rw [h1.1, h2.1, all_zero_eq (by simpa using h) h1.2 h2.2]
theorem Oid.cmp_zero {a b : Oid} (ha : a.ok) (hb : b.ok) (ga : a.good = true) (gb : b.good = true) (h : a.cmp b = 0) : a = b := by
 have e := cmpL_zero h
 unfold Oid.good at ga gb
 simp only [Bool.and_eq_true, decide_eq_true_eq] at ga gb
 unfold Oid.arcs at e
 rw [Nat.min_eq_left ga.1.1.2, Nat.min_eq_left gb.1.1.2] at e
 have hn : a.n = b.n := by
  have := congrArg List.length e
  rw [List.length_take, List.length_take, ha.len, hb.len, Nat.min_eq_left ga.1.1.2, Nat.min_eq_left gb.1.1.2] at this
  exact this
 have hd : a.a.drop a.n = b.a.drop b.n := all_zero_eq (by rw [List.length_drop, List.length_drop, ha.len, hb.len, hn]) ga.1.2 gb.1.2
 obtain ⟨n, l⟩ := a
 obtain ⟨m, l'⟩ := b
 dsimp only at hn e hd
 subst hn
 rw [Oid.mk.injEq]
 exact ⟨rfl, by rw [← List.take_append_drop n l, ← List.take_append_drop n l', e, hd]⟩
structure Nd.ok (n : Nd) : Prop where
 pol : n.pol.ok
 ex : ∀ o, o ∈ n.ex → o.ok
def ndE (n : Nd) : Int := if n.pol.good = false then 1 else if setErr n.ex ≠ 0 then setErr n.ex else if 8 < n.q.length then 3 else 0
def prevN (l : List Nd) (i : Nat) : Nd := l.getD (i - 1) ⟨0, ⟨0, []⟩, [], []⟩
def plE (l : List Nd) (i : Nat) (n : Nd) : Int :=
 if (i = 0 ∧ n.par ≠ -1) ∨ (0 < i ∧ (n.par < 0 ∨ (i : Int) ≤ n.par)) then 1
 else if 1 < i ∧ (n.par < (prevN l i).par ∨ (prevN l i).par = n.par ∧ 0 < (prevN l i).pol.cmp n.pol) then 13
 else if 1 < i ∧ (prevN l i).par = n.par ∧ (prevN l i).pol = n.pol then 14
 else if 64 < dep l i then 12 else 0
def oneE (l : List Nd) (i : Nat) : Int := match l[i]? with
 | none => 0
 | some n => if plE l i n ≠ 0 then plE l i n else ndE n
def Zqn (l : List Nd) : Nat → Nat → Int
 | 0, _ => 0
 | f + 1, i => if oneE l i = 0 then Zqn l f (i + 1) else oneE l i
def Z182 (l : List Nd) : Int := if 65536 < l.length then 3 else Zqn l l.length 0
theorem Z1ik {l : List Nd} : ∀ {f i : Nat}, Zqn l f i = 0 ↔ ∀ j, i ≤ j → j < i + f → oneE l j = 0
 | 0, i => ⟨fun _ j h1 h2 => by omega, fun _ => rfl⟩
 | f + 1, i => by
  unfold Zqn
  by_cases h : oneE l i = 0
  ·rw [if_pos h, Z1ik]
   constructor
   ·intro hh j h1 h2
    by_cases hj : j = i
    ·subst hj; exact h
    ·exact hh j (by omega) (by omega)
   ·intro hh j h1 h2; exact hh j (by omega) (by omega)
  ·rw [if_neg h]
   exact ⟨fun e => absurd e h, fun hh => absurd (hh i (Nat.le_refl _) (by omega)) h⟩
def keyLt (a b : Nd) : Prop := a.par < b.par ∨ a.par = b.par ∧ a.pol.cmp b.pol < 0
structure Valid (l : List Nd) : Prop where
 len : l.length ≤ 65536
 shape : Shape l
 key : ∀ (i : Nat) (h : i + 1 < l.length), 0 < i → keyLt l[i] l[i + 1]
 dep : ∀ i, i < l.length → dep l i ≤ 64
 nd : ∀ n, n ∈ l → ndE n = 0
theorem Z140 {n : Nd} : ndE n = 0 ↔ n.pol.good = true ∧ setErr n.ex = 0 ∧ n.q.length ≤ 8 := by
 unfold ndE
 by_cases h1 : n.pol.good = false
 ·rw [if_pos h1]; exact ⟨fun e => absurd e (by decide), fun ⟨e, _⟩ => by rw [h1] at e; cases e⟩
 ·rw [if_neg h1]
  by_cases h2 : setErr n.ex = 0
  ·rw [if_neg (by simpa using h2)]
   by_cases h3 : 8 < n.q.length
   ·rw [if_pos h3]; exact ⟨fun e => absurd e (by decide), fun ⟨_, _, e⟩ => absurd e (by omega)⟩
   ·rw [if_neg h3]; exact ⟨fun _ => ⟨by simpa using h1, h2, by omega⟩, fun _ => rfl⟩
  ·rw [if_pos h2]; exact ⟨fun e => absurd e h2, fun ⟨_, e, _⟩ => absurd e h2⟩
theorem Z1xs {l : List Nd} {i : Nat} (h : i < l.length) : prevN l (i + 1) = l[i] := by
 unfold prevN; rw [Nat.add_sub_cancel, List.getD_eq_getElem?_getD, List.getElem?_eq_getElem h]; rfl
theorem Z183 {l : List Nd} (hok : ∀ n, n ∈ l → n.ok) : Z182 l = 0 ↔ Valid l := by
 unfold Z182
 by_cases hb : 65536 < l.length
 ·rw [if_pos hb]
  exact ⟨fun e => absurd e (by decide), fun h => absurd h.len (by omega)⟩
 rw [if_neg hb, Z1ik]
 constructor
 ·intro h
  have one : ∀ i (hi : i < l.length), plE l i l[i] = 0 ∧ ndE l[i] = 0 := fun i hi => by
   have := h i (by omega) (by omega)
   unfold oneE at this
   rw [List.getElem?_eq_getElem hi] at this
   dsimp only at this
   by_cases hp : plE l i l[i] = 0
   ·rw [if_neg (by simpa using hp)] at this; exact ⟨hp, this⟩
   ·rw [if_pos hp] at this; exact absurd this hp
  have pl : ∀ i (hi : i < l.length), ¬ ((i = 0 ∧ l[i].par ≠ -1) ∨ (0 < i ∧ (l[i].par < 0 ∨ (i : Int) ≤ l[i].par))) ∧ ¬ (1 < i ∧ (l[i].par < (prevN l i).par ∨ (prevN l i).par = l[i].par ∧ 0 < (prevN l i).pol.cmp l[i].pol)) ∧ ¬ (1 < i ∧ (prevN l i).par = l[i].par ∧ (prevN l i).pol = l[i].pol) ∧ ¬ 64 < dep l i := fun i hi => by
   have := (one i hi).1
   unfold plE at this
   split at this
   ·cases this
   ·split at this
    ·cases this
    ·split at this
     ·cases this
     ·split at this
      ·cases this
      ·exact ⟨by assumption, by assumption, by assumption, by assumption⟩
  have hn : ∀ n, n ∈ l → ndE n = 0 := fun n hm => by
   obtain ⟨i, hi, rfl⟩ := List.getElem_of_mem hm; exact (one i hi).2
  refine ⟨by omega, ⟨fun n hn => ?_, fun i n h0 hn => ?_⟩, fun i hi h0 => ?_, fun i hi => ?_, hn⟩
  ·obtain ⟨hl, rfl⟩ := List.getElem?_eq_some_iff.1 hn
   have := (pl 0 hl).1
   exact Decidable.byContradiction fun e => this (.inl ⟨rfl, e⟩)
  ·obtain ⟨hl, rfl⟩ := List.getElem?_eq_some_iff.1 hn
   have := (pl i hl).1
   omega
  ·have h1 := (pl (i + 1) hi).2.1
   have h2 := (pl (i + 1) hi).2.2.1
   rw [Z1xs (by omega)] at h1 h2
   unfold keyLt
   by_cases hp : l[i].par = l[i + 1].par
   ·right
    refine ⟨hp, ?_⟩
    have a1 := hok _ (List.getElem_mem (show i < l.length by omega))
    have a2 := hok _ (List.getElem_mem hi)
    have g1 := (Z140.1 (hn _ (List.getElem_mem (show i < l.length by omega)))).1
    have g2 := (Z140.1 (hn _ (List.getElem_mem hi))).1
    have n0 : l[i].pol.cmp l[i + 1].pol ≠ 0 := fun e => h2 ⟨by omega, hp, Oid.cmp_zero a1.pol a2.pol g1 g2 e⟩
    have n1 : ¬ 0 < l[i].pol.cmp l[i + 1].pol := fun e => h1 ⟨by omega, .inr ⟨hp, e⟩⟩
    omega
   ·left
    have : ¬ l[i + 1].par < l[i].par := fun e => h1 ⟨by omega, .inl e⟩
    omega
  ·have := (pl i hi).2.2.2; omega
 ·intro h j _ hj
  have hj' : j < l.length := by omega
  unfold oneE
  rw [List.getElem?_eq_getElem hj']
  dsimp only
  have hpl : plE l j l[j] = 0 := by
   unfold plE
   have hd := h.dep j hj'
   by_cases h0 : j = 0
   ·subst h0
    have := h.shape.root _ (List.getElem?_eq_getElem hj')
    rw [if_neg (by omega), if_neg (by omega), if_neg (by omega), if_neg (by omega)]
   ·have hp := h.shape.par hj' (by omega)
    rw [if_neg (by omega)]
    by_cases h1 : 1 < j
    ·obtain ⟨i, rfl⟩ : ∃ i, j = i + 1 := ⟨j - 1, by omega⟩
     have hk := h.key i hj' (by omega)
     rw [Z1xs (by omega)]
     unfold keyLt at hk
     rw [if_neg (by omega), if_neg, if_neg (by omega)]
     rintro ⟨_, e1, e2⟩
     rw [e2] at hk
     have := Oid.cmp_self l[i + 1].pol
     omega
    ·rw [if_neg (by omega), if_neg (by omega), if_neg (by omega)]
  rw [hpl]
  simp only [ne_eq, not_true, if_false]
  exact h.nd _ (List.getElem_mem hj')
end Go.Ev
/-
 One more node in a valid tree.
-/
set_option linter.unusedSimpArgs false
set_option linter.unusedVariables false
namespace Go.Ev
open Go
def behind (n x : Nd) : Bool := decide (n.par < x.par) || (decide (x.par = n.par) && decide (0 < x.pol.cmp n.pol))
def Zqo (n : Nd) : Nat → List Nd → Nat
 | i, [] => i
 | i, x :: r => if 0 < i ∧ behind n x = true then i else Zqo n (i + 1) r
def insAt (l : List Nd) (n : Nd) : Nat := Zqo n 0 l
theorem Zz8 {n : Nd} : ∀ (r : List Nd) (i : Nat), i ≤ Zqo n i r ∧ Zqo n i r ≤ i + r.length ∧ (∀ j x, i ≤ j → j < Zqo n i r → 0 < j → r[j - i]? = some x → behind n x = false) ∧ (∀ x, r[Zqo n i r - i]? = some x → 0 < Zqo n i r ∧ behind n x = true)
 | [], i => ⟨Nat.le_refl _, by simp [Zqo], fun j x h1 h2 => by simp [Zqo] at h2; omega, fun x h => by simp at h⟩
 | y :: r, i => by
  unfold Zqo
  by_cases hb : 0 < i ∧ behind n y = true
  ·rw [if_pos hb]
   exact ⟨Nat.le_refl _, by omega, fun j x h1 h2 => by omega, fun x h => by simp at h; subst h; exact hb⟩
  ·rw [if_neg hb]
   obtain ⟨h1, h2, h3, h4⟩ := Zz8 (n := n) r (i + 1)
   refine ⟨by omega, by simp only [List.length_cons]; omega, fun j x hj hj2 h0 hx => ?_, fun x hx => ?_⟩
   ·by_cases hji : j = i
    ·subst hji
     rw [Nat.sub_self] at hx
     simp at hx; subst hx
     cases hh : behind n y with
     | false => rfl
     | true => exact absurd ⟨h0, hh⟩ hb
    ·refine h3 j x (by omega) hj2 h0 ?_
     rw [show j - i = (j - (i + 1)) + 1 by omega] at hx
     simpa using hx
   ·refine h4 x ?_
    rw [show Zqo n (i + 1) r - i = (Zqo n (i + 1) r - (i + 1)) + 1 by omega] at hx
    simpa using hx
theorem Zo8 (l : List Nd) (n : Nd) : insAt l n ≤ l.length := by have := (Zz8 (n := n) l 0).2.1; unfold insAt; omega
theorem Z184 {l : List Nd} {n : Nd} {j : Nat} (hj : j < insAt l n) (h0 : 0 < j) (hl : j < l.length) : behind n l[j] = false :=
 (Zz8 (n := n) l 0).2.2.1 j l[j] (by omega) hj h0 (by rw [Nat.sub_zero, List.getElem?_eq_getElem hl])
theorem Z1ku {l : List Nd} {n : Nd} (hl : insAt l n < l.length) : 0 < insAt l n ∧ behind n l[insAt l n] = true :=
 (Zz8 (n := n) l 0).2.2.2 l[insAt l n] (by rw [Nat.sub_zero]; exact List.getElem?_eq_getElem hl)
def sh (a : Nat) (x : Nd) : Nd := { x with par := if (a : Int) ≤ x.par then x.par + 1 else x.par }
def addN (l : List Nd) (n : Nd) : List Nd := (l.take (insAt l n)).map (sh (insAt l n)) ++ (n :: (l.drop (insAt l n)).map (sh (insAt l n)))
def Zh3 (l : List Nd) (p : Int) (o : Oid) : Bool := l.any fun x => decide (x.par = p) && decide (x.pol = o)
def addE (l : List Nd) (n : Nd) : Int :=
 if (l.length = 0 ∧ n.par ≠ -1) ∨ (0 < l.length ∧ (n.par < 0 ∨ (l.length : Int) ≤ n.par)) then 19
 else if Zh3 l n.par n.pol = true then 20
 else if l.length = 65536 then 3
 else if 0 ≤ n.par ∧ dep l n.par.toNat = 64 then 12
 else ndE n
section
variable {l : List Nd} {n : Nd}
theorem addN_len : (addN l n).length = l.length + 1 := by
 have := Zo8 l n
 unfold addN
 simp only [List.length_append, List.length_map, List.length_take, List.length_cons, List.length_drop]
 omega
theorem Z1mm {j : Nat} (hj : j < insAt l n) (hl : j < l.length) : (addN l n)[j]? = some (sh (insAt l n) l[j]) := by
 have := Zo8 l n
 unfold addN
 rw [List.getElem?_append_left (by simp; omega), List.getElem?_map, List.getElem?_take, if_pos hj, List.getElem?_eq_getElem hl]; rfl
theorem addN_at : (addN l n)[insAt l n]? = some n := by
 have := Zo8 l n
 unfold addN
 rw [List.getElem?_append_right (by simp; omega), List.length_map, List.length_take, Nat.min_eq_left this, Nat.sub_self]; rfl
theorem Z1si {j : Nat} (hj : insAt l n ≤ j) (hl : j < l.length) : (addN l n)[j + 1]? = some (sh (insAt l n) l[j]) := by
 have := Zo8 l n
 unfold addN
 rw [List.getElem?_append_right (by simp; omega), List.length_map, List.length_take, Nat.min_eq_left this, show j + 1 - insAt l n = (j - insAt l n) + 1 by omega, List.getElem?_cons_succ, List.getElem?_map, List.getElem?_drop,
  show insAt l n + (j - insAt l n) = j by omega, List.getElem?_eq_getElem hl]; rfl
def nw (a j : Nat) : Nat := if j < a then j else j + 1
theorem Z1wm {j : Nat} (hl : j < l.length) : (addN l n)[nw (insAt l n) j]? = some (sh (insAt l n) l[j]) := by
 unfold nw
 by_cases h : j < insAt l n
 ·rw [if_pos h]; exact Z1mm h hl
 ·rw [if_neg h]; exact Z1si (by omega) hl
theorem Z1wn {a k : Nat} (h : k ≠ a) : ∃ j, k = nw a j ∧ (j = k ∨ j + 1 = k) := by
 by_cases hk : k < a
 ·exact ⟨k, by unfold nw; rw [if_pos hk], .inl rfl⟩
 ·exact ⟨k - 1, by unfold nw; rw [if_neg (by omega)]; omega, .inr (by omega)⟩
theorem nw_lt {a i j : Nat} : nw a i < nw a j ↔ i < j := by unfold nw; split <;> split <;> omega
variable (hv : Valid l) (hok : ∀ x, x ∈ l → x.ok) (hn : n.ok) (he : addE l n = 0)
include hv hok hn he
omit hok hn in
theorem addE_parts : (l.length = 0 → n.par = -1) ∧ (0 < l.length → 0 ≤ n.par ∧ n.par < l.length) ∧ Zh3 l n.par n.pol = false ∧ l.length < 65536 ∧ (0 ≤ n.par → dep l n.par.toNat ≠ 64) ∧ ndE n = 0 := by
 unfold addE at he
 split at he
 ·cases he
 ·split at he
  ·cases he
  ·split at he
   ·cases he
   ·split at he
    ·cases he
    ·rename_i h1 h2 h3 h4
     have := hv.len
     exact ⟨fun h => Decidable.byContradiction fun e => h1 (.inl ⟨h, e⟩), fun h => by omega, by simpa using h2, by omega, fun h e => h4 ⟨h, e⟩, he⟩
theorem Z1eu (h0 : 0 < l.length) : n.par < insAt l n := by
 have _ := hok
 have _ := hn
 obtain ⟨_, h2, _⟩ := addE_parts hv he
 have h2 := h2 h0
 by_cases hl : insAt l n < l.length
 ·obtain ⟨hp, hb⟩ := Z1ku hl
  have := (hv.shape.par hl hp)
  unfold behind at hb
  simp only [Bool.or_eq_true, Bool.and_eq_true, decide_eq_true_eq] at hb
  omega
 ·have := Zo8 l n; omega
theorem at_pos (h0 : 0 < l.length) : 0 < insAt l n := by
 have := Z1eu hv hok hn he h0
 have := (addE_parts hv he).2.1 h0
 omega
omit hok hn he in
theorem sh_par {j : Nat} (hl : j < l.length) (h0 : 0 < j) : (sh (insAt l n) l[j]).par = (nw (insAt l n) (parN l j) : Int) := by
 have hp := (hv.shape.par hl h0).1
 unfold sh nw
 dsimp only
 rw [hp]
 split <;> split <;> omega
theorem add_shape : Shape (addN l n) := by
 by_cases h0 : 0 < l.length
 ·have hpa := Z1eu hv hok hn he h0
  have hap := at_pos hv hok hn he h0
  have h2 := (addE_parts hv he).2.1 h0
  refine ⟨fun m hm => ?_, fun k m hk hm => ?_⟩
  ·rw [Z1mm hap h0] at hm
   cases hm
   have := hv.shape.root _ (List.getElem?_eq_getElem h0)
   unfold sh
   dsimp only
   rw [if_neg (by omega)]; exact this
  ·have hlt : k < l.length + 1 := by rw [← addN_len (l := l) (n := n)]; exact (List.getElem?_eq_some_iff.1 hm).1
   by_cases hka : k = insAt l n
   ·subst hka
    rw [addN_at] at hm; cases hm; omega
   ·obtain ⟨j, e, hj⟩ := Z1wn hka
    have hjl : j < l.length := by
     unfold nw at e
     have := Zo8 l n
     split at e <;> omega
    rw [e, Z1wm hjl] at hm
    cases hm
    have hj0 : 0 < j := by
     unfold nw at e
     split at e <;> omega
    rw [sh_par hv hjl hj0, e]
    have := nw_lt (a := insAt l n) |>.2 (hv.shape.par hjl hj0).2
    omega
 ·have hl : l = [] := List.eq_nil_of_length_eq_zero (by omega)
  subst hl
  have := (addE_parts hv he).1 rfl
  refine ⟨fun m hm => ?_, fun k m hk hm => ?_⟩
  ·have : m = n := by simpa [addN, insAt, Zqo] using hm.symm
   subst this; assumption
  ·have : k < 1 := (List.getElem?_eq_some_iff.1 hm).1
   omega
theorem Z1xt {j : Nat} (hl : j < l.length) (h0 : 0 < j) : parN (addN l n) (nw (insAt l n) j) = nw (insAt l n) (parN l j) := by
 have _ := hok
 have _ := hn
 have _ := he
 unfold parN
 rw [Z1wm hl]
 dsimp only
 rw [sh_par hv hl h0]
 unfold parN
 rw [Int.toNat_natCast]
theorem add_dep : ∀ j, j < l.length → dep (addN l n) (nw (insAt l n) j) = dep l j := fun j => by
 induction j using Nat.strongRecOn with
 | _ j ih =>
  intro hl
  by_cases h0 : j = 0
  ·subst h0
   have := at_pos hv hok hn he hl
   unfold nw; rw [if_pos this]; rfl
  ·have hp := hv.shape.par hl (by omega)
   have hb : nw (insAt l n) j < (addN l n).length := by rw [addN_len]; unfold nw; split <;> omega
   have hpos : 0 < nw (insAt l n) j := by unfold nw; split <;> omega
   rw [Z1cl (add_shape hv hok hn he) hb hpos, Z1xt hv hok hn he hl (by omega), ih _ hp.2 (by omega), Z1cl hv.shape hl (by omega)]
theorem Z1ys (h0 : 0 < l.length) : dep (addN l n) (insAt l n) = dep l n.par.toNat + 1 := by
 have hpa := Z1eu hv hok hn he h0
 have hap := at_pos hv hok hn he h0
 have h2 := (addE_parts hv he).2.1 h0
 have hb : insAt l n < (addN l n).length := by rw [addN_len]; have := Zo8 l n; omega
 rw [Z1cl (add_shape hv hok hn he) hb hap]
 have e : parN (addN l n) (insAt l n) = n.par.toNat := by unfold parN; rw [addN_at]
 rw [e]
 have := add_dep hv hok hn he n.par.toNat (by omega)
 unfold nw at this
 rw [if_pos (by omega)] at this
 rw [this]
theorem add_valid : Valid (addN l n) := by
 obtain ⟨p1, p2, p3, p4, p5, p6⟩ := addE_parts hv he
 have hS := add_shape hv hok hn he
 have hlen := addN_len (l := l) (n := n)
 refine ⟨by omega, hS, fun i hi h0 => ?_, fun i hi => ?_, fun m hm => ?_⟩
 ·have hl0 : 0 < l.length := by omega
  have hpa := Z1eu hv hok hn he hl0
  have hap := at_pos hv hok hn he hl0
  have hle := Zo8 l n
  have g : ∀ k (hk : k < (addN l n).length) (x : Nd), (addN l n)[k]? = some x → (addN l n)[k] = x := fun k hk x hx => by
   rw [List.getElem?_eq_getElem hk] at hx; exact Option.some.inj hx
  have shk : ∀ {x y : Nd}, keyLt x y → keyLt (sh (insAt l n) x) (sh (insAt l n) y) := fun {x y} hk => by
   unfold keyLt sh at *
   dsimp only at *
   rcases hk with hk | ⟨hk, hc⟩
   ·left; split <;> split <;> omega
   ·right; rw [hk]; exact ⟨rfl, hc⟩
  by_cases h1 : i + 1 < insAt l n
  ·rw [g i _ _ (Z1mm (by omega) (by omega)), g (i + 1) _ _ (Z1mm h1 (by omega))]
   exact shk (hv.key i (by omega) h0)
  ·by_cases h2 : i + 1 = insAt l n
   ·have hil : i < l.length := by omega
    rw [g i _ _ (Z1mm (by omega) hil), g (i + 1) _ n (by rw [h2]; exact addN_at)]
    have hb := Z184 (l := l) (n := n) (j := i) (by omega) h0 hil
    have hp := hv.shape.par hil h0
    unfold behind at hb
    simp only [Bool.or_eq_false_iff, Bool.and_eq_false_iff, decide_eq_false_iff_not] at hb
    unfold keyLt sh
    dsimp only
    rw [if_neg (by omega)]
    by_cases he2 : l[i].par = n.par
    ·right
     refine ⟨he2, ?_⟩
     have h3 : ¬ 0 < l[i].pol.cmp n.pol := by rcases hb.2 with h | h; exact absurd he2 h; exact h
     have h4 : l[i].pol.cmp n.pol ≠ 0 := fun e => by
      have a1 := hok _ (List.getElem_mem hil)
      have g1 := (Z140.1 (hv.nd _ (List.getElem_mem hil))).1
      have e2 := Oid.cmp_zero a1.pol hn.pol g1 (Z140.1 p6).1 e
      have : Zh3 l n.par n.pol = true := List.any_eq_true.2 ⟨l[i], List.getElem_mem hil, by rw [he2, e2]; simp⟩
      rw [p3] at this; cases this
     omega
    ·left; omega
   ·by_cases h3 : i = insAt l n
    ·have hil : i < l.length := by omega
     rw [g i _ n (by rw [h3]; exact addN_at), g (i + 1) _ _ (Z1si (by omega) hil)]
     have hb := (Z1ku (l := l) (n := n) (by omega)).2
     unfold behind at hb
     simp only [Bool.or_eq_true, Bool.and_eq_true, decide_eq_true_eq] at hb
     have e3 : l[insAt l n]'(by omega) = l[i] := by congr 1; exact h3.symm
     rw [e3] at hb
     unfold keyLt sh
     dsimp only
     rcases hb with hb | ⟨hb, hc⟩
     ·left; split <;> omega
     ·right
      rw [if_neg (by omega)]
      have := Oid.cmp_swap l[i].pol n.pol
      exact ⟨hb.symm, by omega⟩
    ·obtain ⟨k, rfl⟩ : ∃ k, i = k + 1 := ⟨i - 1, by omega⟩
     rw [g (k + 1) _ _ (Z1si (by omega) (by omega)), g (k + 1 + 1) _ _ (Z1si (by omega) (by omega))]
     exact shk (hv.key k (by omega) (by omega))
 ·by_cases hia : i = insAt l n
  ·subst hia
   by_cases h0 : 0 < l.length
   ·rw [Z1ys hv hok hn he h0]
    have hh := p2 h0
    have := hv.dep n.par.toNat (by omega)
    have := p5 hh.1
    omega
   ·have hl : l = [] := List.eq_nil_of_length_eq_zero (by omega)
    subst hl
    show depF _ 0 0 ≤ 64
    simp [depF]
  ·obtain ⟨j, e, hj⟩ := Z1wn hia
   have hjl : j < l.length := by
    unfold nw at e
    have := Zo8 l n
    split at e <;> omega
   rw [e, add_dep hv hok hn he j hjl]
   exact hv.dep j hjl
 ·unfold addN at hm
  rcases List.mem_append.1 hm with hm | hm
  ·obtain ⟨x, hx, rfl⟩ := List.mem_map.1 hm
   exact hv.nd x (List.mem_of_mem_take hx)
  ·rcases List.mem_cons.1 hm with rfl | hm
   ·exact p6
   ·obtain ⟨x, hx, rfl⟩ := List.mem_map.1 hm
    exact hv.nd x (List.mem_of_mem_drop hx)
omit hv he in
theorem add_ok : ∀ x, x ∈ addN l n → x.ok := fun m hm => by
 unfold addN at hm
 rcases List.mem_append.1 hm with hm | hm
 ·obtain ⟨x, hx, rfl⟩ := List.mem_map.1 hm
  have := hok x (List.mem_of_mem_take hx)
  exact ⟨this.pol, this.ex⟩
 ·rcases List.mem_cons.1 hm with rfl | hm
  ·exact hn
  ·obtain ⟨x, hx, rfl⟩ := List.mem_map.1 hm
   have := hok x (List.mem_of_mem_drop hx)
   exact ⟨this.pol, this.ex⟩
end
end Go.Ev
/-
 Trees as plain data are valid.
-/
set_option linter.unusedSimpArgs false
set_option linter.unusedVariables false
namespace Go.Ev
open Go
def notesQ (k : Nat) : List Bool := if k % 4 = 1 then [true] else if k % 4 = 2 then [false] else if k % 4 = 3 then [false, true] else []
theorem Z1qp (k : Nat) : (notesQ k).length ≤ 2 := by unfold notesQ; split <;> (try split) <;> (try split) <;> decide
structure T4 where
 a : Nat
 b : Nat
 c : Nat
 d : Nat
def T4.nd (t : T4) (par : Int) : Nd := ⟨par, polO t.b, (setOf t.c).1, notesQ t.d⟩
theorem T4.nd_ok (t : T4) (p : Int) : (t.nd p).ok := ⟨Z1mj _, Z21n _⟩
theorem T4.nd_e (t : T4) (p : Int) : ndE (t.nd p) = 0 := Z140.2 ⟨Z1zt _, (Z1qo _).1, by have := Z1qp t.d; show (notesQ t.d).length ≤ 8; omega⟩
def Zx9 (i : Nat) (l : List Nd) (t : T4) : List Nd :=
 let n := t.nd (if 0 < i then ((t.a % l.length : Nat) : Int) else -1)
 if addE l n = 0 then addN l n else l
def tofFrom : Nat → List Nd → List T4 → List Nd
 | _, l, [] => l
 | i, l, t :: r => if i < 25 then tofFrom (i + 1) (Zx9 i l t) r else l
def tof (l : List T4) : List Nd := tofFrom 0 [] l
structure Tree (l : List Nd) : Prop where
 valid : Valid l
 ok : ∀ n, n ∈ l → n.ok
theorem Tree.nil : Tree [] := ⟨⟨by decide, ⟨fun n h => by simp at h, fun i n _ h => by simp at h⟩, fun i h => by simp at h, fun i h => by simp at h, fun n h => nomatch h⟩, fun n h => nomatch h⟩
theorem Z1il {i : Nat} {l : List Nd} {t : T4} (h : Tree l) : Tree (Zx9 i l t) ∧ (Zx9 i l t).length ≤ l.length + 1 ∧ l.length ≤ (Zx9 i l t).length := by
 unfold Zx9
 dsimp only
 generalize (if 0 < i then ((t.a % l.length : Nat) : Int) else -1) = p
 split
 ·rename_i he
  exact ⟨⟨add_valid h.valid h.ok (t.nd_ok _) he, add_ok h.ok (t.nd_ok _)⟩, by rw [addN_len]; omega, by rw [addN_len]; omega⟩
 ·exact ⟨h, by omega, by omega⟩
theorem tofFrom_tree : ∀ (r : List T4) (i : Nat) (l : List Nd), Tree l → l.length ≤ i → i ≤ 25 → Tree (tofFrom i l r) ∧ (tofFrom i l r).length ≤ 25
 | [], i, l, h, hl, hi => ⟨h, by show l.length ≤ 25; omega⟩
 | t :: r, i, l, h, hl, hi => by
  unfold tofFrom
  split
  ·obtain ⟨h1, h2, h3⟩ := Z1il (i := i) (t := t) h
   exact tofFrom_tree r (i + 1) _ h1 (by omega) (by omega)
  ·exact ⟨h, by omega⟩
theorem Z21q (l : List T4) : Tree (tof l) ∧ (tof l).length ≤ 25 := tofFrom_tree l 0 [] Tree.nil (by simp) (by omega)
theorem Z1sj {t : T4} : 0 < (Zx9 0 [] t).length := by
 unfold Zx9
 dsimp only
 rw [if_pos]
 ·rw [addN_len]; simp
 ·unfold addE
  rw [if_neg (by simp [T4.nd]), if_neg (by simp [Zh3]), if_neg (by simp), if_neg (by simp [T4.nd])]
  exact t.nd_e _
end Go.Ev
/-
 Pruning in one sweep; children counted.
-/
set_option linter.unusedSimpArgs false
set_option linter.unusedVariables false
namespace Go.Ev
open Go
def sweep (l : List Nd) (d : Nat) : Nat → (Nat → Bool) → (Nat → Bool)
 | 0, A => A
 | i + 1, A => sweep l d i (if chl l A d i = true then del A i else A)
theorem Z21r {l : List Nd} (h : Shape l) {A : Nat → Bool} (hu : Up l A) {at_ : List Int} (hat : ∀ i, i < l.length → (at_.contains (i : Int) = !A i)) : ∀ i, i < l.length → und l at_ i = !A i := fun i => by
 induction i using Nat.strongRecOn with
 | _ i ih =>
  intro hi
  rw [Zk3 h at_ hi, hat i hi]
  by_cases h0 : 0 < i
  ·have hp := (h.par hi h0).2
   rw [decide_eq_true h0, Bool.true_and, ih _ hp (by omega)]
   cases ha : A i with
   | true => rw [hu i hi h0 ha]; rfl
   | false => rfl
  ·rw [decide_eq_false h0, Bool.false_and, Bool.or_false]
theorem Z200 {l : List Nd} (h : Shape l) {A : Nat → Bool} (hu : Up l A) {at_ : List Int} (hat : ∀ i, i < l.length → (at_.contains (i : Int) = !A i)) : delR l at_ = left l A := by
 unfold delR
 exact Z120 (fun i hi => by rw [Z21r h hu hat i hi, Bool.not_not]) h.par_lt
end Go.Ev
/-
 What stays in what is left; lines.
-/
set_option linter.unusedSimpArgs false
set_option linter.unusedVariables false
namespace Go.Ev
open Go
def polN' (l : List Nd) (i : Nat) : Oid := match l[i]? with
 | none => ⟨0, []⟩
 | some n => n.pol
def lineF (l : List Nd) : Nat → Nat → List Oid
 | 0, _ => []
 | f + 1, i => (if i = 0 then [] else lineF l f (parN l i)) ++ [polN' l i]
def line (l : List Nd) (i : Nat) : List Oid := lineF l (i + 1) i
def findL (l : List Nd) (ps : List Oid) : Nat → Nat → Int
 | 0, _ => -1
 | f + 1, i => if line l i = ps then (i : Int) else findL l ps f (i + 1)
def find (l : List Nd) (ps : List Oid) : Int := findL l ps l.length 0
end Go.Ev