/-
  The evaluator: EzM1 EzM2 EzM3.
-/
import Derived.Test.YthakkigkdhaihaaGreatDoorEzO1
/-
 Trees as plain values: nodes, depths, children, what is left when nodes go.
-/
set_option linter.unusedSimpArgs false
set_option linter.unusedVariables false
namespace Go.Ev
open Go
structure Nd where
 par : Int
 pol : Oid
 ex : List Oid
 q : List Bool
deriving DecidableEq
def rk (A : Nat → Bool) : Nat → Nat
 | 0 => 0
 | i + 1 => rk A i + (if A i then 1 else 0)
def mv (l : List Nd) (A : Nat → Bool) (n : Nd) : Nd := { n with par := if n.par < 0 then n.par else (rk A n.par.toNat : Int) }
def sub (l : List Nd) (A : Nat → Bool) : Nat → List Nd
 | 0 => []
 | i + 1 => match l[i]? with
  | none => sub l A i
  | some n => if A i then sub l A i ++ [mv l A n] else sub l A i
def left (l : List Nd) (A : Nat → Bool) : List Nd := sub l A l.length
def parN (l : List Nd) (i : Nat) : Nat := match l[i]? with
 | none => 0
 | some n => n.par.toNat
structure Shape (l : List Nd) : Prop where
 root : ∀ n, l[0]? = some n → n.par = -1
 lt : ∀ (i : Nat) (n : Nd), 0 < i → l[i]? = some n → 0 ≤ n.par ∧ n.par < (i : Int)
theorem Shape.par {l : List Nd} (h : Shape l) {i : Nat} (hi : i < l.length) (h0 : 0 < i) : l[i].par = (parN l i : Int) ∧ parN l i < i := by
 have := h.lt i l[i] h0 (List.getElem?_eq_getElem hi)
 unfold parN
 rw [List.getElem?_eq_getElem hi]
 dsimp only
 omega
def depF (l : List Nd) : Nat → Nat → Nat
 | 0, _ => 0
 | f + 1, i => if i = 0 then 0 else depF l f (parN l i) + 1
def dep (l : List Nd) (i : Nat) : Nat := depF l i i
def Up (l : List Nd) (A : Nat → Bool) : Prop := ∀ i, i < l.length → 0 < i → A i = true → A (parN l i) = true
theorem Up.root {l : List Nd} (h : Shape l) {A : Nat → Bool} (hu : Up l A) : ∀ i, i < l.length → A i = true → A 0 = true := fun i => by
 induction i using Nat.strongRecOn with
 | _ i ih =>
  intro hi ha
  by_cases h0 : i = 0
  ·subst h0; exact ha
  ·have := (h.par hi (by omega)).2
   exact ih _ this (by omega) (hu i hi (by omega) ha)
def kid (l : List Nd) (A : Nat → Bool) (i : Nat) : Bool := (List.range l.length).any fun k => decide (0 < k) && A k && decide (parN l k = i)
theorem Z1ke {l : List Nd} {A : Nat → Bool} {i : Nat} : kid l A i = true ↔ ∃ k, k < l.length ∧ 0 < k ∧ A k = true ∧ parN l k = i := by
 unfold kid
 simp only [List.any_eq_true, List.mem_range, Bool.and_eq_true, decide_eq_true_eq]
 constructor
 ·rintro ⟨k, h1, ⟨h2, h3⟩, h4⟩; exact ⟨k, h1, h2, h3, h4⟩
 ·rintro ⟨k, h1, h2, h3, h4⟩; exact ⟨k, h1, ⟨h2, h3⟩, h4⟩
def chl (l : List Nd) (A : Nat → Bool) (d i : Nat) : Bool := A i && decide (dep l i < d) && !kid l A i
def stF (l : List Nd) (d : Nat) : Nat → Nat → Bool
 | 0, _ => false
 | f + 1, i => decide (d ≤ dep l i) || (List.range l.length).any fun k => decide (0 < k) && stF l d f k && decide (parN l k = i)
def stays (l : List Nd) (d i : Nat) : Bool := stF l d (l.length - i) i
theorem stF_eq {l : List Nd} (h : Shape l) (d : Nat) : ∀ (f g i : Nat), l.length - i ≤ f → l.length - i ≤ g → i < l.length → stF l d f i = stF l d g i
 | 0, g, i, hf, hg, hi => by omega
 | f + 1, 0, i, hf, hg, hi => by omega
 | f + 1, g + 1, i, hf, hg, hi => by
  unfold stF
  congr 1
  have : ∀ k, k < l.length → (decide (0 < k) && stF l d f k && decide (parN l k = i)) = (decide (0 < k) && stF l d g k && decide (parN l k = i)) := fun k hk => by
   by_cases hp : parN l k = i
   ·by_cases h0 : 0 < k
    ·have := (h.par hk h0).2
     rw [stF_eq h d f g k (by omega) (by omega) hk]
    ·rw [decide_eq_false h0]; rfl
   ·rw [decide_eq_false hp, Bool.and_false, Bool.and_false]
  rw [Bool.eq_iff_iff, List.any_eq_true, List.any_eq_true]
  constructor
  ·rintro ⟨k, hk, e⟩; exact ⟨k, hk, by rw [← this k (List.mem_range.1 hk)]; exact e⟩
  ·rintro ⟨k, hk, e⟩; exact ⟨k, hk, by rw [this k (List.mem_range.1 hk)]; exact e⟩
theorem Z1gl {l : List Nd} (h : Shape l) {d i : Nat} (hi : i < l.length) : stays l d i = true ↔ d ≤ dep l i ∨ ∃ k, k < l.length ∧ 0 < k ∧ stays l d k = true ∧ parN l k = i := by
 unfold stays
 obtain ⟨f, hf⟩ : ∃ f, l.length - i = f + 1 := ⟨l.length - i - 1, by omega⟩
 rw [hf, stF]
 simp only [Bool.or_eq_true, decide_eq_true_eq, List.any_eq_true, List.mem_range, Bool.and_eq_true]
 constructor
 ·rintro (h1 | ⟨k, h1, ⟨h2, h3⟩, h4⟩)
  ·exact .inl h1
  ·have := (h.par h1 h2).2
   exact .inr ⟨k, h1, h2, by rw [stF_eq h d (l.length - k) f k (by omega) (by omega) h1]; exact h3, h4⟩
 ·rintro (h1 | ⟨k, h1, h2, h3, h4⟩)
  ·exact .inl h1
  ·have := (h.par h1 h2).2
   exact .inr ⟨k, h1, ⟨h2, by rw [← stF_eq h d (l.length - k) f k (by omega) (by omega) h1]; exact h3⟩, h4⟩
structure Live (l : List Nd) (d : Nat) (A : Nat → Bool) : Prop where
 up : Up l A
 st : ∀ i, i < l.length → stays l d i = true → A i = true
theorem Live.all (l : List Nd) (d : Nat) : Live l d (fun _ => true) := ⟨fun _ _ _ _ => rfl, fun _ _ _ => rfl⟩
def del (A : Nat → Bool) (x : Nat) : Nat → Bool := fun i => A i && !decide (i = x)
theorem Live.del {l : List Nd} (h : Shape l) {d : Nat} {A : Nat → Bool} (hl : Live l d A) {x : Nat} (hx : x < l.length) (hc : chl l A d x = true) : Live l d (del A x) := by
 unfold chl at hc
 simp only [Bool.and_eq_true, decide_eq_true_eq, Bool.not_eq_true'] at hc
 obtain ⟨⟨h1, h2⟩, h3⟩ := hc
 have nokid : ∀ k, k < l.length → 0 < k → A k = true → parN l k ≠ x := fun k hk h0 ha e => by
  have : kid l A x = true := Z1ke.2 ⟨k, hk, h0, ha, e⟩
  rw [h3] at this; cases this
 refine ⟨fun i hi h0 ha => ?_, fun i hi hs => ?_⟩
 ·unfold Go.Ev.del at ha ⊢
  simp only [Bool.and_eq_true, Bool.not_eq_true', decide_eq_false_iff_not] at ha ⊢
  exact ⟨hl.up i hi h0 ha.1, nokid i hi h0 ha.1⟩
 ·unfold Go.Ev.del
  simp only [Bool.and_eq_true, Bool.not_eq_true', decide_eq_false_iff_not]
  refine ⟨hl.st i hi hs, fun e => ?_⟩
  subst e
  rcases (Z1gl h hi).1 hs with hd | ⟨k, hk, h0, hsk, hp⟩
  ·omega
  ·exact nokid k hk h0 (hl.st k hk hsk) hp
theorem Live.done {l : List Nd} (h : Shape l) {d : Nat} {A : Nat → Bool} (hl : Live l d A) (hn : ∀ i, i < l.length → chl l A d i = false) : ∀ i, i < l.length → A i = stays l d i := by
 have key : ∀ f i, l.length - i ≤ f → i < l.length → A i = true → stays l d i = true := fun f => by
  induction f with
  | zero => intro i h1 h2; omega
  | succ f ih =>
   intro i hf hi ha
   rw [Z1gl h hi]
   by_cases hd : d ≤ dep l i
   ·exact .inl hd
   ·have := hn i hi
    unfold chl at this
    rw [ha, decide_eq_true (by omega)] at this
    simp only [Bool.true_and, Bool.not_eq_false'] at this
    obtain ⟨k, h1, h2, h3, h4⟩ := Z1ke.1 this
    have hlt := (h.par h1 h2).2
    exact .inr ⟨k, h1, h2, ih k (by omega) h1 h3, h4⟩
 intro i hi
 cases ha : A i with
 | true => exact (key _ i (Nat.le_refl _) hi ha).symm
 | false =>
  cases hs : stays l d i with
  | false => rfl
  | true => rw [hl.st i hi hs] at ha; cases ha
section
variable {l : List Nd} (h : Shape l) {A : Nat → Bool} (hu : Up l A)
include h hu
end
end Go.Ev
/-
 Pruning one node after another: whatever the order, what is left is what stays.
-/
set_option linter.unusedSimpArgs false
set_option linter.unusedVariables false
namespace Go.Ev
open Go
end Go.Ev
/-
 Valid trees; one more node.
-/
set_option linter.unusedSimpArgs false
set_option linter.unusedVariables false
namespace Go.Ev
open Go
theorem cmpL_swap : ∀ (a b : List Nat), cmpL b a = -cmpL a b
 | [], [] => rfl
 | [], _ :: _ => rfl
 | _ :: _, [] => rfl
 | x :: a, y :: b => by
  unfold cmpL
  rcases Nat.lt_trichotomy x y with h | h | h
  ·rw [if_pos h, if_neg (by omega), if_pos h]; rfl
  ·subst h; rw [if_neg (by omega), if_neg (by omega), if_neg (by omega), if_neg (by omega)]; exact cmpL_swap a b
  ·rw [if_pos h, if_neg (by omega), if_pos h]
theorem cmpL_zero : ∀ {a b : List Nat}, cmpL a b = 0 → a = b
 | [], [], _ => rfl
 | [], _ :: _, h => by simp [cmpL] at h
 | _ :: _, [], h => by simp [cmpL] at h
 | x :: a, y :: b, h => by
  unfold cmpL at h
  rcases Nat.lt_trichotomy x y with h1 | h1 | h1
  ·rw [if_pos h1] at h; omega
  ·subst h1
   rw [if_neg (by omega), if_neg (by omega)] at h
   rw [cmpL_zero h]
  ·rw [if_neg (by omega), if_pos h1] at h; omega
theorem cmpL_self : ∀ (a : List Nat), cmpL a a = 0
 | [] => rfl
 | x :: a => by unfold cmpL; rw [if_neg (by omega), if_neg (by omega)]; exact cmpL_self a
theorem cmpL_lt_trans : ∀ {a b c : List Nat}, cmpL a b < 0 → cmpL b c < 0 → cmpL a c < 0
 | [], [], _, h, _ => by simp [cmpL] at h
 | [], _ :: _, [], _, h => by simp [cmpL] at h
 | [], _ :: _, _ :: _, _, _ => by simp [cmpL]
 | _ :: _, [], _, h, _ => by simp [cmpL] at h
 | _ :: _, _ :: _, [], _, h => by simp [cmpL] at h
 | x :: a, y :: b, z :: c, h1, h2 => by
  unfold cmpL at h1 h2 ⊢
  by_cases xy : x < y
  ·by_cases yz : y < z
   ·rw [if_pos (by omega)]; omega
   ·rw [if_neg yz] at h2
    by_cases zy : z < y
    ·rw [if_pos zy] at h2; omega
    ·rw [if_pos (by omega)]; omega
  ·rw [if_neg xy] at h1
   by_cases yx : y < x
   ·rw [if_pos yx] at h1; omega
   ·rw [if_neg yx] at h1
    obtain rfl : x = y := by omega
    by_cases xz : x < z
    ·rw [if_pos xz]; omega
    ·rw [if_neg xz] at h2 ⊢
     by_cases zx : z < x
     ·rw [if_pos zx] at h2; omega
     ·rw [if_neg zx] at h2 ⊢
      exact cmpL_lt_trans h1 h2
theorem Oid.cmp_swap (a b : Oid) : b.cmp a = -a.cmp b := cmpL_swap _ _
theorem Oid.cmp_self (a : Oid) : a.cmp a = 0 := cmpL_self _
theorem Oid.cmp_lt_trans {a b c : Oid} (h1 : a.cmp b < 0) (h2 : b.cmp c < 0) : a.cmp c < 0 := cmpL_lt_trans h1 h2
theorem all_zero_eq : ∀ {l m : List Nat}, l.length = m.length → (l.all fun x => decide (x = 0)) = true → (m.all fun x => decide (x = 0)) = true → l = m
 | [], [], _, _, _ => rfl
 | [], _ :: _, h, _, _ => by simp at h
 | _ :: _, [], h, _, _ => by simp at h
 | x :: l, y :: m, h, h1, h2 => by
  simp only [List.all_cons, Bool.and_eq_true, decide_eq_true_eq] at h1 h2
  rw [h1.1, h2.1, all_zero_eq (by simpa using h) h1.2 h2.2]
theorem Oid.cmp_zero {a b : Oid} (ha : a.ok) (hb : b.ok) (ga : a.good = true) (gb : b.good = true) (h : a.cmp b = 0) : a = b := by
 have e := cmpL_zero h
 unfold Oid.good at ga gb
 simp only [Bool.and_eq_true, decide_eq_true_eq] at ga gb
 unfold Oid.arcs at e
 rw [Nat.min_eq_left ga.1.1.2, Nat.min_eq_left gb.1.1.2] at e
 have hn : a.n = b.n := by
  have := congrArg List.length e
  rw [List.length_take, List.length_take, ha.len, hb.len, Nat.min_eq_left ga.1.1.2, Nat.min_eq_left gb.1.1.2] at this
  exact this
 have hd : a.a.drop a.n = b.a.drop b.n := all_zero_eq (by rw [List.length_drop, List.length_drop, ha.len, hb.len, hn]) ga.1.2 gb.1.2
 obtain ⟨n, l⟩ := a
 obtain ⟨m, l'⟩ := b
 dsimp only at hn e hd
 subst hn
 rw [Oid.mk.injEq]
 exact ⟨rfl, by rw [← List.take_append_drop n l, ← List.take_append_drop n l', e, hd]⟩
structure Nd.ok (n : Nd) : Prop where
 pol : n.pol.ok
 ex : ∀ o, o ∈ n.ex → o.ok
def ndE (n : Nd) : Int := if n.pol.good = false then 1 else if setErr n.ex ≠ 0 then setErr n.ex else if 8 < n.q.length then 3 else 0
def keyLt (a b : Nd) : Prop := a.par < b.par ∨ a.par = b.par ∧ a.pol.cmp b.pol < 0
structure Valid (l : List Nd) : Prop where
 len : l.length ≤ 65536
 shape : Shape l
 key : ∀ (i : Nat) (h : i + 1 < l.length), 0 < i → keyLt l[i] l[i + 1]
 dep : ∀ i, i < l.length → dep l i ≤ 64
 nd : ∀ n, n ∈ l → ndE n = 0
end Go.Ev