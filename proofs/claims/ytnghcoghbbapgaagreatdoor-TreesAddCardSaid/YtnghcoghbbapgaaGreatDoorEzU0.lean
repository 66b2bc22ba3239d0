/-
 What the reference's deletions and additions leave, with capacities.
-/
import Derived.Test.YtnghcoghbbapgaaGreatDoorEzXG
set_option linter.unusedSimpArgs false
set_option linter.unusedVariables false
namespace Go.Ev
open Go
theorem Z1sr {l : List Cd} (h : CdsB l) (A : Nat → Bool) : CdsB (leftC l A) := lc_b h (Nat.le_refl _)
def shC (a : Nat) (y : Cd) : Cd := ⟨sh a y.n, y.ec, y.qc⟩
def atC (l : List Cd) (x : Cd) : Nat := insAt (nds l) x.n
def insC (l : List Cd) (x : Cd) : List Cd := l.take (atC l x) ++ x :: l.drop (atC l x)
def addC (l : List Cd) (x : Cd) : List Cd := (l.take (atC l x)).map (shC (atC l x)) ++ (x :: (l.drop (atC l x)).map (shC (atC l x)))
theorem atC_le (l : List Cd) (x : Cd) : atC l x ≤ l.length := by have := Zo8 (nds l) x.n; rw [Z1r] at this; exact this
theorem Z1yx (a b : List Cd) : nds (a ++ b) = nds a ++ nds b := by simp [nds]
theorem Z22b (a : Cd) (b : List Cd) : nds (a :: b) = a.n :: nds b := rfl
theorem Z20j (a : Nat) (l : List Cd) : nds (l.map (shC a)) = (nds l).map (sh a) := by simp [nds, shC]
theorem Z1ss (l : List Cd) (x : Cd) : nds (addC l x) = addN (nds l) x.n := by
 unfold addC addN atC
 rw [Z1yx, Z22b, Z20j, Z20j]
 simp [nds, List.map_take, List.map_drop]
theorem Z1a3 (l : List Cd) (x : Cd) : (addC l x).length = l.length + 1 := by
 have := atC_le l x
 simp [addC]; omega
theorem Zod (l : List Cd) (x : Cd) : (insC l x).length = l.length + 1 := by
 have := atC_le l x
 simp [insC]; omega
theorem addC_b {l : List Cd} (h : CdsB l) {x : Cd} (hx : x.n.ok) (h1 : x.n.ex.length < 1000000000) (h2 : x.n.q.length < 1000000000) (hl : l.length < 90000) : CdsB (addC l x) := by
 have key : ∀ z, z ∈ addC l x → z.n.ok ∧ z.n.ex.length < 1000000000 ∧ z.n.q.length < 1000000000 := fun z hz => by
  have old : ∀ y, y ∈ l → (shC (atC l x) y).n.ok ∧ (shC (atC l x) y).n.ex.length < 1000000000 ∧ (shC (atC l x) y).n.q.length < 1000000000 := fun y hy => ⟨⟨(h.ok y hy).pol, (h.ok y hy).ex⟩, h.ex y hy, h.q y hy⟩
  unfold addC at hz
  rcases List.mem_append.1 hz with hz | hz
  ·obtain ⟨y, hy, rfl⟩ := List.mem_map.1 hz; exact old y (List.mem_of_mem_take hy)
  ·rcases List.mem_cons.1 hz with rfl | hz
   ·exact ⟨hx, h1, h2⟩
   ·obtain ⟨y, hy, rfl⟩ := List.mem_map.1 hz; exact old y (List.mem_of_mem_drop hy)
 exact ⟨fun z hz => (key z hz).1, by rw [Z1a3]; omega, fun z hz => (key z hz).2.1, fun z hz => (key z hz).2.2⟩
theorem insC_b {l : List Cd} (h : CdsB l) {x : Cd} (hx : x.n.ok) (h1 : x.n.ex.length < 1000000000) (h2 : x.n.q.length < 1000000000) (hl : l.length < 90000) : CdsB (insC l x) := by
 have key : ∀ z, z ∈ insC l x → z.n.ok ∧ z.n.ex.length < 1000000000 ∧ z.n.q.length < 1000000000 := fun z hz => by
  have old : ∀ y, y ∈ l → y.n.ok ∧ y.n.ex.length < 1000000000 ∧ y.n.q.length < 1000000000 := fun y hy => ⟨h.ok y hy, h.ex y hy, h.q y hy⟩
  unfold insC at hz
  rcases List.mem_append.1 hz with hz | hz
  ·exact old z (List.mem_of_mem_take hz)
  ·rcases List.mem_cons.1 hz with rfl | hz
   ·exact ⟨hx, h1, h2⟩
   ·exact old z (List.mem_of_mem_drop hz)
 exact ⟨fun z hz => (key z hz).1, by rw [Zod]; omega, fun z hz => (key z hz).2.1, fun z hz => (key z hz).2.2⟩
theorem Z1mx (x : Cd) (l : List Cd) : cdsC (x :: l) = x.cells ++ cdsC l := by simp [cdsC]
theorem Z1qt {l : List Cd} {i : Nat} (hi : i < l.length) : cdsC l = cdsC (l.take i) ++ (l[i].cells ++ cdsC (l.drop (i + 1))) := by
 rw [← Z1mx, ← List.drop_eq_getElem_cons hi, ← Z92, List.take_append_drop]
def Cd.setPar (x : Cd) (p : Int) : Cd := ⟨{ x.n with par := p }, x.ec, x.qc⟩
theorem Z1vb {l : List Cd} (h : CdsOk l) {i : Nat} (hi : i < l.length) (p : Int) : (cdsC l).set (i * 20) (.v (.int .i64 p)) = cdsC (l.set i (l[i].setPar p)) := by
 have hl : (cdsC (l.take i)).length = i * 20 := by rw [cdsC_len (fun x hx => h x (List.mem_of_mem_take hx)), List.length_take, Nat.min_eq_left (by omega)]
 have hr : l.set i (l[i].setPar p) = l.take i ++ (l[i].setPar p :: l.drop (i + 1)) := by rw [List.set_eq_take_append_cons_drop, if_pos hi]
 rw [Z1qt hi, List.set_append_right _ _ (by omega), hl, Nat.sub_self, hr, Z92, Z1mx]
 rfl
def shTo (a : Nat) (l : List Cd) (i : Nat) : List Cd := l.mapIdx fun j y => if j < i ∧ j ≠ a then shC a y else y
theorem Zoe (a : Nat) (l : List Cd) (i : Nat) : (shTo a l i).length = l.length := by simp [shTo]
theorem Z148 (a : Nat) (l : List Cd) (i : Nat) {j : Nat} (h : j < l.length) : (shTo a l i)[j]'(by rw [Zoe]; exact h) = if j < i ∧ j ≠ a then shC a l[j] else l[j] := by simp [shTo]
theorem Z20k (a : Nat) (l : List Cd) : shTo a l 0 = l := by
 refine Z6r (Zoe _ _ _) fun j hj => ?_
 rw [Zoe] at hj
 rw [List.getElem?_eq_getElem (by rw [Zoe]; exact hj), List.getElem?_eq_getElem hj, Z148 _ _ _ hj, if_neg (by omega)]
theorem Z20l {a : Nat} {l : List Cd} {i : Nat} (h : i < l.length) : shTo a l (i + 1) = if i ≠ a then (shTo a l i).set i (shC a l[i]) else shTo a l i := by
 have hl : ∀ k, (shTo a l k).length = l.length := fun k => Zoe a l k
 refine Z6r (by split <;> simp [shTo]) fun j hj => ?_
 rw [hl] at hj
 rw [List.getElem?_eq_getElem (by rw [hl]; exact hj), Z148 _ _ _ hj]
 by_cases hi : i ≠ a
 ·rw [if_pos hi]
  by_cases e : i = j
  ·subst e
   rw [List.getElem?_set_self (by rw [hl]; exact h), if_pos ⟨by omega, hi⟩]
  ·rw [List.getElem?_set_ne e, List.getElem?_eq_getElem (by rw [hl]; exact hj), Z148 _ _ _ hj]
   congr 1
   by_cases h2 : j < i ∧ j ≠ a
   ·rw [if_pos h2, if_pos ⟨by omega, h2.2⟩]
   ·rw [if_neg h2, if_neg (fun q => h2 ⟨by omega, q.2⟩)]
 ·rw [if_neg hi]
  rw [List.getElem?_eq_getElem (by rw [hl]; exact hj), Z148 _ _ _ hj]
  congr 1
  by_cases h2 : j < i ∧ j ≠ a
  ·rw [if_pos h2, if_pos ⟨by omega, h2.2⟩]
  ·rw [if_neg h2, if_neg (fun q => h2 ⟨by omega, q.2⟩)]
theorem Z22c (l : List Cd) (x : Cd) : shTo (atC l x) (insC l x) (l.length + 1) = addC l x := by
 have ha := atC_le l x
 refine Z6r (by rw [Zoe, Zod, Z1a3]) fun j hj => ?_
 rw [Zoe, Zod] at hj
 rw [List.getElem?_eq_getElem (by rw [Zoe, Zod]; exact hj), Z148 _ _ _ (by rw [Zod]; exact hj)]
 have hm : ((l.take (atC l x)).map (shC (atC l x))).length = atC l x := by simp; omega
 have ht : (l.take (atC l x)).length = atC l x := by simp; omega
 unfold addC
 by_cases h1 : j < atC l x
 ·rw [if_pos ⟨by omega, by omega⟩, List.getElem?_append_left (by omega)]
  have : (insC l x)[j]'(by rw [Zod]; omega) = l[j] := by
   unfold insC
   rw [List.getElem_append_left (by omega), List.getElem_take]
  rw [this, List.getElem?_map, List.getElem?_take, if_pos h1, List.getElem?_eq_getElem (by omega)]; rfl
 ·by_cases h2 : j = atC l x
  ·subst h2
   rw [if_neg (fun q => q.2 rfl), List.getElem?_append_right (by omega), hm, Nat.sub_self]
   have : (insC l x)[atC l x]'(by rw [Zod]; omega) = x := by
    unfold insC
    rw [List.getElem_append_right (by omega)]
    simp [ht]
   rw [this]; rfl
  ·rw [if_pos ⟨by omega, h2⟩, List.getElem?_append_right (by omega), hm]
   obtain ⟨k, hk⟩ : ∃ k, j = atC l x + 1 + k := ⟨j - (atC l x + 1), by omega⟩
   have : (insC l x)[j]'(by rw [Zod]; omega) = l[atC l x + k] := by
    unfold insC
    rw [List.getElem_append_right (by omega)]
    simp only [ht, show j - atC l x = k + 1 by omega, List.getElem_cons_succ, List.getElem_drop]
   rw [this, show j - atC l x = k + 1 by omega, List.getElem?_cons_succ, List.getElem?_map, List.getElem?_drop, List.getElem?_eq_getElem (by omega)]; rfl
end Go.Ev