/-
 Nodes that are deleted together, or one after another.
-/
import Derived.Test.YtnghcoghbbapgaaGreatDoorEzX1
set_option linter.unusedSimpArgs false
set_option linter.unusedVariables false
namespace Go.Ev
open Go
theorem Z1fd {l : List Nd} (h : Valid l) {i : Nat} (hi : i < l.length) : find l (line l i) = (i : Int) := by
 have hw := Z20u h i hi
 rcases Z1vj h (line l i) with ⟨e1, e2⟩ | ⟨j, h1, h2, h3⟩
 ·rcases e2 with e2 | e2
  ·rw [hw] at e2; cases e2
  ·rw [hw] at e2
   have := Option.some.inj e2
   omega
 ·rw [hw] at h3
  rw [h2]
  exact (Option.some.inj h3).symm
theorem Z23p {l : List Nd} (h : Shape l) (s : List Int) (a : Int) : ∀ i, i < l.length → und l (s ++ [a]) i = (und l s i || und l [a] i) := fun i => by
 induction i using Nat.strongRecOn with
 | _ i ih =>
  intro hi
  rw [Zk3 h _ hi, Zk3 h s hi, Zk3 h [a] hi]
  have e : (s ++ [a]).contains (i : Int) = (s.contains (i : Int) || [a].contains (i : Int)) := by
   simp [List.contains_eq_any_beq]
  rw [e]
  by_cases h0 : 0 < i
  ·have hp := (h.par hi h0).2
   rw [ih _ hp (by omega), decide_eq_true h0]
   cases s.contains (i : Int) <;> cases [a].contains (i : Int) <;> cases und l s (parN l i) <;> cases und l [a] (parN l i) <;> rfl
  ·rw [decide_eq_false h0]
   cases s.contains (i : Int) <;> cases [a].contains (i : Int) <;> rfl
theorem und_tr {l : List Nd} (h : Shape l) {s : List Int} {a : Nat} (ha : und l s a = true) : ∀ i, i < l.length → und l [(a : Int)] i = true → und l s i = true := fun i => by
 induction i using Nat.strongRecOn with
 | _ i ih =>
  intro hi hu
  rw [Zk3 h _ hi] at hu
  by_cases he : i = a
  ·subst he; exact ha
  ·have e1 : ([(a : Int)] : List Int).contains (i : Int) = false := by
    rw [List.contains_cons, List.contains_nil, Bool.or_false, beq_eq_false_iff_ne]; omega
   rw [e1, Bool.false_or, Bool.and_eq_true, decide_eq_true_eq] at hu
   have hp := (h.par hi hu.1).2
   rw [Zk3 h _ hi, ih _ hp (by omega) hu.2, decide_eq_true hu.1]
   simp
section
variable {l : List Nd} (h : Shape l) {A : Nat → Bool} (hu : Up l A)
include h hu
theorem Z22e {x : Nat} (hx : x < l.length) (ha : A x = true) : ∀ i, i < l.length → A i = true → und (left l A) [(rk A x : Int)] (rk A i) = und l [(x : Int)] i := fun i => by
 induction i using Nat.strongRecOn with
 | _ i ih =>
  intro hi hai
  have hS := left_shape h hu
  have hlt : rk A i < (left l A).length := by rw [Z78]; exact rk_lt hi hai
  rw [Zk3 hS _ hlt, Zk3 h _ hi]
  have e1 : ([(rk A x : Int)] : List Int).contains (rk A i : Int) = ([(x : Int)] : List Int).contains (i : Int) := by
   rw [List.contains_cons, List.contains_nil, Bool.or_false, List.contains_cons, List.contains_nil, Bool.or_false]
   by_cases he : i = x
   ·subst he; simp
   ·have h1 : ¬ (rk A i : Int) = (rk A x : Int) := fun e => he (rk_inj hai ha (by omega))
    have h2 : ¬ (i : Int) = (x : Int) := by omega
    rw [beq_eq_false_iff_ne.2 h1, beq_eq_false_iff_ne.2 h2]
  rw [e1]
  by_cases h0 : 0 < i
  ·have hp := (h.par hi h0).2
   have hap := hu i hi h0 hai
   have hn := (Z1sh h hu hi hai).resolve_right (by omega)
   have hr : 0 < rk A i := by
    have h00 := hu.root h i hi hai
    have := rk_lt h0 h00
    omega
   rw [hn, ih _ hp (by omega) hap, decide_eq_true h0, decide_eq_true hr]
  ·obtain rfl : i = 0 := by omega
   rfl
theorem Z22f {x : Nat} (hx : x < l.length) (ha : A x = true) : delR (left l A) [(rk A x : Int)] = left l (fun i => A i && !und l [(x : Int)] i) := by
 have hS := left_shape h hu
 unfold delR
 rw [Z1zw]
 refine Z120 (fun i hi => ?_) h.par_lt
 unfold sel
 cases hai : A i with
 | false => rfl
 | true => dsimp only; rw [Z22e h hu hx ha i hi hai]
theorem Z1yz (hv : Valid (left l A)) {x : Nat} (hx : x < l.length) (ha : A x = true) : find (left l A) (line l x) = (rk A x : Int) := by
 have hlt : rk A x < (left l A).length := by rw [Z78]; exact rk_lt hx ha
 rw [← Z1v2 h hu x hx ha, Z1fd hv hlt]
theorem Z20v (hv : Valid l) {x : Nat} (hx : x < l.length) (ha : A x = false) : find (left l A) (line l x) < 0 := by
 unfold find
 rcases Z1t9 (l := left l A) (ps := line l x) (f := (left l A).length) (i := 0) with ⟨e, _⟩ | ⟨j, e, _, hj, hl⟩
 ·rw [e]; decide
 ·rw [Z78] at hj
  obtain ⟨i, hi, hai, hr⟩ := Z10j (A := A) (n := l.length) (j := j) (by omega)
  rw [← hr, Z1v2 h hu i hi hai] at hl
  have e1 := Z1fd hv hi
  have e2 := Z1fd hv hx
  rw [hl, e2] at e1
  have : x = i := by omega
  subst this
  rw [ha] at hai; cases hai
end
def kpI (l : List Nd) (at_ : List Nat) (i : Nat) : Nat → Bool := fun j => !und l ((at_.take i).map fun k : Nat => (k : Int)) j
theorem kpI_up {l : List Nd} (h : Shape l) (at_ : List Nat) (i : Nat) : Up l (kpI l at_ i) := und_up h _
theorem Z22g {l : List Nd} (h : Shape l) (at_ : List Nat) {j : Nat} (hj : j < l.length) : kpI l at_ 0 j = true := by
 unfold kpI
 rw [List.take_zero, List.map_nil]
 induction j using Nat.strongRecOn with
 | _ j ih =>
  rw [Zk3 h _ hj]
  by_cases h0 : 0 < j
  ·have hp := (h.par hj h0).2
   have := ih _ hp (by omega)
   simp only [Bool.not_eq_true'] at this
   rw [this]; simp
  ·rw [decide_eq_false h0]; simp
theorem Z1y4 {l : List Nd} (h : Shape l) {at_ : List Nat} {i : Nat} (hi : i < at_.length) {j : Nat} (hj : j < l.length) : kpI l at_ (i + 1) j = (kpI l at_ i j && !und l [(at_[i] : Int)] j) := by
 unfold kpI
 rw [List.take_succ_eq_append_getElem hi, List.map_append, List.map_cons, List.map_nil, Z23p h _ _ j hj, Bool.not_or]
theorem Z22h {l : List Nd} (h : Shape l) {at_ : List Nat} {i : Nat} (hi : i < at_.length) (hg : kpI l at_ i at_[i] = false) {j : Nat} (hj : j < l.length) : kpI l at_ (i + 1) j = kpI l at_ i j := by
 rw [Z1y4 h hi hj]
 cases hu : und l [(at_[i] : Int)] j with
 | false => simp
 | true =>
  unfold kpI at hg ⊢
  simp only [Bool.not_eq_false'] at hg
  rw [und_tr h hg j hj hu]; rfl
end Go.Ev