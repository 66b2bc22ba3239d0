/-
 Nodes that are deleted together, or one after another.
-/
import Derived.Test.YtnghcoghbbapgaaGreatDoorEzX1
set_option linter.unusedSimpArgs false
set_option linter.unusedVariables false
namespace Go.Ev
open Go
theorem Z1fd {l : List Nd} (h : Valid l) {i : Nat} (hi : i < l.length) : find l (line l i) = (i : Int) := by
 have hw := Z20u h i hi
 rcases Z1vj h (line l i) with ⟨e1, e2⟩ | ⟨j, h1, h2, h3⟩
 ·rcases e2 with e2 | e2
  ·rw [hw] at e2; cases e2
  ·rw [hw] at e2
   have := Option.some.inj e2
   omega
 ·rw [hw] at h3
  rw [h2]
  exact (Option.some.inj h3).symm
section
variable {l : List Nd} (h : Shape l) {A : Nat → Bool} (hu : Up l A)
include h hu
theorem Z1yz (hv : Valid (left l A)) {x : Nat} (hx : x < l.length) (ha : A x = true) : find (left l A) (line l x) = (rk A x : Int) := by
 have hlt : rk A x < (left l A).length := by rw [Z78]; exact rk_lt hx ha
 rw [← Z1v2 h hu x hx ha, Z1fd hv hlt]
end
end Go.Ev