/-
  The statements about one step, and about all counters of a chain.
-/
import Derived.Test.YtjgpddbebgndbaaGreatDoorEzR4
set_option linter.unusedSimpArgs false
set_option linter.unusedVariables false
set_option maxRecDepth 100000
namespace Go.Ev
open Go

theorem ctr3_eq (c d : C3) : cellsEq [.int, .int, .int] (ctr3 c) (ctr3 d) = some (decide (c = d)) := by
  obtain ⟨a, b, e⟩ := c
  obtain ⟨a', b', e'⟩ := d
  simp only [cellsEq, scalarEq, if_true, Option.bind_some, Option.some.injEq, Prod.mk.injEq]
  by_cases h1 : a = a'
  · by_cases h2 : b = b'
    · by_cases h3 : e = e'
      · subst h1; subst h2; subst h3; simp
      · rw [i_ne h3]; simp [h3]
    · rw [i_ne h2]; simp [h2]
  · rw [i_ne h1]; simp [h1]
theorem t2 {a b : D} : [a, b].length = 2 := rfl

section
variable {l : List Rcd} (h : Chain l) {cp : Option Nat} {u : List Oid} {cu : Option Nat} {x y z : Bool}
theorem statesC_get {s : C3} {k : Nat} (hk : k < l.length) : ((((states Rcd.nx s l).map ctr3).flatten).drop (k * 3)).take 3 = ctr3 (stAt l s k) := by
  rw [row_get (fun c _ => ctr3_len c) (by rw [states_length]; exact hk), states_get hk]
theorem statesC_len (s : C3) : (((states Rcd.nx s l).map ctr3).flatten).length = l.length * 3 := by
  rw [rows_len (fun c _ => ctr3_len c), states_length]
include h
end
theorem inC_len {l : List Oid} {cp : Option Nat} {x y z : Bool} : (inC l cp x y z).length = 4 := rfl

end Go.Ev
