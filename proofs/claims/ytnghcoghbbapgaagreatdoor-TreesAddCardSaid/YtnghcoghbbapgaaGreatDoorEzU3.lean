/-
 The reference's prunings, and what stays.
-/
import Derived.Test.YtnghcoghbbapgaaGreatDoorEzU2
import Derived.Test.YtnghcoghbbapgaaGreatDoorEzXG
set_option linter.unusedSimpArgs false
set_option linter.unusedVariables false
set_option maxRecDepth 100000
namespace Go.Ev
open Go
section
variable {N : List Nd} {A : Nat → Bool} {d : Nat} {l : List Cd}
end
def trD (l : List Cd) (cp : Option Nat) : D := .agg [.list l.length cp (cdsC l)]
end Go.Ev