/-
  The reference's prunings, and what stays.
-/
import Derived.Test.YtkefahdbckjajaaGreatDoorEzU2
import Derived.Test.YtkefahdbckjajaaGreatDoorEzXI
set_option linter.unusedSimpArgs false
set_option linter.unusedVariables false
set_option maxRecDepth 100000
namespace Go.Ev
open Go

section
variable {N : List Nd} {A : Nat → Bool} {d : Nat} {l : List Cd}
end
end Go.Ev
