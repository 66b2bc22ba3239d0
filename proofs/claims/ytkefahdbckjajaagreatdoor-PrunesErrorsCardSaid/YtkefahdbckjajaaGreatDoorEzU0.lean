/-
  What the reference's deletions and additions leave, with capacities.
-/
import Derived.Test.YtkefahdbckjajaaGreatDoorEzXG
set_option linter.unusedSimpArgs false
set_option linter.unusedVariables false
namespace Go.Ev
open Go

end Go.Ev
