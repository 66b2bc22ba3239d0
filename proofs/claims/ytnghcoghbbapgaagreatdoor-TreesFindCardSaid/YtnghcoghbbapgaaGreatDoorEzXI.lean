/-
 Trees pruned by choices.
-/
import Derived.Test.YtnghcoghbbapgaaGreatDoorEzXG
set_option linter.unusedSimpArgs false
set_option linter.unusedVariables false
set_option maxRecDepth 100000
namespace Go.Ev
open Go
end Go.Ev