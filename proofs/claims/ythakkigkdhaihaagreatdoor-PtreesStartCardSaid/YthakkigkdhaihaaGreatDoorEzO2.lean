/-
 Policies of the examples; sets by bits.
-/
import Derived.Test.YthakkigkdhaihaaGreatDoorEzO1
import Derived.Test.YthakkigkdhaihaaGreatDoorEzL0
set_option linter.unusedSimpArgs false
set_option linter.unusedVariables false
set_option maxRecDepth 100000
namespace Go.Ev
open Go
end Go.Ev