/-
 Records and chains without qualifiers: what the reference's checks return; chains.
-/
import Derived.Test.YthakkigkdhaihaaGreatDoorEzL7
set_option linter.unusedSimpArgs false
set_option linter.unusedVariables false
set_option maxRecDepth 100000
namespace Go.Ev
open Go
end Go.Ev