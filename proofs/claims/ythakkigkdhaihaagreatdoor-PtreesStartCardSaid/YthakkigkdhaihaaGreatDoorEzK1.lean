/- Closed calls of the program at the two qualifiers of the examples. No conditions. -/
import Derived.Test.YthakkigkdhaihaaGreatDoorEzI
set_option linter.unusedVariables false
set_option maxRecDepth 1000000
namespace Go.Ev
open Go Go.Proofs
end Go.Ev