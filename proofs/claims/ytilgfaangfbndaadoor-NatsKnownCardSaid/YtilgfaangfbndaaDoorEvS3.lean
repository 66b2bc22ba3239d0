/- The closed examples of the scalars are true: what the function lives comes to. No conditions. -/
import Derived.Test.YtilgfaangfbndaaDoorEvS2
namespace Go.Ev
open Go Go.Proofs
set_option maxRecDepth 1000000
theorem lives_eq : sp27 [] = some (.v (.bool true)) := by kernel_rfl
end Go.Ev
