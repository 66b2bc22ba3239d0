/-
 The examples of the chapter hold.
-/
import Derived.Test.YthakkigkdhaihaaGreatDoorEzG4
set_option maxRecDepth 100000
namespace Go.Ev
open Go
theorem Zx5 : Z1n [] = some (.v (.bool true)) := by kernel_rfl
end Go.Ev