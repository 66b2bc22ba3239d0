/-
 The examples of the chapter hold.
-/
import Derived.Test.YthakkigkdhaihaaGreatDoorEzG4
set_option maxRecDepth 100000
namespace Go.Ev
open Go
end Go.Ev