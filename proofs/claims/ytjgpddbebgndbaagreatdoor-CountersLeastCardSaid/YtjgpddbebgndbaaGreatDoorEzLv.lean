/-
  The examples of the chapter hold.
-/
import Derived.Test.YtjgpddbebgndbaaGreatDoorEzG4
set_option maxRecDepth 100000
namespace Go.Ev
open Go
theorem law_lives : sp_law24_lives [] = some (.v (.bool true)) := by kernel_rfl
end Go.Ev
