/-
  The types of the arguments: rows of plain values.
-/
import Derived.Test.YtjgpddbebgndbaaGreatDoorEzL3
set_option maxRecDepth 100000
namespace Go.Ev
open Go Go.Proofs
theorem u3 : Tryz.prog.underlying 3 = some (.int .i64) := by kernel_rfl
theorem c3 : Tryz.prog.cellsOf 3 = 1 := by kernel_rfl
theorem c4 : Tryz.prog.cellsOf 4 = 1 := by kernel_rfl
theorem c24 : Tryz.prog.cellsOf 24 = 1 := by kernel_rfl
end Go.Ev
