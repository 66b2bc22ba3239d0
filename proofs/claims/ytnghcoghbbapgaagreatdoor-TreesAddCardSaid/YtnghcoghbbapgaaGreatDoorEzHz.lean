/-
 The examples of the chapter on trees hold. No conditions.
-/
import Derived.Test.YtnghcoghbbapgaaGreatDoorEzHa
set_option linter.unusedVariables false
set_option maxRecDepth 100000
namespace Go.Ev
open Go Go.Proofs
noncomputable def Z12 : List D → Option D := Zry
theorem Z113 : ∀ ds d, Z12 ds = some d → DataSem Tryz.prog 10 ds d := td_law26_lives
theorem Zp9 : Z12 [] = some (.v (.bool true)) := by
 unfold Z12 Zry
 kernel_rfl
end Go.Ev