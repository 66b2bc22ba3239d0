/-
 The examples of the chapter on trees hold. No conditions.
-/
import Derived.Test.YtnghcoghbbapgaaGreatDoorEzHa
set_option linter.unusedVariables false
set_option maxRecDepth 100000
namespace Go.Ev
open Go Go.Proofs
noncomputable def Z3h : List D → Option D := Zm1
theorem Z1df : ∀ ds d, Z3h ds = some d → DataSem Tryz.prog 10 ds d := td_law26_lives
theorem Z1bx : Z3h [] = some (.v (.bool true)) := by
 unfold Z3h Zm1
 kernel_rfl
end Go.Ev