/-
 Closed calls as the functions that stand in the printed texts. No conditions.
-/
import Derived.Test.YthakkigkdhaihaaGreatDoorEzJa5
import Derived.Test.YthakkigkdhaihaaGreatDoorEzG3
set_option linter.unusedVariables false
namespace Go.Ev
open Go Go.Proofs
noncomputable def Z9e := Zv8
theorem Z1di : ∀ ds d, Z9e ds = some d → DataSem Tryz.prog 16 ds d := td_law28_lives
noncomputable def Zr1 := Zyj
theorem Z1fa : ∀ ds d, Zr1 ds = some d → DataSem Tryz.prog 40 ds d := td_law28_zero
noncomputable def Zbq := Z5o
theorem Z1cr : ∀ ds d, Zbq ds = some d → DataSem Tryz.prog 92 ds d := td_trees_Delete
noncomputable def Z8a := Zqj
theorem Z1fb : ∀ ds d, Z8a ds = some d → DataSem Tryz.prog 64 ds d := td_trees_Root
noncomputable def Z8b := Zyg
theorem Z1fc : ∀ ds d, Z8b ds = some d → DataSem Tryz.prog 102 ds d := td_ref26_Root
noncomputable def Z8c := Zr0
theorem Z1fd : ∀ ds d, Z8c ds = some d → DataSem Tryz.prog 61 ds d := td_ref26_Same
noncomputable def Z8d := Zyh
theorem Z1fe : ∀ ds d, Z8d ds = some d → DataSem Tryz.prog 100 ds d := td_ref23_Same
noncomputable def Zfv := Z8u
theorem Z1al : ∀ ds d, Zfv ds = some d → DataSem Tryz.prog 67 ds d := td_ptrees_copied
end Go.Ev