/-
 The seat's program: what it follows; the functions that are walked where they are called.
-/
import Derived.Test.YtnghcoghbbapgaaGreatDoorEzXD
import Derived.Test.YtnghcoghbbapgaaGreatDoorChecked
set_option maxRecDepth 100000
namespace Go.Ev
open Go Go.Proofs
noncomputable abbrev Tg := Tryz.prog
abbrev Jk : AV := .junk
theorem mixed : Tryz.prog.follows .mixedOrders = true := by kernel_rfl
theorem Z1ul : Enters Tryz.prog 80 := ⟨Tryz.f80, Tryz.func80, by kernel_rfl, by kernel_rfl⟩
theorem Z1c6 : Enters Tryz.prog 117 := ⟨Tryz.f117, Tryz.func117, by kernel_rfl, by kernel_rfl⟩
theorem Z1oc : Enters Tryz.prog 76 := ⟨Tryz.f76, Tryz.func76, by kernel_rfl, by kernel_rfl⟩
theorem Zuu : Enters Tryz.prog 81 := ⟨Tryz.f81, Tryz.func81, by kernel_rfl, by kernel_rfl⟩
end Go.Ev