/-
 The seat's program: what it follows; the functions that are walked where they are called.
-/
import Derived.Test.YthakkigkdhaihaaGreatDoorEzXD
import Derived.Test.YthakkigkdhaihaaGreatDoorChecked
set_option maxRecDepth 100000
namespace Go.Ev
open Go Go.Proofs
noncomputable abbrev Tg := Tryz.prog
abbrev Jk : AV := .junk
theorem mixed : Tryz.prog.follows .mixedOrders = true := by kernel_rfl
theorem Z19r : Enters Tryz.prog 178 := ⟨Tryz.f178, Tryz.func178, by kernel_rfl, by kernel_rfl⟩
theorem Zuj : Enters Tryz.prog 237 := ⟨Tryz.f237, Tryz.func237, by kernel_rfl, by kernel_rfl⟩
theorem Zuk : Enters Tryz.prog 154 := ⟨Tryz.f154, Tryz.func154, by kernel_rfl, by kernel_rfl⟩
theorem Zw1 : Enters Tryz.prog 155 := ⟨Tryz.f155, Tryz.func155, by kernel_rfl, by kernel_rfl⟩
theorem Za5 : Enters Tryz.prog 45 := ⟨Tryz.f45, Tryz.func45, by kernel_rfl, by kernel_rfl⟩
theorem Z7b : Enters Tryz.prog 104 := ⟨Tryz.f104, Tryz.func104, by kernel_rfl, by kernel_rfl⟩
theorem Zw2 : Enters Tryz.prog 47 := ⟨Tryz.f47, Tryz.func47, by kernel_rfl, by kernel_rfl⟩
end Go.Ev