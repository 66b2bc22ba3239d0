/-
 The seat's program: what it follows; the functions that are walked where they are called.
-/
import Derived.Test.YtkefahdbckjajaaGreatDoorEzXD
import Derived.Test.YtkefahdbckjajaaGreatDoorChecked
set_option maxRecDepth 100000
namespace Go.Ev
open Go Go.Proofs
noncomputable abbrev Tg := Tryz.prog
abbrev Jk : AV := .junk
theorem mixed : Tryz.prog.follows .mixedOrders = true := by kernel_rfl
theorem Z1hi : Enters Tryz.prog 112 := ⟨Tryz.f112, Tryz.func112, by kernel_rfl, by kernel_rfl⟩
theorem Z111 : Enters Tryz.prog 157 := ⟨Tryz.f157, Tryz.func157, by kernel_rfl, by kernel_rfl⟩
theorem Ze9 : Enters Tryz.prog 64 := ⟨Tryz.f64, Tryz.func64, by kernel_rfl, by kernel_rfl⟩
theorem Zpz : Enters Tryz.prog 65 := ⟨Tryz.f65, Tryz.func65, by kernel_rfl, by kernel_rfl⟩
theorem Zrc : Enters Tryz.prog 66 := ⟨Tryz.f66, Tryz.func66, by kernel_rfl, by kernel_rfl⟩
theorem Z8n : Enters Tryz.prog 67 := ⟨Tryz.f67, Tryz.func67, by kernel_rfl, by kernel_rfl⟩
theorem Z112 : Enters Tryz.prog 68 := ⟨Tryz.f68, Tryz.func68, by kernel_rfl, by kernel_rfl⟩
theorem Zxf : Enters Tryz.prog 105 := ⟨Tryz.f105, Tryz.func105, by kernel_rfl, by kernel_rfl⟩
theorem Zhj : Enters Tryz.prog 70 := ⟨Tryz.f70, Tryz.func70, by kernel_rfl, by kernel_rfl⟩
theorem Z5o : Enters Tryz.prog 71 := ⟨Tryz.f71, Tryz.func71, by kernel_rfl, by kernel_rfl⟩
theorem Z1bu : Enters Tryz.prog 108 := ⟨Tryz.f108, Tryz.func108, by kernel_rfl, by kernel_rfl⟩
theorem Zos : Enters Tryz.prog 113 := ⟨Tryz.f113, Tryz.func113, by kernel_rfl, by kernel_rfl⟩
end Go.Ev