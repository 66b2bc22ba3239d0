/-
 The seat's program: what it follows; the functions that are walked where they are called.
-/
import Derived.Test.YthakkigkdhaihaaGreatDoorEzXD
import Derived.Test.YthakkigkdhaihaaGreatDoorChecked
set_option maxRecDepth 100000
namespace Go.Ev
open Go Go.Proofs
noncomputable abbrev Tg := Tryz.prog
abbrev Jk : AV := .junk
theorem mixed : Tryz.prog.follows .mixedOrders = true := by kernel_rfl
theorem Z1gf : Enters Tryz.prog 178 := ⟨Tryz.f178, Tryz.func178, by kernel_rfl, by kernel_rfl⟩
theorem Z14k : Enters Tryz.prog 237 := ⟨Tryz.f237, Tryz.func237, by kernel_rfl, by kernel_rfl⟩
theorem Z14l : Enters Tryz.prog 154 := ⟨Tryz.f154, Tryz.func154, by kernel_rfl, by kernel_rfl⟩
end Go.Ev