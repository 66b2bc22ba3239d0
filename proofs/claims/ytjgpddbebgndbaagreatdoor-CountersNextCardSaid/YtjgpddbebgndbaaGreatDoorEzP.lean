/-
  The seat's program: what it follows; the functions that are walked where they are called.
-/
import Derived.Test.YtjgpddbebgndbaaGreatDoorEzXD
import Derived.Test.YtjgpddbebgndbaaGreatDoorChecked
set_option maxRecDepth 100000
namespace Go.Ev
open Go Go.Proofs
theorem mixed : Tryz.prog.follows .mixedOrders = true := by kernel_rfl
theorem en_oids_arcs : Enters Tryz.prog 69 := ⟨Tryz.f69, Tryz.func69, by kernel_rfl, by kernel_rfl⟩
theorem en_cmp_isNaN_uint32 : Enters Tryz.prog 91 := ⟨Tryz.f91, Tryz.func91, by kernel_rfl, by kernel_rfl⟩
theorem en_counters_start_1 : Enters Tryz.prog 52 := ⟨Tryz.f52, Tryz.func52, by kernel_rfl, by kernel_rfl⟩
theorem en_counters_next_1 : Enters Tryz.prog 56 := ⟨Tryz.f56, Tryz.func56, by kernel_rfl, by kernel_rfl⟩
theorem en_counters_before : Enters Tryz.prog 41 := ⟨Tryz.f41, Tryz.func41, by kernel_rfl, by kernel_rfl⟩
theorem en_counters_before_1 : Enters Tryz.prog 54 := ⟨Tryz.f54, Tryz.func54, by kernel_rfl, by kernel_rfl⟩
theorem en_counters_Zero_1 : Enters Tryz.prog 43 := ⟨Tryz.f43, Tryz.func43, by kernel_rfl, by kernel_rfl⟩
end Go.Ev
