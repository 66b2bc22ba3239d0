/-
  The types of the arguments: rows of plain values.
-/
import Derived.Test.YtjgpddbebgndbaaGreatDoorEzL3
set_option maxRecDepth 100000
namespace Go.Ev
open Go Go.Proofs
theorem u3 : Tryz.prog.underlying 3 = some (.int .i64) := by kernel_rfl
theorem c3 : Tryz.prog.cellsOf 3 = 1 := by kernel_rfl
theorem c4 : Tryz.prog.cellsOf 4 = 1 := by kernel_rfl
theorem u23 : Tryz.prog.underlying 23 = some (.struct #[{ name := "Explicit", type := 3, offset := 0, embedded := false, tag := "", pkgPath := "", byteOffset := 0 }, { name := "Mapping", type := 3, offset := 1, embedded := false, tag := "", pkgPath := "", byteOffset := 8 }, { name := "Any", type := 3, offset := 2, embedded := false, tag := "", pkgPath := "", byteOffset := 16 }]) := by kernel_rfl
theorem c24 : Tryz.prog.cellsOf 24 = 1 := by kernel_rfl
theorem arg_counters {d : D} (h : ArgFits Tryz.prog 23 d) : ∃ e m a, d = .agg (ctrC e m a) := by
  have r := RowOf.int u3
  have := RowOf.struct (len := 1 + (1 + 1)) u23 (by kernel_rfl) (FieldsOf.cons rfl c3 r (by simp) (FieldsOf.cons rfl c3 r (by simp) (FieldsOf.one rfl c3 r)))
  obtain ⟨⟨e, m, a⟩, _, rfl⟩ := this.agg ⟨_, u23⟩ h
  exact ⟨e, m, a, rfl⟩
end Go.Ev
