/-
  The types of the arguments: rows of plain values.
-/
import Derived.Test.YtjgpddbebgndbaaGreatDoorEzL3
set_option maxRecDepth 100000
namespace Go.Ev
open Go Go.Proofs
theorem u3 : Tryz.prog.underlying 3 = some (.int .i64) := by kernel_rfl
theorem c3 : Tryz.prog.cellsOf 3 = 1 := by kernel_rfl
theorem u4 : Tryz.prog.underlying 4 = some .bool := by kernel_rfl
theorem c4 : Tryz.prog.cellsOf 4 = 1 := by kernel_rfl
theorem u23 : Tryz.prog.underlying 23 = some (.struct #[{ name := "Explicit", type := 3, offset := 0, embedded := false, tag := "", pkgPath := "", byteOffset := 0 }, { name := "Mapping", type := 3, offset := 1, embedded := false, tag := "", pkgPath := "", byteOffset := 8 }, { name := "Any", type := 3, offset := 2, embedded := false, tag := "", pkgPath := "", byteOffset := 16 }]) := by kernel_rfl
theorem u26 : Tryz.prog.underlying 26 = some (.struct #[{ name := "Initial", type := 24, offset := 0, embedded := false, tag := "", pkgPath := "", byteOffset := 0 }, { name := "Explicit", type := 4, offset := 1, embedded := false, tag := "", pkgPath := "", byteOffset := 24 }, { name := "NoMapping", type := 4, offset := 2, embedded := false, tag := "", pkgPath := "", byteOffset := 25 }, { name := "NoAny", type := 4, offset := 3, embedded := false, tag := "", pkgPath := "", byteOffset := 26 }]) := by kernel_rfl
theorem u24 : Tryz.prog.underlying 24 = some (.slice 75) := by kernel_rfl
theorem c24 : Tryz.prog.cellsOf 24 = 1 := by kernel_rfl
theorem u75 : Tryz.prog.underlying 75 = some (.struct #[{ name := "N", type := 5, offset := 0, embedded := false, tag := "", pkgPath := "", byteOffset := 0 }, { name := "Arcs", type := 73, offset := 1, embedded := false, tag := "", pkgPath := "", byteOffset := 4 }]) := by kernel_rfl
theorem c75 : Tryz.prog.cellsOf 75 = 17 := by kernel_rfl
theorem row_oid : RowOf Tryz.prog 75 Oid.cells Oid.ok :=
  RowOf.oid (w := 72) u75 rfl c75 rfl rfl (by kernel_rfl) (by kernel_rfl) (by kernel_rfl) (by kernel_rfl) (by kernel_rfl) (by kernel_rfl)
theorem row_oids : RowOf Tryz.prog 24 (fun q : List Oid × Nat => [.list q.1.length (some q.2) (oidsC q.1)]) (fun q => q.1.length ≤ q.2 ∧ q.2 ≤ maxLen ∧ ∀ x, x ∈ q.1 → x.ok) := RowOf.slice u24 c75 row_oid
theorem arg_counters {d : D} (h : ArgFits Tryz.prog 23 d) : ∃ e m a, d = .agg (ctrC e m a) := by
  have r := RowOf.int u3
  have := RowOf.struct (len := 1 + (1 + 1)) u23 (by kernel_rfl) (FieldsOf.cons rfl c3 r (by simp) (FieldsOf.cons rfl c3 r (by simp) (FieldsOf.one rfl c3 r)))
  obtain ⟨⟨e, m, a⟩, _, rfl⟩ := this.agg ⟨_, u23⟩ h
  exact ⟨e, m, a, rfl⟩
theorem arg_int {d : D} (h : ArgFits Tryz.prog 3 d) : ∃ i, d = .v (.int .i64 i) := by
  obtain ⟨i, _, rfl⟩ := (RowOf.int u3).arg (fun fs => by rw [u3]; exact nofun) (fun m e => by rw [u3]; exact nofun) h
  exact ⟨i, rfl⟩
theorem arg_inputs {d : D} (h : ArgFits Tryz.prog 26 d) : ∃ (l : List Oid) (cp : Nat) (x y z : Bool), (∀ x, x ∈ l → x.ok) ∧ d = .agg (inC l (some cp) x y z) := by
  have r := RowOf.bool u4
  have := RowOf.struct (len := 1 + (1 + (1 + 1))) u26 (by kernel_rfl) (FieldsOf.cons rfl c24 row_oids (by simp) (FieldsOf.cons rfl c4 r (by simp) (FieldsOf.cons rfl c4 r (by simp) (FieldsOf.one rfl c4 r))))
  obtain ⟨⟨⟨l, cp⟩, x, y, z⟩, ⟨⟨_, _, hl⟩, _⟩, rfl⟩ := this.agg ⟨_, u26⟩ h
  exact ⟨l, cp, x, y, z, hl, rfl⟩
end Go.Ev
