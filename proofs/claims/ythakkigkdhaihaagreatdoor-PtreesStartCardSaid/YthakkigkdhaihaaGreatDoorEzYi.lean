/-
 The types of the arguments: rows of plain values.
-/
import Derived.Test.YthakkigkdhaihaaGreatDoorEzYg
import Derived.Test.YthakkigkdhaihaaGreatDoorEzL3
set_option maxRecDepth 100000
namespace Go.Ev
open Go Go.Proofs
theorem u3 : Tryz.prog.underlying 3 = some (.int .i64) := by kernel_rfl
theorem c3 : Tryz.prog.cellsOf 3 = 1 := by kernel_rfl
theorem u4 : Tryz.prog.underlying 4 = some .bool := by kernel_rfl
theorem c4 : Tryz.prog.cellsOf 4 = 1 := by kernel_rfl
theorem u34 : Tryz.prog.underlying 34 = some (.struct #[{ name := "Initial", type := 32, offset := 0, embedded := false, tag := "", pkgPath := "", byteOffset := 0 }, { name := "Explicit", type := 4, offset := 1, embedded := false, tag := "", pkgPath := "", byteOffset := 24 }, { name := "NoMapping", type := 4, offset := 2, embedded := false, tag := "", pkgPath := "", byteOffset := 25 }, { name := "NoAny", type := 4, offset := 3, embedded := false, tag := "", pkgPath := "", byteOffset := 26 }]) := by kernel_rfl
theorem u32 : Tryz.prog.underlying 32 = some (.slice 55) := by kernel_rfl
theorem c32 : Tryz.prog.cellsOf 32 = 1 := by kernel_rfl
theorem u55 : Tryz.prog.underlying 55 = some (.struct #[{ name := "N", type := 5, offset := 0, embedded := false, tag := "", pkgPath := "", byteOffset := 0 }, { name := "Arcs", type := 53, offset := 1, embedded := false, tag := "", pkgPath := "", byteOffset := 4 }]) := by kernel_rfl
theorem c55 : Tryz.prog.cellsOf 55 = 17 := by kernel_rfl
theorem row_oid : RowOf Tryz.prog 55 Oid.cells Oid.ok :=
 RowOf.oid (w := 52) u55 rfl c55 rfl rfl (by kernel_rfl) (by kernel_rfl) (by kernel_rfl) (by kernel_rfl) (by kernel_rfl) (by kernel_rfl)
theorem row_oids : RowOf Tryz.prog 32 (fun q : List Oid × Nat => [.list q.1.length (some q.2) (oidsC q.1)]) (fun q => q.1.length ≤ q.2 ∧ q.2 ≤ maxLen ∧ ∀ x, x ∈ q.1 → x.ok) := RowOf.slice u32 c55 row_oid
theorem Z1k7 {d : D} (h : ArgFits Tryz.prog 3 d) : ∃ i, d = .v (.int .i64 i) := by
 obtain ⟨i, _, rfl⟩ := (RowOf.int u3).arg (fun fs => by rw [u3]; exact nofun) (fun m e => by rw [u3]; exact nofun) h
 exact ⟨i, rfl⟩
theorem Z1j4 {d : D} (h : ArgFits Tryz.prog 34 d) : ∃ (l : List Oid) (cp : Nat) (x y z : Bool), (∀ x, x ∈ l → x.ok) ∧ d = .agg (inC l (some cp) x y z) := by
 have r := RowOf.bool u4
 have := RowOf.struct (len := 1 + (1 + (1 + 1))) u34 (by kernel_rfl) (Z9s.cons rfl c32 row_oids (by simp) (Z9s.cons rfl c4 r (by simp) (Z9s.cons rfl c4 r (by simp) (Z9s.one rfl c4 r))))
 obtain ⟨⟨⟨l, cp⟩, x, y, z⟩, ⟨⟨_, _, hl⟩, _⟩, rfl⟩ := this.agg ⟨_, u34⟩ h
 exact ⟨l, cp, x, y, z, hl, rfl⟩
end Go.Ev