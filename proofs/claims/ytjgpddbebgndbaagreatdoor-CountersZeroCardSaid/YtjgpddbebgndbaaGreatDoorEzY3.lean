/-
  The types of the arguments: records and chains as plain data; the package variables of the rows.
-/
import Derived.Test.YtjgpddbebgndbaaGreatDoorEzY1
import Derived.Test.YtjgpddbebgndbaaGreatDoorEzV
import Derived.Test.YtjgpddbebgndbaaGreatDoorEzR3
set_option maxRecDepth 100000
namespace Go.Ev
open Go Go.Proofs
theorem u5 : Tryz.prog.underlying 5 = some (.int .u8) := by kernel_rfl
theorem c5 : Tryz.prog.cellsOf 5 = 1 := by kernel_rfl
theorem u64 : Tryz.prog.underlying 64 = some (.slice 5) := by kernel_rfl
theorem c64 : Tryz.prog.cellsOf 64 = 1 := by kernel_rfl
theorem u63 : Tryz.prog.underlying 63 = some (.array 3 5) := by kernel_rfl
theorem c63 : Tryz.prog.cellsOf 63 = 3 := by kernel_rfl
theorem u66 : Tryz.prog.underlying 66 = some (.struct #[{ name := "Self", type := 5, offset := 0, embedded := false, tag := "", pkgPath := "", byteOffset := 0 }, { name := "P", type := 64, offset := 1, embedded := false, tag := "", pkgPath := "", byteOffset := 8 }, { name := "M", type := 64, offset := 2, embedded := false, tag := "", pkgPath := "", byteOffset := 32 }, { name := "C", type := 63, offset := 3, embedded := false, tag := "", pkgPath := "", byteOffset := 56 }]) := by kernel_rfl
theorem c66 : Tryz.prog.cellsOf 66 = 6 := by kernel_rfl
theorem u37 : Tryz.prog.underlying 37 = some (.slice 66) := by kernel_rfl
theorem c37 : Tryz.prog.cellsOf 37 = 1 := by kernel_rfl
theorem u39 : Tryz.prog.underlying 39 = some (.struct #[{ name := "L", type := 37, offset := 0, embedded := false, tag := "", pkgPath := "", byteOffset := 0 }, { name := "User", type := 5, offset := 1, embedded := false, tag := "", pkgPath := "", byteOffset := 24 }, { name := "Flags", type := 5, offset := 2, embedded := false, tag := "", pkgPath := "", byteOffset := 25 }]) := by kernel_rfl
theorem c39 : Tryz.prog.cellsOf 39 = 3 := by kernel_rfl
theorem u123 : Tryz.prog.underlying 123 = some (.struct #[{ name := "Class", type := 121, offset := 0, embedded := false, tag := "", pkgPath := "", byteOffset := 0 }, { name := "Constructed", type := 4, offset := 1, embedded := false, tag := "", pkgPath := "", byteOffset := 1 }, { name := "Number", type := 72, offset := 2, embedded := false, tag := "", pkgPath := "", byteOffset := 4 }]) := by kernel_rfl
theorem c123 : Tryz.prog.cellsOf 123 = 3 := by kernel_rfl
theorem u199 : Tryz.prog.underlying 199 = some (.array 4 72) := by kernel_rfl
theorem c199 : Tryz.prog.cellsOf 199 = 4 := by kernel_rfl
theorem u72 : Tryz.prog.underlying 72 = some (.int .u32) := by kernel_rfl
theorem c72 : Tryz.prog.cellsOf 72 = 1 := by kernel_rfl

theorem row_u8 : RowOf Tryz.prog 5 (fun x : Nat => [.v (.int .u8 (x : Int))]) (fun x => x < 256) := RowOf.nat u5 rfl rfl
theorem n8_flat (l : List Nat) : (l.map fun x : Nat => [D.v (.int .u8 (x : Int))]).flatten = n8 l := flat1 (fun x : Nat => D.v (.int .u8 (x : Int))) l
theorem arg_u8 {d : D} (h : ArgFits Tryz.prog 5 d) : ∃ i : Nat, i < 256 ∧ d = .v (.int .u8 (i : Int)) := by
  obtain ⟨i, hi, rfl⟩ := row_u8.arg (fun fs => by rw [u5]; exact nofun) (fun m e => by rw [u5]; exact nofun) h
  exact ⟨i, hi, rfl⟩
theorem row_R : RowOf Tryz.prog 66 Ri.cells Ri.ok := fun n ds h => by
  have ra := RowOf.array (m := 3) u63 c5 c63 row_u8
  have rl := RowOf.slice u64 c5 row_u8
  have := RowOf.struct (len := 1 + (1 + (1 + 3))) u66 c66 (FieldsOf.cons rfl c5 row_u8 (by simp) (FieldsOf.cons rfl c64 rl (by simp) (FieldsOf.cons rfl c64 rl (by simp) (FieldsOf.one rfl c63 ra))))
  obtain ⟨⟨s, ⟨p, pc⟩, ⟨m, mc⟩, c⟩, ⟨h1, ⟨h2, h3, h4⟩, ⟨h5, h6, h7⟩, h8, h9⟩, rfl⟩ := this n ds h
  dsimp only at h1 h2 h3 h4 h5 h6 h7 h8 h9
  match c, h8 with
  | [c0, c1, c2], _ =>
    refine ⟨⟨s, p, some pc, m, some mc, c0, c1, c2⟩, ⟨h1, h4, h7, h9 c0 (by simp), h9 c1 (by simp), h9 c2 (by simp), ?_, ?_⟩, ?_⟩
    · exact Nat.le_trans h2 h3
    · exact Nat.le_trans h5 h6
    · simp only [n8_flat]; rfl
theorem arg_C {d : D} (h : ArgFits Tryz.prog 39 d) : ∃ x : Ci, x.ok ∧ d = .agg x.cells := by
  have rl := RowOf.slice u37 c66 row_R
  have := RowOf.struct (len := 1 + (1 + 1)) u39 c39 (FieldsOf.cons rfl c37 rl (by simp) (FieldsOf.cons rfl c5 row_u8 (by simp) (FieldsOf.one rfl c5 row_u8)))
  obtain ⟨⟨⟨l, lc⟩, u, f⟩, ⟨⟨h1, h2, h3⟩, h4, h5⟩, rfl⟩ := this.agg ⟨_, u39⟩ h
  dsimp only at h1 h2 h3 h4 h5
  exact ⟨⟨l, some lc, u, f⟩, ⟨h3, Nat.le_trans h1 h2, h4, h5⟩, rfl⟩

theorem gl_row {W : World} {laid : List (String × DataW Unit)} (h : laidMet Tryz.prog laid W)
    (e1 : laid[1]? = some ("vidimus/qualifiers.sequence", .agg [.lit (.int .u8 0), .lit (.bool true), .lit (.int .u32 16)]))
    (e2 : laid[2]? = some ("vidimus/qualifiers.oid", .agg [.lit (.int .u8 0), .lit (.bool false), .lit (.int .u32 6)]))
    (e3 : laid[3]? = some ("vidimus/qualifiers.ia5", .agg [.lit (.int .u8 0), .lit (.bool false), .lit (.int .u32 22)]))
    (e4 : laid[4]? = some ("vidimus/qualifiers.integer", .agg [.lit (.int .u8 0), .lit (.bool false), .lit (.int .u32 2)]))
    (e5 : laid[5]? = some ("vidimus/qualifiers.shown", .agg [.lit (.int .u32 12), .lit (.int .u32 22), .lit (.int .u32 26), .lit (.int .u32 30)])) : GlOk W (okAll W) := by
  have tag : ∀ {n : String} {g : Nat} {a c : Int} {b : Bool} {i : Nat}, laid[i]? = some (n, .agg [.lit (.int .u8 a), .lit (.bool b), .lit (.int .u32 c)]) → Tryz.prog.globalNamed n = some g → (Tryz.prog.globals[g]?).map (·.type) = some 123 → VarIs Tryz.prog W g [.int .u8 a, .bool b, .int .u32 c] := fun {n g a c b i} he hg ht =>
    var_tag h (List.mem_of_getElem? he) hg ht u123 rfl c123 rfl rfl rfl (by kernel_rfl) (by kernel_rfl) (by kernel_rfl) (by kernel_rfl) (by kernel_rfl) (by kernel_rfl)
  refine glOk_of (P := Tryz.prog) fun g cs hm => ?_
  simp only [GlT, List.mem_cons, List.not_mem_nil, or_false, Prod.mk.injEq] at hm
  rcases hm with ⟨rfl, rfl⟩ | ⟨rfl, rfl⟩ | ⟨rfl, rfl⟩ | ⟨rfl, rfl⟩ | ⟨rfl, rfl⟩
  · exact ⟨_, rfl, by simp, fun v hv => by simp at hv; rcases hv with rfl | rfl | rfl <;> rfl, tag e1 (by kernel_rfl) (by kernel_rfl)⟩
  · exact ⟨_, rfl, by simp, fun v hv => by simp at hv; rcases hv with rfl | rfl | rfl <;> rfl, tag e2 (by kernel_rfl) (by kernel_rfl)⟩
  · exact ⟨_, rfl, by simp, fun v hv => by simp at hv; rcases hv with rfl | rfl | rfl <;> rfl, tag e3 (by kernel_rfl) (by kernel_rfl)⟩
  · exact ⟨_, rfl, by simp, fun v hv => by simp at hv; rcases hv with rfl | rfl | rfl <;> rfl, tag e4 (by kernel_rfl) (by kernel_rfl)⟩
  · exact ⟨[.int .u32 12, .int .u32 22, .int .u32 26, .int .u32 30], rfl, by simp, fun v hv => by simp at hv; rcases hv with rfl | rfl | rfl | rfl <;> rfl,
      var_tab (t := 199) (e := 72) (k := .u32) (zs := [12, 22, 26, 30]) h (List.mem_of_getElem? e5) (by kernel_rfl) (by kernel_rfl) u199 u72 c72 c199⟩
end Go.Ev
