/-
 The package variables of the rows.
-/
import Derived.Test.YthakkigkdhaihaaGreatDoorEzP
import Derived.Test.YthakkigkdhaihaaGreatDoorEzV
set_option linter.unusedVariables false
set_option maxRecDepth 100000
namespace Go.Ev
open Go Go.Proofs
theorem u237 : Tryz.prog.underlying 237 = some (.struct #[{ name := "Class", type := 235, offset := 0, embedded := false, tag := "", pkgPath := "", byteOffset := 0 }, { name := "Constructed", type := 4, offset := 1, embedded := false, tag := "", pkgPath := "", byteOffset := 1 }, { name := "Number", type := 52, offset := 2, embedded := false, tag := "", pkgPath := "", byteOffset := 4 }]) := by kernel_rfl
theorem c237 : Tryz.prog.cellsOf 237 = 3 := by kernel_rfl
theorem u342 : Tryz.prog.underlying 342 = some (.array 4 52) := by kernel_rfl
theorem c342 : Tryz.prog.cellsOf 342 = 4 := by kernel_rfl
theorem u52 : Tryz.prog.underlying 52 = some (.int .u32) := by kernel_rfl
theorem c52 : Tryz.prog.cellsOf 52 = 1 := by kernel_rfl
theorem gl_row {W : World} {laid : List (String × DataW Unit)} (h : laidMet Tryz.prog laid W)
  (e1 : laid[1]? = some ("vidimus/qualifiers.sequence", .agg [.lit (.int .u8 0), .lit (.bool true), .lit (.int .u32 16)]))
  (e2 : laid[2]? = some ("vidimus/qualifiers.oid", .agg [.lit (.int .u8 0), .lit (.bool false), .lit (.int .u32 6)]))
  (e3 : laid[3]? = some ("vidimus/qualifiers.ia5", .agg [.lit (.int .u8 0), .lit (.bool false), .lit (.int .u32 22)]))
  (e4 : laid[4]? = some ("vidimus/qualifiers.integer", .agg [.lit (.int .u8 0), .lit (.bool false), .lit (.int .u32 2)]))
  (e5 : laid[5]? = some ("vidimus/qualifiers.shown", .agg [.lit (.int .u32 12), .lit (.int .u32 22), .lit (.int .u32 26), .lit (.int .u32 30)])) : GlOk W (okAll W) := by
 have tag : ∀ {n : String} {g : Nat} {a c : Int} {b : Bool} {i : Nat}, laid[i]? = some (n, .agg [.lit (.int .u8 a), .lit (.bool b), .lit (.int .u32 c)]) → Tryz.prog.globalNamed n = some g → (Tryz.prog.globals[g]?).map (·.type) = some 237 → VarIs Tryz.prog W g [.int .u8 a, .bool b, .int .u32 c] := fun {n g a c b i} he hg ht =>
  Z1lj h (List.mem_of_getElem? he) hg ht u237 rfl c237 rfl rfl rfl (by kernel_rfl) (by kernel_rfl) (by kernel_rfl) (by kernel_rfl) (by kernel_rfl) (by kernel_rfl)
 refine Z1ll (P := Tryz.prog) fun g cs hm => ?_
 simp only [GlT, List.mem_cons, List.not_mem_nil, or_false, Prod.mk.injEq] at hm
 rcases hm with ⟨rfl, rfl⟩ | ⟨rfl, rfl⟩ | ⟨rfl, rfl⟩ | ⟨rfl, rfl⟩ | ⟨rfl, rfl⟩
 ·exact ⟨_, rfl, by simp, fun v hv => by simp at hv; rcases hv with rfl | rfl | rfl <;> rfl, tag e1 (by kernel_rfl) (by kernel_rfl)⟩
 ·exact ⟨_, rfl, by simp, fun v hv => by simp at hv; rcases hv with rfl | rfl | rfl <;> rfl, tag e2 (by kernel_rfl) (by kernel_rfl)⟩
 ·exact ⟨_, rfl, by simp, fun v hv => by simp at hv; rcases hv with rfl | rfl | rfl <;> rfl, tag e3 (by kernel_rfl) (by kernel_rfl)⟩
 ·exact ⟨_, rfl, by simp, fun v hv => by simp at hv; rcases hv with rfl | rfl | rfl <;> rfl, tag e4 (by kernel_rfl) (by kernel_rfl)⟩
 ·exact ⟨[.int .u32 12, .int .u32 22, .int .u32 26, .int .u32 30], rfl, by simp, fun v hv => by simp at hv; rcases hv with rfl | rfl | rfl | rfl <;> rfl,
   Z1lk (t := 342) (e := 52) (k := .u32) (zs := [12, 22, 26, 30]) h (List.mem_of_getElem? e5) (by kernel_rfl) (by kernel_rfl) u342 u52 c52 c342⟩
end Go.Ev