/-
 The types of the arguments: trees as plain data, and as they come; the package variables of the rows.
-/
import Derived.Test.YtkefahdbckjajaaGreatDoorEzXH
import Derived.Test.YtkefahdbckjajaaGreatDoorEzV
set_option linter.unusedVariables false
set_option maxRecDepth 100000
namespace Go.Ev
open Go Go.Proofs
theorem c4 : Tryz.prog.cellsOf 4 = 1 := by kernel_rfl
theorem c24 : Tryz.prog.cellsOf 24 = 1 := by kernel_rfl
theorem c22 : Tryz.prog.cellsOf 22 = 1 := by kernel_rfl
theorem u3 : Tryz.prog.underlying 3 = some (.int .i64) := by kernel_rfl
theorem c3 : Tryz.prog.cellsOf 3 = 1 := by kernel_rfl
theorem c5 : Tryz.prog.cellsOf 5 = 1 := by kernel_rfl
theorem c27 : Tryz.prog.cellsOf 27 = 16 := by kernel_rfl
theorem c30 : Tryz.prog.cellsOf 30 = 1 := by kernel_rfl
theorem c35 : Tryz.prog.cellsOf 35 = 1 := by kernel_rfl
theorem u26 : Tryz.prog.underlying 26 = some (.int .u32) := by kernel_rfl
theorem c26 : Tryz.prog.cellsOf 26 = 1 := by kernel_rfl
theorem u173 : Tryz.prog.underlying 173 = some (.struct #[{ name := "Class", type := 171, offset := 0, embedded := false, tag := "", pkgPath := "", byteOffset := 0 }, { name := "Constructed", type := 4, offset := 1, embedded := false, tag := "", pkgPath := "", byteOffset := 1 }, { name := "Number", type := 26, offset := 2, embedded := false, tag := "", pkgPath := "", byteOffset := 4 }]) := by kernel_rfl
theorem c173 : Tryz.prog.cellsOf 173 = 3 := by kernel_rfl
theorem u258 : Tryz.prog.underlying 258 = some (.array 4 26) := by kernel_rfl
theorem c258 : Tryz.prog.cellsOf 258 = 4 := by kernel_rfl
structure Gn where
 par : Int
 pol : Oid
 ex : List Oid
 ec : Nat
 qn : Nat
 qc : Nat
 qs : List D
def Gn.cells (x : Gn) : List D := .v (.int .i64 x.par) :: (x.pol.cells ++ [.list x.ex.length (some x.ec) (oidsC x.ex), .list x.qn (some x.qc) x.qs])
def Gn.ok (x : Gn) : Prop := x.pol.ok ∧ (∀ o, o ∈ x.ex → o.ok) ∧ (x.qn = 0 → x.qs = [])
theorem gl_row {W : World} {laid : List (String × DataW Unit)} (h : laidMet Tryz.prog laid W)
  (e1 : laid[1]? = some ("vidimus/qualifiers.sequence", .agg [.lit (.int .u8 0), .lit (.bool true), .lit (.int .u32 16)]))
  (e2 : laid[2]? = some ("vidimus/qualifiers.oid", .agg [.lit (.int .u8 0), .lit (.bool false), .lit (.int .u32 6)]))
  (e3 : laid[3]? = some ("vidimus/qualifiers.ia5", .agg [.lit (.int .u8 0), .lit (.bool false), .lit (.int .u32 22)]))
  (e4 : laid[4]? = some ("vidimus/qualifiers.integer", .agg [.lit (.int .u8 0), .lit (.bool false), .lit (.int .u32 2)]))
  (e5 : laid[5]? = some ("vidimus/qualifiers.shown", .agg [.lit (.int .u32 12), .lit (.int .u32 22), .lit (.int .u32 26), .lit (.int .u32 30)])) : GlOk W (okAll W) := by
 have tag : ∀ {n : String} {g : Nat} {a c : Int} {b : Bool} {i : Nat}, laid[i]? = some (n, .agg [.lit (.int .u8 a), .lit (.bool b), .lit (.int .u32 c)]) → Tryz.prog.globalNamed n = some g → (Tryz.prog.globals[g]?).map (·.type) = some 173 → VarIs Tryz.prog W g [.int .u8 a, .bool b, .int .u32 c] := fun {n g a c b i} he hg ht =>
  Z1pw h (List.mem_of_getElem? he) hg ht u173 rfl c173 rfl rfl rfl (by kernel_rfl) (by kernel_rfl) (by kernel_rfl) (by kernel_rfl) (by kernel_rfl) (by kernel_rfl)
 refine Z1py (P := Tryz.prog) fun g cs hm => ?_
 simp only [GlT, List.mem_cons, List.not_mem_nil, or_false, Prod.mk.injEq] at hm
 rcases hm with ⟨rfl, rfl⟩ | ⟨rfl, rfl⟩ | ⟨rfl, rfl⟩ | ⟨rfl, rfl⟩ | ⟨rfl, rfl⟩
 ·exact ⟨_, rfl, by simp, fun v hv => by simp at hv; rcases hv with rfl | rfl | rfl <;> rfl, tag e1 (by kernel_rfl) (by kernel_rfl)⟩
 ·exact ⟨_, rfl, by simp, fun v hv => by simp at hv; rcases hv with rfl | rfl | rfl <;> rfl, tag e2 (by kernel_rfl) (by kernel_rfl)⟩
 ·exact ⟨_, rfl, by simp, fun v hv => by simp at hv; rcases hv with rfl | rfl | rfl <;> rfl, tag e3 (by kernel_rfl) (by kernel_rfl)⟩
 ·exact ⟨_, rfl, by simp, fun v hv => by simp at hv; rcases hv with rfl | rfl | rfl <;> rfl, tag e4 (by kernel_rfl) (by kernel_rfl)⟩
 ·exact ⟨[.int .u32 12, .int .u32 22, .int .u32 26, .int .u32 30], rfl, by simp, fun v hv => by simp at hv; rcases hv with rfl | rfl | rfl | rfl <;> rfl,
   Z1px (t := 258) (e := 26) (k := .u32) (zs := [12, 22, 26, 30]) h (List.mem_of_getElem? e5) (by kernel_rfl) (by kernel_rfl) u258 u26 c26 c258⟩
end Go.Ev