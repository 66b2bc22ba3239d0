/-
 The types of the arguments: trees as plain data, and as they come; the package variables of the rows.
-/
import Derived.Test.YtnghcoghbbapgaaGreatDoorEzXH
import Derived.Test.YtnghcoghbbapgaaGreatDoorEzV
set_option linter.unusedVariables false
set_option maxRecDepth 100000
namespace Go.Ev
open Go Go.Proofs
theorem u24 : Tryz.prog.underlying 24 = some (.struct #[{ name := "L", type := 22, offset := 0, embedded := false, tag := "", pkgPath := "", byteOffset := 0 }]) := by kernel_rfl
theorem c24 : Tryz.prog.cellsOf 24 = 1 := by kernel_rfl
theorem u22 : Tryz.prog.underlying 22 = some (.slice 78) := by kernel_rfl
theorem c22 : Tryz.prog.cellsOf 22 = 1 := by kernel_rfl
theorem u78 : Tryz.prog.underlying 78 = some (.array 4 5) := by kernel_rfl
theorem c78 : Tryz.prog.cellsOf 78 = 4 := by kernel_rfl
theorem u5 : Tryz.prog.underlying 5 = some (.int .u8) := by kernel_rfl
theorem c5 : Tryz.prog.cellsOf 5 = 1 := by kernel_rfl
theorem c4 : Tryz.prog.cellsOf 4 = 1 := by kernel_rfl
theorem u57 : Tryz.prog.underlying 57 = some (.struct #[{ name := "Parent", type := 3, offset := 0, embedded := false, tag := "", pkgPath := "", byteOffset := 0 }, { name := "Policy", type := 35, offset := 1, embedded := false, tag := "", pkgPath := "", byteOffset := 8 }, { name := "Expected", type := 31, offset := 18, embedded := false, tag := "", pkgPath := "", byteOffset := 80 }, { name := "Qualifiers", type := 55, offset := 19, embedded := false, tag := "", pkgPath := "", byteOffset := 104 }]) := by kernel_rfl
theorem c57 : Tryz.prog.cellsOf 57 = 20 := by kernel_rfl
theorem u3 : Tryz.prog.underlying 3 = some (.int .i64) := by kernel_rfl
theorem c3 : Tryz.prog.cellsOf 3 = 1 := by kernel_rfl
theorem u35 : Tryz.prog.underlying 35 = some (.struct #[{ name := "N", type := 5, offset := 0, embedded := false, tag := "", pkgPath := "", byteOffset := 0 }, { name := "Arcs", type := 33, offset := 1, embedded := false, tag := "", pkgPath := "", byteOffset := 4 }]) := by kernel_rfl
theorem c35 : Tryz.prog.cellsOf 35 = 17 := by kernel_rfl
theorem u31 : Tryz.prog.underlying 31 = some (.slice 35) := by kernel_rfl
theorem c31 : Tryz.prog.cellsOf 31 = 1 := by kernel_rfl
theorem u55 : Tryz.prog.underlying 55 = some (.slice 123) := by kernel_rfl
theorem c55 : Tryz.prog.cellsOf 55 = 1 := by kernel_rfl
theorem c42 : Tryz.prog.cellsOf 42 = 1 := by kernel_rfl
theorem u32 : Tryz.prog.underlying 32 = some (.int .u32) := by kernel_rfl
theorem c32 : Tryz.prog.cellsOf 32 = 1 := by kernel_rfl
theorem u152 : Tryz.prog.underlying 152 = some (.struct #[{ name := "Class", type := 150, offset := 0, embedded := false, tag := "", pkgPath := "", byteOffset := 0 }, { name := "Constructed", type := 4, offset := 1, embedded := false, tag := "", pkgPath := "", byteOffset := 1 }, { name := "Number", type := 32, offset := 2, embedded := false, tag := "", pkgPath := "", byteOffset := 4 }]) := by kernel_rfl
theorem c152 : Tryz.prog.cellsOf 152 = 3 := by kernel_rfl
theorem u239 : Tryz.prog.underlying 239 = some (.array 4 32) := by kernel_rfl
theorem c239 : Tryz.prog.cellsOf 239 = 4 := by kernel_rfl
theorem c25 : Tryz.prog.cellsOf 25 = 1 := by kernel_rfl
theorem row_u8 : RowOf Tryz.prog 5 (fun x : Nat => [.v (.int .u8 (x : Int))]) (fun x => x < 256) := RowOf.nat u5 rfl rfl
theorem row_T4 : RowOf Tryz.prog 78 T4.cells T4.ok := fun n ds h => by
 have ra := RowOf.array (m := 4) u78 c5 c78 row_u8
 obtain ⟨l, ⟨hl, hk⟩, rfl⟩ := ra n ds h
 match l, hl with
 | [a, b, c, d], _ => exact ⟨⟨a, b, c, d⟩, ⟨hk a (by simp), hk b (by simp), hk c (by simp), hk d (by simp)⟩, rfl⟩
theorem arg_T {d : D} (h : ArgFits Tryz.prog 24 d) : ∃ (rows : List T4) (c : Nat), (∀ t, t ∈ rows → t.ok) ∧ d = .agg [.list rows.length (some c) (t4C rows)] := by
 have rl := RowOf.slice u22 c78 row_T4
 have := RowOf.struct (len := 1) u24 c24 (Zbe.one rfl c22 rl)
 obtain ⟨⟨l, c⟩, ⟨_, _, hk⟩, rfl⟩ := this.agg ⟨_, u24⟩ h
 exact ⟨l, c, hk, rfl⟩
theorem row_oid : RowOf Tryz.prog 35 Oid.cells Oid.ok :=
 RowOf.oid (w := 32) u35 rfl c35 rfl rfl (by kernel_rfl) (by kernel_rfl) (by kernel_rfl) (by kernel_rfl) (by kernel_rfl) (by kernel_rfl)
theorem RowOf.anySlice {P : Program} {t e : TypeId} {c : Nat} (ht : P.underlying t = some (.slice e)) (hc : P.cellsOf e = c) : RowOf P t (fun q : Nat × Nat × List D => [.list q.1 (some q.2.1) q.2.2]) (fun q => q.2.2.length = q.1 * c) := fun n ds h => by
 cases n with
 | zero => exact h.elim
 | succ n =>
  simp only [Fits, ht] at h
  obtain ⟨m, cp, cs, rfl, h2⟩ := h
  exact ⟨(m, cp, cs), by rw [hc] at h2; exact h2.2.2.1, rfl⟩
structure Gn where
 par : Int
 pol : Oid
 ex : List Oid
 ec : Nat
 qn : Nat
 qc : Nat
 qs : List D
def Gn.cells (x : Gn) : List D := .v (.int .i64 x.par) :: (x.pol.cells ++ [.list x.ex.length (some x.ec) (oidsC x.ex), .list x.qn (some x.qc) x.qs])
def Gn.ok (x : Gn) : Prop := x.pol.ok ∧ (∀ o, o ∈ x.ex → o.ok) ∧ (x.qn = 0 → x.qs = [])
theorem gl_row {W : World} {laid : List (String × DataW Unit)} (h : laidMet Tryz.prog laid W)
  (e1 : laid[4]? = some ("vidimus/qualifiers.sequence", .agg [.lit (.int .u8 0), .lit (.bool true), .lit (.int .u32 16)]))
  (e2 : laid[5]? = some ("vidimus/qualifiers.oid", .agg [.lit (.int .u8 0), .lit (.bool false), .lit (.int .u32 6)]))
  (e3 : laid[6]? = some ("vidimus/qualifiers.ia5", .agg [.lit (.int .u8 0), .lit (.bool false), .lit (.int .u32 22)]))
  (e4 : laid[7]? = some ("vidimus/qualifiers.integer", .agg [.lit (.int .u8 0), .lit (.bool false), .lit (.int .u32 2)]))
  (e5 : laid[8]? = some ("vidimus/qualifiers.shown", .agg [.lit (.int .u32 12), .lit (.int .u32 22), .lit (.int .u32 26), .lit (.int .u32 30)])) : GlOk W (okAll W) := by
 have tag : ∀ {n : String} {g : Nat} {a c : Int} {b : Bool} {i : Nat}, laid[i]? = some (n, .agg [.lit (.int .u8 a), .lit (.bool b), .lit (.int .u32 c)]) → Tryz.prog.globalNamed n = some g → (Tryz.prog.globals[g]?).map (·.type) = some 152 → VarIs Tryz.prog W g [.int .u8 a, .bool b, .int .u32 c] := fun {n g a c b i} he hg ht =>
  Z23k h (List.mem_of_getElem? he) hg ht u152 rfl c152 rfl rfl rfl (by kernel_rfl) (by kernel_rfl) (by kernel_rfl) (by kernel_rfl) (by kernel_rfl) (by kernel_rfl)
 refine Z23m (P := Tryz.prog) fun g cs hm => ?_
 simp only [GlT, List.mem_cons, List.not_mem_nil, or_false, Prod.mk.injEq] at hm
 rcases hm with ⟨rfl, rfl⟩ | ⟨rfl, rfl⟩ | ⟨rfl, rfl⟩ | ⟨rfl, rfl⟩ | ⟨rfl, rfl⟩
 ·exact ⟨_, rfl, by simp, fun v hv => by simp at hv; rcases hv with rfl | rfl | rfl <;> rfl, tag e1 (by kernel_rfl) (by kernel_rfl)⟩
 ·exact ⟨_, rfl, by simp, fun v hv => by simp at hv; rcases hv with rfl | rfl | rfl <;> rfl, tag e2 (by kernel_rfl) (by kernel_rfl)⟩
 ·exact ⟨_, rfl, by simp, fun v hv => by simp at hv; rcases hv with rfl | rfl | rfl <;> rfl, tag e3 (by kernel_rfl) (by kernel_rfl)⟩
 ·exact ⟨_, rfl, by simp, fun v hv => by simp at hv; rcases hv with rfl | rfl | rfl <;> rfl, tag e4 (by kernel_rfl) (by kernel_rfl)⟩
 ·exact ⟨[.int .u32 12, .int .u32 22, .int .u32 26, .int .u32 30], rfl, by simp, fun v hv => by simp at hv; rcases hv with rfl | rfl | rfl | rfl <;> rfl,
   Z23l (t := 239) (e := 32) (k := .u32) (zs := [12, 22, 26, 30]) h (List.mem_of_getElem? e5) (by kernel_rfl) (by kernel_rfl) u239 u32 c32 c239⟩
end Go.Ev