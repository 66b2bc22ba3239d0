/-
 The types of the arguments: trees as plain data, and as they come; the package variables of the rows.
-/
import Derived.Test.YtnghcoghbbapgaaGreatDoorEzXH
import Derived.Test.YtnghcoghbbapgaaGreatDoorEzV
set_option linter.unusedVariables false
set_option maxRecDepth 100000
namespace Go.Ev
open Go Go.Proofs
theorem u24 : Tryz.prog.underlying 24 = some (.struct #[{ name := "L", type := 22, offset := 0, embedded := false, tag := "", pkgPath := "", byteOffset := 0 }]) := by kernel_rfl
theorem c24 : Tryz.prog.cellsOf 24 = 1 := by kernel_rfl
theorem u22 : Tryz.prog.underlying 22 = some (.slice 78) := by kernel_rfl
theorem c22 : Tryz.prog.cellsOf 22 = 1 := by kernel_rfl
theorem u78 : Tryz.prog.underlying 78 = some (.array 4 5) := by kernel_rfl
theorem c78 : Tryz.prog.cellsOf 78 = 4 := by kernel_rfl
theorem u5 : Tryz.prog.underlying 5 = some (.int .u8) := by kernel_rfl
theorem c5 : Tryz.prog.cellsOf 5 = 1 := by kernel_rfl
theorem c4 : Tryz.prog.cellsOf 4 = 1 := by kernel_rfl
theorem u3 : Tryz.prog.underlying 3 = some (.int .i64) := by kernel_rfl
theorem c3 : Tryz.prog.cellsOf 3 = 1 := by kernel_rfl
theorem u32 : Tryz.prog.underlying 32 = some (.int .u32) := by kernel_rfl
theorem c32 : Tryz.prog.cellsOf 32 = 1 := by kernel_rfl
theorem u152 : Tryz.prog.underlying 152 = some (.struct #[{ name := "Class", type := 150, offset := 0, embedded := false, tag := "", pkgPath := "", byteOffset := 0 }, { name := "Constructed", type := 4, offset := 1, embedded := false, tag := "", pkgPath := "", byteOffset := 1 }, { name := "Number", type := 32, offset := 2, embedded := false, tag := "", pkgPath := "", byteOffset := 4 }]) := by kernel_rfl
theorem c152 : Tryz.prog.cellsOf 152 = 3 := by kernel_rfl
theorem u239 : Tryz.prog.underlying 239 = some (.array 4 32) := by kernel_rfl
theorem c239 : Tryz.prog.cellsOf 239 = 4 := by kernel_rfl
theorem u25 : Tryz.prog.underlying 25 = some (.slice 5) := by kernel_rfl
theorem row_u8 : RowOf Tryz.prog 5 (fun x : Nat => [.v (.int .u8 (x : Int))]) (fun x => x < 256) := RowOf.nat u5 rfl rfl
theorem Z23n (l : List Nat) : (l.map fun x : Nat => [D.v (.int .u8 (x : Int))]).flatten = n8 l := flat1 (fun x : Nat => D.v (.int .u8 (x : Int))) l
theorem Z20t {d : D} (h : ArgFits Tryz.prog 25 d) : ∃ (l : List Nat) (c : Nat), (∀ x ∈ l, x < 256) ∧ d = .list l.length (some c) (n8 l) := by
 obtain ⟨⟨l, c⟩, ⟨_, _, hk⟩, rfl⟩ := (RowOf.slice u25 c5 row_u8).arg (fun fs => by rw [u25]; exact nofun) (fun m e => by rw [u25]; exact nofun) h
 exact ⟨l, c, hk, by dsimp only; rw [Z23n]⟩
theorem row_T4 : RowOf Tryz.prog 78 T4.cells T4.ok := fun n ds h => by
 have ra := RowOf.array (m := 4) u78 c5 c78 row_u8
 obtain ⟨l, ⟨hl, hk⟩, rfl⟩ := ra n ds h
 match l, hl with
 | [a, b, c, d], _ => exact ⟨⟨a, b, c, d⟩, ⟨hk a (by simp), hk b (by simp), hk c (by simp), hk d (by simp)⟩, rfl⟩
theorem arg_T {d : D} (h : ArgFits Tryz.prog 24 d) : ∃ (rows : List T4) (c : Nat), (∀ t, t ∈ rows → t.ok) ∧ d = .agg [.list rows.length (some c) (t4C rows)] := by
 have rl := RowOf.slice u22 c78 row_T4
 have := RowOf.struct (len := 1) u24 c24 (Zbe.one rfl c22 rl)
 obtain ⟨⟨l, c⟩, ⟨_, _, hk⟩, rfl⟩ := this.agg ⟨_, u24⟩ h
 exact ⟨l, c, hk, rfl⟩
structure Gn where
 par : Int
 pol : Oid
 ex : List Oid
 ec : Nat
 qn : Nat
 qc : Nat
 qs : List D
def Gn.cells (x : Gn) : List D := .v (.int .i64 x.par) :: (x.pol.cells ++ [.list x.ex.length (some x.ec) (oidsC x.ex), .list x.qn (some x.qc) x.qs])
def Gn.ok (x : Gn) : Prop := x.pol.ok ∧ (∀ o, o ∈ x.ex → o.ok) ∧ (x.qn = 0 → x.qs = [])
theorem gl_row {W : World} {laid : List (String × DataW Unit)} (h : laidMet Tryz.prog laid W)
  (e1 : laid[4]? = some ("vidimus/qualifiers.sequence", .agg [.lit (.int .u8 0), .lit (.bool true), .lit (.int .u32 16)]))
  (e2 : laid[5]? = some ("vidimus/qualifiers.oid", .agg [.lit (.int .u8 0), .lit (.bool false), .lit (.int .u32 6)]))
  (e3 : laid[6]? = some ("vidimus/qualifiers.ia5", .agg [.lit (.int .u8 0), .lit (.bool false), .lit (.int .u32 22)]))
  (e4 : laid[7]? = some ("vidimus/qualifiers.integer", .agg [.lit (.int .u8 0), .lit (.bool false), .lit (.int .u32 2)]))
  (e5 : laid[8]? = some ("vidimus/qualifiers.shown", .agg [.lit (.int .u32 12), .lit (.int .u32 22), .lit (.int .u32 26), .lit (.int .u32 30)])) : GlOk W (okAll W) := by
 have tag : ∀ {n : String} {g : Nat} {a c : Int} {b : Bool} {i : Nat}, laid[i]? = some (n, .agg [.lit (.int .u8 a), .lit (.bool b), .lit (.int .u32 c)]) → Tryz.prog.globalNamed n = some g → (Tryz.prog.globals[g]?).map (·.type) = some 152 → VarIs Tryz.prog W g [.int .u8 a, .bool b, .int .u32 c] := fun {n g a c b i} he hg ht =>
  Z23k h (List.mem_of_getElem? he) hg ht u152 rfl c152 rfl rfl rfl (by kernel_rfl) (by kernel_rfl) (by kernel_rfl) (by kernel_rfl) (by kernel_rfl) (by kernel_rfl)
 refine Z23m (P := Tryz.prog) fun g cs hm => ?_
 simp only [GlT, List.mem_cons, List.not_mem_nil, or_false, Prod.mk.injEq] at hm
 rcases hm with ⟨rfl, rfl⟩ | ⟨rfl, rfl⟩ | ⟨rfl, rfl⟩ | ⟨rfl, rfl⟩ | ⟨rfl, rfl⟩
 ·exact ⟨_, rfl, by simp, fun v hv => by simp at hv; rcases hv with rfl | rfl | rfl <;> rfl, tag e1 (by kernel_rfl) (by kernel_rfl)⟩
 ·exact ⟨_, rfl, by simp, fun v hv => by simp at hv; rcases hv with rfl | rfl | rfl <;> rfl, tag e2 (by kernel_rfl) (by kernel_rfl)⟩
 ·exact ⟨_, rfl, by simp, fun v hv => by simp at hv; rcases hv with rfl | rfl | rfl <;> rfl, tag e3 (by kernel_rfl) (by kernel_rfl)⟩
 ·exact ⟨_, rfl, by simp, fun v hv => by simp at hv; rcases hv with rfl | rfl | rfl <;> rfl, tag e4 (by kernel_rfl) (by kernel_rfl)⟩
 ·exact ⟨[.int .u32 12, .int .u32 22, .int .u32 26, .int .u32 30], rfl, by simp, fun v hv => by simp at hv; rcases hv with rfl | rfl | rfl | rfl <;> rfl,
   Z23l (t := 239) (e := 32) (k := .u32) (zs := [12, 22, 26, 30]) h (List.mem_of_getElem? e5) (by kernel_rfl) (by kernel_rfl) u239 u32 c32 c239⟩
end Go.Ev