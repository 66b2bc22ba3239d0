/-
  The types of the arguments: trees as plain data, and as they come; the package variables of the rows.
-/
import Derived.Test.YtkefahdbckjajaaGreatDoorEzXH
import Derived.Test.YtkefahdbckjajaaGreatDoorEzV
set_option linter.unusedVariables false
set_option maxRecDepth 100000
namespace Go.Ev
open Go Go.Proofs
theorem u48 : Tryz.prog.underlying 48 = some (.struct #[{ name := "L", type := 46, offset := 0, embedded := false, tag := "", pkgPath := "", byteOffset := 0 }]) := by kernel_rfl
theorem c48 : Tryz.prog.cellsOf 48 = 1 := by kernel_rfl
theorem u46 : Tryz.prog.underlying 46 = some (.slice 63) := by kernel_rfl
theorem c46 : Tryz.prog.cellsOf 46 = 1 := by kernel_rfl
theorem u63 : Tryz.prog.underlying 63 = some (.array 4 5) := by kernel_rfl
theorem c63 : Tryz.prog.cellsOf 63 = 4 := by kernel_rfl
theorem c4 : Tryz.prog.cellsOf 4 = 1 := by kernel_rfl
theorem c24 : Tryz.prog.cellsOf 24 = 1 := by kernel_rfl
theorem c22 : Tryz.prog.cellsOf 22 = 1 := by kernel_rfl
theorem u3 : Tryz.prog.underlying 3 = some (.int .i64) := by kernel_rfl
theorem c3 : Tryz.prog.cellsOf 3 = 1 := by kernel_rfl
theorem u5 : Tryz.prog.underlying 5 = some (.int .u8) := by kernel_rfl
theorem c5 : Tryz.prog.cellsOf 5 = 1 := by kernel_rfl
theorem c30 : Tryz.prog.cellsOf 30 = 1 := by kernel_rfl
theorem u35 : Tryz.prog.underlying 35 = some (.slice 3) := by kernel_rfl
theorem c35 : Tryz.prog.cellsOf 35 = 1 := by kernel_rfl
theorem u26 : Tryz.prog.underlying 26 = some (.int .u32) := by kernel_rfl
theorem c26 : Tryz.prog.cellsOf 26 = 1 := by kernel_rfl
theorem u173 : Tryz.prog.underlying 173 = some (.struct #[{ name := "Class", type := 171, offset := 0, embedded := false, tag := "", pkgPath := "", byteOffset := 0 }, { name := "Constructed", type := 4, offset := 1, embedded := false, tag := "", pkgPath := "", byteOffset := 1 }, { name := "Number", type := 26, offset := 2, embedded := false, tag := "", pkgPath := "", byteOffset := 4 }]) := by kernel_rfl
theorem c173 : Tryz.prog.cellsOf 173 = 3 := by kernel_rfl
theorem u258 : Tryz.prog.underlying 258 = some (.array 4 26) := by kernel_rfl
theorem c258 : Tryz.prog.cellsOf 258 = 4 := by kernel_rfl

theorem row_u8 : RowOf Tryz.prog 5 (fun x : Nat => [.v (.int .u8 (x : Int))]) (fun x => x < 256) := RowOf.nat u5 rfl rfl
theorem arg_u8 {d : D} (h : ArgFits Tryz.prog 5 d) : ∃ i : Nat, i < 256 ∧ d = .v (.int .u8 (i : Int)) := by
  obtain ⟨i, hi, rfl⟩ := row_u8.arg (fun fs => by rw [u5]; exact nofun) (fun m e => by rw [u5]; exact nofun) h
  exact ⟨i, hi, rfl⟩
theorem Z1nt (l : List Int) : (l.map fun x : Int => [D.v (.int .i64 x)]).flatten = ints l := flat1 (fun x : Int => D.v (.int .i64 x)) l
theorem Z1jm {d : D} (h : ArgFits Tryz.prog 35 d) : ∃ (l : List Int) (c : Nat), d = .list l.length (some c) (ints l) := by
  obtain ⟨⟨l, c⟩, _, rfl⟩ := (RowOf.slice u35 c3 (RowOf.int u3)).arg (fun fs => by rw [u35]; exact nofun) (fun m e => by rw [u35]; exact nofun) h
  exact ⟨l, c, by dsimp only; rw [Z1nt]⟩
theorem row_T4 : RowOf Tryz.prog 63 T4.cells T4.ok := fun n ds h => by
  have ra := RowOf.array (m := 4) u63 c5 c63 row_u8
  obtain ⟨l, ⟨hl, hk⟩, rfl⟩ := ra n ds h
  match l, hl with
  | [a, b, c, d], _ => exact ⟨⟨a, b, c, d⟩, ⟨hk a (by simp), hk b (by simp), hk c (by simp), hk d (by simp)⟩, rfl⟩
theorem arg_T {d : D} (h : ArgFits Tryz.prog 48 d) : ∃ (rows : List T4) (c : Nat), (∀ t, t ∈ rows → t.ok) ∧ d = .agg [.list rows.length (some c) (t4C rows)] := by
  have rl := RowOf.slice u46 c63 row_T4
  have := RowOf.struct (len := 1) u48 c48 (Zjh.one rfl c46 rl)
  obtain ⟨⟨l, c⟩, ⟨_, _, hk⟩, rfl⟩ := this.agg ⟨_, u48⟩ h
  exact ⟨l, c, hk, rfl⟩

structure Gn where
  par : Int
  pol : Oid
  ex : List Oid
  ec : Nat
  qn : Nat
  qc : Nat
  qs : List D
def Gn.cells (x : Gn) : List D := .v (.int .i64 x.par) :: (x.pol.cells ++ [.list x.ex.length (some x.ec) (oidsC x.ex), .list x.qn (some x.qc) x.qs])
def Gn.ok (x : Gn) : Prop := x.pol.ok ∧ (∀ o, o ∈ x.ex → o.ok) ∧ (x.qn = 0 → x.qs = [])
theorem gl_row {W : World} {laid : List (String × DataW Unit)} (h : laidMet Tryz.prog laid W)
    (e1 : laid[1]? = some ("vidimus/qualifiers.sequence", .agg [.lit (.int .u8 0), .lit (.bool true), .lit (.int .u32 16)]))
    (e2 : laid[2]? = some ("vidimus/qualifiers.oid", .agg [.lit (.int .u8 0), .lit (.bool false), .lit (.int .u32 6)]))
    (e3 : laid[3]? = some ("vidimus/qualifiers.ia5", .agg [.lit (.int .u8 0), .lit (.bool false), .lit (.int .u32 22)]))
    (e4 : laid[4]? = some ("vidimus/qualifiers.integer", .agg [.lit (.int .u8 0), .lit (.bool false), .lit (.int .u32 2)]))
    (e5 : laid[5]? = some ("vidimus/qualifiers.shown", .agg [.lit (.int .u32 12), .lit (.int .u32 22), .lit (.int .u32 26), .lit (.int .u32 30)])) : GlOk W (okAll W) := by
  have tag : ∀ {n : String} {g : Nat} {a c : Int} {b : Bool} {i : Nat}, laid[i]? = some (n, .agg [.lit (.int .u8 a), .lit (.bool b), .lit (.int .u32 c)]) → Tryz.prog.globalNamed n = some g → (Tryz.prog.globals[g]?).map (·.type) = some 173 → VarIs Tryz.prog W g [.int .u8 a, .bool b, .int .u32 c] := fun {n g a c b i} he hg ht =>
    Z1oj h (List.mem_of_getElem? he) hg ht u173 rfl c173 rfl rfl rfl (by kernel_rfl) (by kernel_rfl) (by kernel_rfl) (by kernel_rfl) (by kernel_rfl) (by kernel_rfl)
  refine Z1ol (P := Tryz.prog) fun g cs hm => ?_
  simp only [GlT, List.mem_cons, List.not_mem_nil, or_false, Prod.mk.injEq] at hm
  rcases hm with ⟨rfl, rfl⟩ | ⟨rfl, rfl⟩ | ⟨rfl, rfl⟩ | ⟨rfl, rfl⟩ | ⟨rfl, rfl⟩
  · exact ⟨_, rfl, by simp, fun v hv => by simp at hv; rcases hv with rfl | rfl | rfl <;> rfl, tag e1 (by kernel_rfl) (by kernel_rfl)⟩
  · exact ⟨_, rfl, by simp, fun v hv => by simp at hv; rcases hv with rfl | rfl | rfl <;> rfl, tag e2 (by kernel_rfl) (by kernel_rfl)⟩
  · exact ⟨_, rfl, by simp, fun v hv => by simp at hv; rcases hv with rfl | rfl | rfl <;> rfl, tag e3 (by kernel_rfl) (by kernel_rfl)⟩
  · exact ⟨_, rfl, by simp, fun v hv => by simp at hv; rcases hv with rfl | rfl | rfl <;> rfl, tag e4 (by kernel_rfl) (by kernel_rfl)⟩
  · exact ⟨[.int .u32 12, .int .u32 22, .int .u32 26, .int .u32 30], rfl, by simp, fun v hv => by simp at hv; rcases hv with rfl | rfl | rfl | rfl <;> rfl,
      Z1ok (t := 258) (e := 26) (k := .u32) (zs := [12, 22, 26, 30]) h (List.mem_of_getElem? e5) (by kernel_rfl) (by kernel_rfl) u258 u26 c26 c258⟩
end Go.Ev
