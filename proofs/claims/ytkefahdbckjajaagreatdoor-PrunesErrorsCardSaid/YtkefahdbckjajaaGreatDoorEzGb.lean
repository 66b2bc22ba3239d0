/- Functions of the given program in plain form, printed: each with the proof that it is what the evaluator comes to, and that the program function returns what it says. No conditions. -/
import Derived.Test.YtkefahdbckjajaaGreatDoorEzGa
set_option linter.unusedVariables false
set_option maxRecDepth 100000
namespace Go.Ev
open Go Go.Proofs

-- ('str', '"vidimus/vidimuslaw27.PrunesErrors"')
def Z9 : FnH := ⟨[(4, ⟨(bm 142 184), [], (some 1)⟩), (23, ⟨(bm 786702 184), [], (some 1)⟩)], [(5, ⟨(bm 142 184), [], (some 1)⟩), (11, ⟨(bm 270 184), [], (some 1)⟩), (17, ⟨(bm 270 184), [], (some 1)⟩), (19, ⟨(bm 270 184), [], (some 1)⟩), (24, ⟨(bm 786702 184), [], (some 1)⟩), (27, ⟨(bm 270 184), [], (some 1)⟩)]⟩
noncomputable def Zb (Z6 Z7 Z0 Z4 Z3 Z1 Z5 Z2 : List D → Option D) : Hints := ⟨[(16, Z6), (17, Z7), (18, Z0), (19, Z4), (20, Z3), (21, Z1), (22, Z5), (23, Z2)], [], []⟩
noncomputable def Z3v (Z6 Z7 Z0 Z4 Z3 Z1 Z5 Z2 : List D → Option D) (m n0 : Nat) (y0_0 : Int) (y0_1 : Int) (y0_2 : Int) (y0_3 : Nat) (y0_4 : Option Nat) (y0_5 : List D) : Option D :=
 loopIter (bm 142 184) 0 1 (codeK Tryz.prog (Zb Z6 Z7 Z0 Z4 Z3 Z1 Z5 Z2).sp ⟨0, [], false, []⟩ (inlK Tryz.prog (Zb Z6 Z7 Z0 Z4 Z3 Z1 Z5 Z2) m 4) m Z9 (subc [1, 1, 0, 1, 0, 0] (bodyOf Tryz.f3))) n0 ⟨[.junk, (AV.d (D.v (.int .i64 y0_0))), (AV.d (D.v (.int .i64 y0_1))), (AV.ptr 0 0), .junk, .junk, .junk, (AV.d (D.v (.int .i64 y0_2))), .junk, .junk, .junk, .junk, .junk, .junk, .junk, .junk, .junk, .junk, .junk, .junk, .junk, .junk, .junk, .junk, .junk, .junk, .junk, .junk, .junk, .junk, .junk, .junk, .junk, .junk, .junk, .junk, .junk, .junk, .junk, .junk, .junk, .junk, .junk, .junk, .junk, .junk, .junk, .junk, .junk, .junk, .junk, .junk, .junk, .junk, .junk, .junk, .junk, .junk, .junk, .junk, .junk, .junk, .junk, .junk, .junk, .junk, .junk, .junk, .junk, .junk, .junk, .junk, .junk, .junk, .junk, .junk, .junk, .junk, .junk, .junk, .junk, .junk, .junk, .junk, .junk, .junk, .junk, .junk, .junk, .junk, .junk, .junk, .junk, .junk, .junk, .junk, .junk, .junk, .junk, .junk, .junk, .junk, .junk, .junk, .junk, .junk, .junk, .junk, .junk, .junk, .junk, .junk, .junk, .junk, .junk, .junk, .junk, .junk, .junk, .junk, .junk, .junk, .junk, .junk, .junk, .junk, .junk, .junk, .junk, .junk, .junk, .junk, .junk, .junk, .junk, .junk, .junk, .junk, .junk, .junk, .junk, .junk, .junk, .junk, .junk, .junk, .junk, .junk, .junk, .junk, .junk, .junk, .junk, .junk, .junk, .junk, .junk, .junk, .junk, .junk, .junk, .junk, .junk, .junk, .junk, .junk, .junk, .junk, .junk, .junk, .junk, .junk, .junk, .junk, .junk, .junk, .junk, .junk, .junk, .junk, .junk, .junk, .junk, .junk], [(Blk.d 1 [(D.list y0_3 y0_4 y0_5)])]⟩
  (contK Tryz.prog (Zb Z6 Z7 Z0 Z4 Z3 Z1 Z5 Z2).sp ⟨0, [], false, []⟩ (inlK Tryz.prog (Zb Z6 Z7 Z0 Z4 Z3 Z1 Z5 Z2) m 4) m Z9 (endK Tryz.prog Tryz.f3 (fun v L => viewK L 8 v some)) [.block 0, .code (subc [1, 1, 1] (bodyOf Tryz.f3))])
noncomputable def Zf0 (Z6 Z7 Z0 Z4 Z3 Z1 Z5 Z2 : List D → Option D) (m n0 : Nat) (u0_0 : Int) (u0_1 : Int) (u0_2 : Int) (u0_3 : Nat) (u0_4 : Option Nat) (u0_5 : List D) : Option D :=
 cutK m (codeK Tryz.prog (Zb Z6 Z7 Z0 Z4 Z3 Z1 Z5 Z2).sp ⟨0, [], false, []⟩ (inlK Tryz.prog (Zb Z6 Z7 Z0 Z4 Z3 Z1 Z5 Z2) m 4) m Z9 (subc [1, 1, 0, 1, 0, 0, 1, 1] (bodyOf Tryz.f3)) ⟨[.junk, (AV.d (D.v (.int .i64 u0_0))), (AV.d (D.v (.int .i64 u0_1))), (AV.ptr 0 0), .junk, .junk, .junk, (AV.d (D.v (.int .i64 u0_2))), .junk, .junk, .junk, .junk, .junk, .junk, .junk, .junk, .junk, .junk, .junk, .junk, .junk, .junk, .junk, .junk, .junk, .junk, .junk, .junk, .junk, .junk, .junk, .junk, .junk, .junk, .junk, .junk, .junk, .junk, .junk, .junk, .junk, .junk, .junk, .junk, .junk, .junk, .junk, .junk, .junk, .junk, .junk, .junk, .junk, .junk, .junk, .junk, .junk, .junk, .junk, .junk, .junk, .junk, .junk, .junk, .junk, .junk, .junk, .junk, .junk, .junk, .junk, .junk, .junk, .junk, .junk, .junk, .junk, .junk, .junk, .junk, .junk, .junk, .junk, .junk, .junk, .junk, .junk, .junk, .junk, .junk, .junk, .junk, .junk, .junk, .junk, .junk, .junk, .junk, .junk, .junk, .junk, .junk, .junk, .junk, .junk, .junk, .junk, .junk, .junk, .junk, .junk, .junk, .junk, .junk, .junk, .junk, .junk, .junk, .junk, .junk, .junk, .junk, .junk, .junk, .junk, .junk, .junk, .junk, .junk, .junk, .junk, .junk, .junk, .junk, .junk, .junk, .junk, .junk, .junk, .junk, .junk, .junk, .junk, .junk, .junk, .junk, .junk, .junk, .junk, .junk, .junk, .junk, .junk, .junk, .junk, .junk, .junk, .junk, .junk, .junk, .junk, .junk, .junk, .junk, .junk, .junk, .junk, .junk, .junk, .junk, .junk, .junk, .junk, .junk, .junk, .junk, .junk, .junk, .junk, .junk, .junk, .junk, .junk, .junk], [(Blk.d 1 [(D.list u0_3 u0_4 u0_5)])]⟩
  (contK Tryz.prog (Zb Z6 Z7 Z0 Z4 Z3 Z1 Z5 Z2).sp ⟨0, [], false, []⟩ (inlK Tryz.prog (Zb Z6 Z7 Z0 Z4 Z3 Z1 Z5 Z2) m 4) m Z9 (endK Tryz.prog Tryz.f3 (fun v L => viewK L 8 v some)) [.loop (bm 142 184) 1 (subc [1, 1, 0, 1, 0, 0] (bodyOf Tryz.f3)) n0, .block 0, .code (subc [1, 1, 1] (bodyOf Tryz.f3))]))
theorem Zkk (Z6 Z7 Z0 Z4 Z3 Z1 Z5 Z2 : List D → Option D) (m n0 : Nat) (u0_0 : Int) (u0_1 : Int) (u0_2 : Int) (u0_3 : Nat) (u0_4 : Option Nat) (u0_5 : List D) : Zf0 Z6 Z7 Z0 Z4 Z3 Z1 Z5 Z2 m n0 u0_0 u0_1 u0_2 u0_3 u0_4 u0_5 =
 (Z3v Z6 Z7 Z0 Z4 Z3 Z1 Z5 Z2 m n0 u0_0 u0_1 (IntKind.wrap .i64 (u0_2 + (1 : Int))) u0_3 u0_4 u0_5) := (cutK_eq m _).trans (by kernel_rfl)
noncomputable def Z2s (Z6 Z7 Z0 Z4 Z3 Z1 Z5 Z2 : List D → Option D) (m : Nat) (u1_0 : Int) (u1_1 : Int) (u1_2 : Int) (u1_3 : Nat) (u1_4 : Option Nat) (u1_5 : List D) : Option D :=
 cutK m (codeK Tryz.prog (Zb Z6 Z7 Z0 Z4 Z3 Z1 Z5 Z2).sp ⟨0, [], false, []⟩ (inlK Tryz.prog (Zb Z6 Z7 Z0 Z4 Z3 Z1 Z5 Z2) m 4) m Z9 (subc [1, 1, 1, 1, 1] (bodyOf Tryz.f3)) ⟨[.junk, (AV.d (D.v (.int .i64 u1_0))), (AV.d (D.v (.int .i64 u1_1))), (AV.ptr 0 0), .junk, .junk, .junk, .junk, (AV.d (D.v (.int .i64 u1_2))), .junk, .junk, .junk, .junk, .junk, .junk, .junk, .junk, .junk, .junk, .junk, .junk, .junk, .junk, .junk, .junk, .junk, .junk, .junk, .junk, .junk, .junk, .junk, .junk, .junk, .junk, .junk, .junk, .junk, .junk, .junk, .junk, .junk, .junk, .junk, .junk, .junk, .junk, .junk, .junk, .junk, .junk, .junk, .junk, .junk, .junk, .junk, .junk, .junk, .junk, .junk, .junk, .junk, .junk, .junk, .junk, .junk, .junk, .junk, .junk, .junk, .junk, .junk, .junk, .junk, .junk, .junk, .junk, .junk, .junk, .junk, .junk, .junk, .junk, .junk, .junk, .junk, .junk, .junk, .junk, .junk, .junk, .junk, .junk, .junk, .junk, .junk, .junk, .junk, .junk, .junk, .junk, .junk, .junk, .junk, .junk, .junk, .junk, .junk, .junk, .junk, .junk, .junk, .junk, .junk, .junk, .junk, .junk, .junk, .junk, .junk, .junk, .junk, .junk, .junk, .junk, .junk, .junk, .junk, .junk, .junk, .junk, .junk, .junk, .junk, .junk, .junk, .junk, .junk, .junk, .junk, .junk, .junk, .junk, .junk, .junk, .junk, .junk, .junk, .junk, .junk, .junk, .junk, .junk, .junk, .junk, .junk, .junk, .junk, .junk, .junk, .junk, .junk, .junk, .junk, .junk, .junk, .junk, .junk, .junk, .junk, .junk, .junk, .junk, .junk, .junk, .junk, .junk, .junk, .junk, .junk, .junk, .junk, .junk, .junk], [(Blk.d 1 [(D.list u1_3 u1_4 u1_5)])]⟩
  (contK Tryz.prog (Zb Z6 Z7 Z0 Z4 Z3 Z1 Z5 Z2).sp ⟨0, [], false, []⟩ (inlK Tryz.prog (Zb Z6 Z7 Z0 Z4 Z3 Z1 Z5 Z2) m 4) m Z9 (endK Tryz.prog Tryz.f3 (fun v L => viewK L 8 v some)) []))
noncomputable def Z4g (Z6 Z7 Z0 Z4 Z3 Z1 Z5 Z2 : List D → Option D) (m : Nat) (u2_0 : Int) (u2_1 : Int) (u2_2 : Int) (u2_3 : Nat) (u2_4 : Option Nat) (u2_5 : List D) : Option D :=
 cutK m (codeK Tryz.prog (Zb Z6 Z7 Z0 Z4 Z3 Z1 Z5 Z2).sp ⟨0, [], false, []⟩ (inlK Tryz.prog (Zb Z6 Z7 Z0 Z4 Z3 Z1 Z5 Z2) m 4) m Z9 (subc [1, 1, 1, 1, 1, 1, 1, 1, 1, 1] (bodyOf Tryz.f3)) ⟨[.junk, (AV.d (D.v (.int .i64 u2_0))), (AV.d (D.v (.int .i64 u2_1))), (AV.ptr 0 0), .junk, .junk, .junk, .junk, (AV.d (D.v (.int .i64 u2_2))), .junk, .junk, .junk, .junk, .junk, .junk, .junk, .junk, .junk, .junk, .junk, .junk, .junk, .junk, .junk, .junk, .junk, .junk, .junk, .junk, .junk, .junk, .junk, .junk, .junk, .junk, .junk, .junk, .junk, .junk, .junk, .junk, .junk, .junk, .junk, .junk, .junk, .junk, .junk, .junk, .junk, .junk, .junk, .junk, .junk, .junk, .junk, .junk, .junk, .junk, .junk, .junk, .junk, .junk, .junk, .junk, .junk, .junk, .junk, .junk, .junk, .junk, .junk, .junk, .junk, .junk, .junk, .junk, .junk, .junk, .junk, .junk, .junk, .junk, .junk, .junk, .junk, .junk, .junk, .junk, .junk, .junk, .junk, .junk, .junk, .junk, .junk, .junk, .junk, .junk, .junk, .junk, .junk, .junk, .junk, .junk, .junk, .junk, .junk, .junk, .junk, .junk, .junk, .junk, .junk, .junk, .junk, .junk, .junk, .junk, .junk, .junk, .junk, .junk, .junk, .junk, .junk, .junk, .junk, .junk, .junk, .junk, .junk, .junk, .junk, .junk, .junk, .junk, .junk, .junk, .junk, .junk, .junk, .junk, .junk, .junk, .junk, .junk, .junk, .junk, .junk, .junk, .junk, .junk, .junk, .junk, .junk, .junk, .junk, .junk, .junk, .junk, .junk, .junk, .junk, .junk, .junk, .junk, .junk, .junk, .junk, .junk, .junk, .junk, .junk, .junk, .junk, .junk, .junk, .junk, .junk, .junk, .junk, .junk, .junk], [(Blk.d 1 [(D.list u2_3 u2_4 u2_5)])]⟩
  (contK Tryz.prog (Zb Z6 Z7 Z0 Z4 Z3 Z1 Z5 Z2).sp ⟨0, [], false, []⟩ (inlK Tryz.prog (Zb Z6 Z7 Z0 Z4 Z3 Z1 Z5 Z2) m 4) m Z9 (endK Tryz.prog Tryz.f3 (fun v L => viewK L 8 v some)) []))
noncomputable def Z2t (Z6 Z7 Z0 Z4 Z3 Z1 Z5 Z2 : List D → Option D) (m : Nat) (u3_0 : Int) (u3_1 : Int) (u3_2 : Int) (u3_3 : Nat) (u3_4 : Option Nat) (u3_5 : List D) : Option D :=
 cutK m (codeK Tryz.prog (Zb Z6 Z7 Z0 Z4 Z3 Z1 Z5 Z2).sp ⟨0, [], false, []⟩ (inlK Tryz.prog (Zb Z6 Z7 Z0 Z4 Z3 Z1 Z5 Z2) m 4) m Z9 (subc [1, 1, 1, 1, 1, 1, 1, 1, 1, 1, 1] (bodyOf Tryz.f3)) ⟨[.junk, (AV.d (D.v (.int .i64 u3_0))), (AV.d (D.v (.int .i64 u3_1))), (AV.ptr 0 0), .junk, .junk, .junk, .junk, (AV.d (D.v (.int .i64 u3_2))), .junk, .junk, .junk, .junk, .junk, .junk, .junk, .junk, .junk, .junk, .junk, .junk, .junk, .junk, .junk, .junk, .junk, .junk, .junk, .junk, .junk, .junk, .junk, .junk, .junk, .junk, .junk, .junk, .junk, .junk, .junk, .junk, .junk, .junk, .junk, .junk, .junk, .junk, .junk, .junk, .junk, .junk, .junk, .junk, .junk, .junk, .junk, .junk, .junk, .junk, .junk, .junk, .junk, .junk, .junk, .junk, .junk, .junk, .junk, .junk, .junk, .junk, .junk, .junk, .junk, .junk, .junk, .junk, .junk, .junk, .junk, .junk, .junk, .junk, .junk, .junk, .junk, .junk, .junk, .junk, .junk, .junk, .junk, .junk, .junk, .junk, .junk, .junk, .junk, .junk, .junk, .junk, .junk, .junk, .junk, .junk, .junk, .junk, .junk, .junk, .junk, .junk, .junk, .junk, .junk, .junk, .junk, .junk, .junk, .junk, .junk, .junk, .junk, .junk, .junk, .junk, .junk, .junk, .junk, .junk, .junk, .junk, .junk, .junk, .junk, .junk, .junk, .junk, .junk, .junk, .junk, .junk, .junk, .junk, .junk, .junk, .junk, .junk, .junk, .junk, .junk, .junk, .junk, .junk, .junk, .junk, .junk, .junk, .junk, .junk, .junk, .junk, .junk, .junk, .junk, .junk, .junk, .junk, .junk, .junk, .junk, .junk, .junk, .junk, .junk, .junk, .junk, .junk, .junk, .junk, .junk, .junk, .junk, .junk, .junk], [(Blk.d 1 [(D.list u3_3 u3_4 u3_5)])]⟩
  (contK Tryz.prog (Zb Z6 Z7 Z0 Z4 Z3 Z1 Z5 Z2).sp ⟨0, [], false, []⟩ (inlK Tryz.prog (Zb Z6 Z7 Z0 Z4 Z3 Z1 Z5 Z2) m 4) m Z9 (endK Tryz.prog Tryz.f3 (fun v L => viewK L 8 v some)) []))
noncomputable def Z4m (Z6 Z7 Z0 Z4 Z3 Z1 Z5 Z2 : List D → Option D) (m n0 : Nat) (y1_0 : Int) (y1_1 : Int) (y1_2 : Int) (y1_3 : Nat) (y1_4 : Option Nat) (y1_5 : List D) (y1_6 : Int) (y1_7 : Nat) (y1_8 : Option Nat) (y1_9 : List D) : Option D :=
 loopIter (bm 786702 184) 0 1 (codeK Tryz.prog (Zb Z6 Z7 Z0 Z4 Z3 Z1 Z5 Z2).sp ⟨0, [], false, []⟩ (inlK Tryz.prog (Zb Z6 Z7 Z0 Z4 Z3 Z1 Z5 Z2) m 4) m Z9 (subc [1, 1, 1, 1, 1, 1, 1, 1, 1, 1, 1, 0, 1, 0, 1, 1, 1, 0, 0] (bodyOf Tryz.f3))) n0 ⟨[.junk, (AV.d (D.v (.int .i64 y1_0))), (AV.d (D.v (.int .i64 y1_1))), (AV.ptr 0 0), .junk, .junk, .junk, .junk, (AV.d (D.v (.int .i64 y1_2))), .junk, .junk, .junk, .junk, .junk, .junk, .junk, .junk, .junk, (AV.d (D.list y1_3 y1_4 y1_5)), (AV.d (D.v (.int .i64 y1_6))), .junk, .junk, .junk, .junk, .junk, .junk, .junk, .junk, .junk, .junk, .junk, .junk, .junk, .junk, .junk, .junk, .junk, .junk, .junk, .junk, .junk, .junk, .junk, .junk, .junk, .junk, .junk, .junk, .junk, .junk, .junk, .junk, .junk, .junk, .junk, .junk, .junk, .junk, .junk, .junk, .junk, .junk, .junk, .junk, .junk, .junk, .junk, .junk, .junk, .junk, .junk, .junk, .junk, .junk, .junk, .junk, .junk, .junk, .junk, .junk, .junk, .junk, .junk, .junk, .junk, .junk, .junk, .junk, .junk, .junk, .junk, .junk, .junk, .junk, .junk, .junk, .junk, .junk, .junk, .junk, .junk, .junk, .junk, .junk, .junk, .junk, .junk, .junk, .junk, .junk, .junk, .junk, .junk, .junk, .junk, .junk, .junk, .junk, .junk, .junk, .junk, .junk, .junk, .junk, .junk, .junk, .junk, .junk, .junk, .junk, .junk, .junk, .junk, .junk, .junk, .junk, .junk, .junk, .junk, .junk, .junk, .junk, .junk, .junk, .junk, .junk, .junk, .junk, .junk, .junk, .junk, .junk, .junk, .junk, .junk, .junk, .junk, .junk, .junk, .junk, .junk, .junk, .junk, .junk, .junk, .junk, .junk, .junk, .junk, .junk, .junk, .junk, .junk, .junk, .junk, .junk, .junk, .junk, .junk, .junk, .junk, .junk, .junk, .junk], [(Blk.d 1 [(D.list y1_7 y1_8 y1_9)])]⟩
  (contK Tryz.prog (Zb Z6 Z7 Z0 Z4 Z3 Z1 Z5 Z2).sp ⟨0, [], false, []⟩ (inlK Tryz.prog (Zb Z6 Z7 Z0 Z4 Z3 Z1 Z5 Z2) m 4) m Z9 (endK Tryz.prog Tryz.f3 (fun v L => viewK L 8 v some)) [.block 2, .code (subc [1, 1, 1, 1, 1, 1, 1, 1, 1, 1, 1, 1] (bodyOf Tryz.f3))])
noncomputable def Z6i (Z6 Z7 Z0 Z4 Z3 Z1 Z5 Z2 : List D → Option D) (m n0 : Nat) (u4_0 : Int) (u4_1 : Int) (u4_2 : Int) (u4_3 : Nat) (u4_4 : Option Nat) (u4_5 : List D) (u4_6 : Int) (u4_7 : Nat) (u4_8 : Option Nat) (u4_9 : List D) : Option D :=
 cutK m (codeK Tryz.prog (Zb Z6 Z7 Z0 Z4 Z3 Z1 Z5 Z2).sp ⟨0, [], false, []⟩ (inlK Tryz.prog (Zb Z6 Z7 Z0 Z4 Z3 Z1 Z5 Z2) m 4) m Z9 (subc [1, 1, 1, 1, 1, 1, 1, 1, 1, 1, 1, 0, 1, 0, 1, 1, 1, 0, 0, 1, 1] (bodyOf Tryz.f3)) ⟨[.junk, (AV.d (D.v (.int .i64 u4_0))), (AV.d (D.v (.int .i64 u4_1))), (AV.ptr 0 0), .junk, .junk, .junk, .junk, (AV.d (D.v (.int .i64 u4_2))), .junk, .junk, .junk, .junk, .junk, .junk, .junk, .junk, .junk, (AV.d (D.list u4_3 u4_4 u4_5)), (AV.d (D.v (.int .i64 u4_6))), .junk, .junk, .junk, .junk, .junk, .junk, .junk, .junk, .junk, .junk, .junk, .junk, .junk, .junk, .junk, .junk, .junk, .junk, .junk, .junk, .junk, .junk, .junk, .junk, .junk, .junk, .junk, .junk, .junk, .junk, .junk, .junk, .junk, .junk, .junk, .junk, .junk, .junk, .junk, .junk, .junk, .junk, .junk, .junk, .junk, .junk, .junk, .junk, .junk, .junk, .junk, .junk, .junk, .junk, .junk, .junk, .junk, .junk, .junk, .junk, .junk, .junk, .junk, .junk, .junk, .junk, .junk, .junk, .junk, .junk, .junk, .junk, .junk, .junk, .junk, .junk, .junk, .junk, .junk, .junk, .junk, .junk, .junk, .junk, .junk, .junk, .junk, .junk, .junk, .junk, .junk, .junk, .junk, .junk, .junk, .junk, .junk, .junk, .junk, .junk, .junk, .junk, .junk, .junk, .junk, .junk, .junk, .junk, .junk, .junk, .junk, .junk, .junk, .junk, .junk, .junk, .junk, .junk, .junk, .junk, .junk, .junk, .junk, .junk, .junk, .junk, .junk, .junk, .junk, .junk, .junk, .junk, .junk, .junk, .junk, .junk, .junk, .junk, .junk, .junk, .junk, .junk, .junk, .junk, .junk, .junk, .junk, .junk, .junk, .junk, .junk, .junk, .junk, .junk, .junk, .junk, .junk, .junk, .junk, .junk, .junk, .junk, .junk, .junk], [(Blk.d 1 [(D.list u4_7 u4_8 u4_9)])]⟩
  (contK Tryz.prog (Zb Z6 Z7 Z0 Z4 Z3 Z1 Z5 Z2).sp ⟨0, [], false, []⟩ (inlK Tryz.prog (Zb Z6 Z7 Z0 Z4 Z3 Z1 Z5 Z2) m 4) m Z9 (endK Tryz.prog Tryz.f3 (fun v L => viewK L 8 v some)) [.loop (bm 786702 184) 1 (subc [1, 1, 1, 1, 1, 1, 1, 1, 1, 1, 1, 0, 1, 0, 1, 1, 1, 0, 0] (bodyOf Tryz.f3)) n0, .block 2, .code (subc [1, 1, 1, 1, 1, 1, 1, 1, 1, 1, 1, 1] (bodyOf Tryz.f3))]))
theorem Zbd (Z6 Z7 Z0 Z4 Z3 Z1 Z5 Z2 : List D → Option D) (m n0 : Nat) (u4_0 : Int) (u4_1 : Int) (u4_2 : Int) (u4_3 : Nat) (u4_4 : Option Nat) (u4_5 : List D) (u4_6 : Int) (u4_7 : Nat) (u4_8 : Option Nat) (u4_9 : List D) : Z6i Z6 Z7 Z0 Z4 Z3 Z1 Z5 Z2 m n0 u4_0 u4_1 u4_2 u4_3 u4_4 u4_5 u4_6 u4_7 u4_8 u4_9 =
 (Z4m Z6 Z7 Z0 Z4 Z3 Z1 Z5 Z2 m n0 u4_0 u4_1 u4_2 u4_3 u4_4 u4_5 (IntKind.wrap .i64 (u4_6 + (1 : Int))) u4_7 u4_8 u4_9) := (cutK_eq m _).trans (by kernel_rfl)
noncomputable def Z4h (Z6 Z7 Z0 Z4 Z3 Z1 Z5 Z2 : List D → Option D) (m : Nat) (u5_0 : Int) (u5_1 : Int) (u5_2 : Int) (u5_3 : Nat) (u5_4 : Option Nat) (u5_5 : List D) : Option D :=
 cutK m (codeK Tryz.prog (Zb Z6 Z7 Z0 Z4 Z3 Z1 Z5 Z2).sp ⟨0, [], false, []⟩ (inlK Tryz.prog (Zb Z6 Z7 Z0 Z4 Z3 Z1 Z5 Z2) m 4) m Z9 (subc [1, 1, 1, 1, 1, 1, 1, 1, 1, 1, 1, 1] (bodyOf Tryz.f3)) ⟨[.junk, (AV.d (D.v (.int .i64 u5_0))), (AV.d (D.v (.int .i64 u5_1))), (AV.ptr 0 0), .junk, .junk, .junk, .junk, (AV.d (D.v (.int .i64 u5_2))), .junk, .junk, .junk, .junk, .junk, .junk, .junk, .junk, .junk, .junk, .junk, .junk, .junk, .junk, .junk, .junk, .junk, .junk, .junk, .junk, .junk, .junk, .junk, .junk, .junk, .junk, .junk, .junk, .junk, .junk, .junk, .junk, .junk, .junk, .junk, .junk, .junk, .junk, .junk, .junk, .junk, .junk, .junk, .junk, .junk, .junk, .junk, .junk, .junk, .junk, .junk, .junk, .junk, .junk, .junk, .junk, .junk, .junk, .junk, .junk, .junk, .junk, .junk, .junk, .junk, .junk, .junk, .junk, .junk, .junk, .junk, .junk, .junk, .junk, .junk, .junk, .junk, .junk, .junk, .junk, .junk, .junk, .junk, .junk, .junk, .junk, .junk, .junk, .junk, .junk, .junk, .junk, .junk, .junk, .junk, .junk, .junk, .junk, .junk, .junk, .junk, .junk, .junk, .junk, .junk, .junk, .junk, .junk, .junk, .junk, .junk, .junk, .junk, .junk, .junk, .junk, .junk, .junk, .junk, .junk, .junk, .junk, .junk, .junk, .junk, .junk, .junk, .junk, .junk, .junk, .junk, .junk, .junk, .junk, .junk, .junk, .junk, .junk, .junk, .junk, .junk, .junk, .junk, .junk, .junk, .junk, .junk, .junk, .junk, .junk, .junk, .junk, .junk, .junk, .junk, .junk, .junk, .junk, .junk, .junk, .junk, .junk, .junk, .junk, .junk, .junk, .junk, .junk, .junk, .junk, .junk, .junk, .junk, .junk, .junk], [(Blk.d 1 [(D.list u5_3 u5_4 u5_5)])]⟩
  (contK Tryz.prog (Zb Z6 Z7 Z0 Z4 Z3 Z1 Z5 Z2).sp ⟨0, [], false, []⟩ (inlK Tryz.prog (Zb Z6 Z7 Z0 Z4 Z3 Z1 Z5 Z2) m 4) m Z9 (endK Tryz.prog Tryz.f3 (fun v L => viewK L 8 v some)) []))
theorem Zj4 (Z6 Z7 Z0 Z4 Z3 Z1 Z5 Z2 : List D → Option D) (m : Nat) (u5_0 : Int) (u5_1 : Int) (u5_2 : Int) (u5_3 : Nat) (u5_4 : Option Nat) (u5_5 : List D) : Z4h Z6 Z7 Z0 Z4 Z3 Z1 Z5 Z2 m u5_0 u5_1 u5_2 u5_3 u5_4 u5_5 =
 ((Z2 [(D.agg [(D.list u5_3 u5_4 u5_5)]), (D.v (.int .i64 u5_0)), (D.v (.int .i64 u5_1))]).bind fun d47 =>
 (rdT d47).bind fun r48 =>
 if List.length r48 = 2 then
 (rdA r48[0]?).bind fun c49 =>
 (rdI .i64 r48[1]?).bind fun x50 =>
 if (List.length c49) = 1 then
 cond (x50 == u5_2)
 (cond (u5_2 == (0 : Int))
 ((Z6 []).bind fun d51 =>
 (rdB (some d51)).bind fun b52 =>
 some (D.v (.bool b52)))
 ((rdL c49[0]?).bind fun q53 =>
 cond (((q53.n : Nat) : Int) == (0 : Int))
 ((Z6 []).bind fun d54 =>
 (rdB (some d54)).bind fun b55 =>
 some (D.v (.bool b55)))
 (some (D.v (.bool false)))))
 (some (D.v (.bool false)))
 else none
 else none) := (cutK_eq m _).trans (by kernel_rfl)
theorem Zkl (Z6 Z7 Z0 Z4 Z3 Z1 Z5 Z2 : List D → Option D) (m n0 : Nat) (y1_0 : Int) (y1_1 : Int) (y1_2 : Int) (y1_3 : Nat) (y1_4 : Option Nat) (y1_5 : List D) (y1_6 : Int) (y1_7 : Nat) (y1_8 : Option Nat) (y1_9 : List D) : Z4m Z6 Z7 Z0 Z4 Z3 Z1 Z5 Z2 m (n0 + 1) y1_0 y1_1 y1_2 y1_3 y1_4 y1_5 y1_6 y1_7 y1_8 y1_9 =
 (cond (decide (y1_6 < ((y1_3 : Nat) : Int)))
 (if 0 ≤ y1_6 ∧ y1_6 < ((y1_3 : Nat) : Int) then
 (rdI .i64 y1_5[((Int.toNat y1_6) * 1)]?).bind fun x46 =>
 cond (x46 == y1_1)
 (Z6i Z6 Z7 Z0 Z4 Z3 Z1 Z5 Z2 m n0 y1_0 y1_1 (0 : Int) y1_3 y1_4 y1_5 y1_6 y1_7 y1_8 y1_9)
 (Z6i Z6 Z7 Z0 Z4 Z3 Z1 Z5 Z2 m n0 y1_0 y1_1 y1_2 y1_3 y1_4 y1_5 y1_6 y1_7 y1_8 y1_9)
 else none)
 (Z4h Z6 Z7 Z0 Z4 Z3 Z1 Z5 Z2 m y1_0 y1_1 y1_2 y1_7 y1_8 y1_9)) := by kernel_rfl
theorem Z55 (Z6 Z7 Z0 Z4 Z3 Z1 Z5 Z2 : List D → Option D) (m : Nat) (u3_0 : Int) (u3_1 : Int) (u3_2 : Int) (u3_3 : Nat) (u3_4 : Option Nat) (u3_5 : List D) : Z2t Z6 Z7 Z0 Z4 Z3 Z1 Z5 Z2 m u3_0 u3_1 u3_2 u3_3 u3_4 u3_5 =
 (cond (u3_2 == (0 : Int))
 ((Z5 [(D.agg [(D.list u3_3 u3_4 u3_5)]), (D.v (.int .i64 u3_0))]).bind fun d42 =>
 (rdL (some d42)).bind fun q43 =>
 Z4m Z6 Z7 Z0 Z4 Z3 Z1 Z5 Z2 m m u3_0 u3_1 (21 : Int) q43.n q43.cap q43.cs (0 : Int) u3_3 u3_4 u3_5)
 (Z4h Z6 Z7 Z0 Z4 Z3 Z1 Z5 Z2 m u3_0 u3_1 u3_2 u3_3 u3_4 u3_5)) := (cutK_eq m _).trans (by kernel_rfl)
theorem Zj5 (Z6 Z7 Z0 Z4 Z3 Z1 Z5 Z2 : List D → Option D) (m : Nat) (u2_0 : Int) (u2_1 : Int) (u2_2 : Int) (u2_3 : Nat) (u2_4 : Option Nat) (u2_5 : List D) : Z4g Z6 Z7 Z0 Z4 Z3 Z1 Z5 Z2 m u2_0 u2_1 u2_2 u2_3 u2_4 u2_5 =
 (cond (u2_2 == (0 : Int))
 (cond (decide (u2_1 < (0 : Int)))
 (Z2t Z6 Z7 Z0 Z4 Z3 Z1 Z5 Z2 m u2_0 u2_1 (19 : Int) u2_3 u2_4 u2_5)
 (cond (decide (u2_1 ≥ ((u2_3 : Nat) : Int)))
 (Z2t Z6 Z7 Z0 Z4 Z3 Z1 Z5 Z2 m u2_0 u2_1 (19 : Int) u2_3 u2_4 u2_5)
 (Z2t Z6 Z7 Z0 Z4 Z3 Z1 Z5 Z2 m u2_0 u2_1 u2_2 u2_3 u2_4 u2_5)))
 (Z2t Z6 Z7 Z0 Z4 Z3 Z1 Z5 Z2 m u2_0 u2_1 u2_2 u2_3 u2_4 u2_5)) := (cutK_eq m _).trans (by kernel_rfl)
theorem Zj6 (Z6 Z7 Z0 Z4 Z3 Z1 Z5 Z2 : List D → Option D) (m : Nat) (u1_0 : Int) (u1_1 : Int) (u1_2 : Int) (u1_3 : Nat) (u1_4 : Option Nat) (u1_5 : List D) : Z2s Z6 Z7 Z0 Z4 Z3 Z1 Z5 Z2 m u1_0 u1_1 u1_2 u1_3 u1_4 u1_5 =
 ((Z0 [(D.agg [(D.list u1_3 u1_4 u1_5)]), (D.v (.int .i64 u1_0))]).bind fun d23 =>
 (rdT d23).bind fun r24 =>
 if List.length r24 = 2 then
 (rdL r24[0]?).bind fun q25 =>
 (rdI .i64 r24[1]?).bind fun x26 =>
 (Z4 [(D.agg [(D.list u1_3 u1_4 u1_5)]), (D.v (.int .i64 u1_0))]).bind fun d27 =>
 (rdT d27).bind fun r28 =>
 if List.length r28 = 2 then
 (rdL r28[0]?).bind fun q29 =>
 (rdI .i64 r28[1]?).bind fun x30 =>
 (Z3 [(D.agg [(D.list u1_3 u1_4 u1_5)]), (D.v (.int .i64 u1_0))]).bind fun d31 =>
 (rdT d31).bind fun r32 =>
 if List.length r32 = 2 then
 (rdA r32[0]?).bind fun c33 =>
 (rdI .i64 r32[1]?).bind fun x34 =>
 if (List.length c33) = 1 then
 (Z1 [(D.agg [(D.list u1_3 u1_4 u1_5)]), (D.v (.int .i64 u1_0)), (D.list 0 (some 0) [])]).bind fun d35 =>
 (rdT d35).bind fun r36 =>
 if List.length r36 = 3 then
 (rdA r36[0]?).bind fun c37 =>
 (rdI .i64 r36[1]?).bind fun x38 =>
 (rdI .i64 r36[2]?).bind fun x39 =>
 if (List.length c37) = 1 then
 cond (x26 != u1_2)
 (some (D.v (.bool false)))
 (cond (x30 != u1_2)
 (some (D.v (.bool false)))
 (cond (x34 != u1_2)
 (some (D.v (.bool false)))
 (cond (x39 != u1_2)
 (some (D.v (.bool false)))
 (cond (u1_2 != (0 : Int))
 ((rdL c33[0]?).bind fun q40 =>
 (rdL c37[0]?).bind fun q41 =>
 cond (decide ((IntKind.wrap .i64 ((IntKind.wrap .i64 ((IntKind.wrap .i64 (((q25.n : Nat) : Int) + ((q29.n : Nat) : Int))) + ((q40.n : Nat) : Int))) + ((q41.n : Nat) : Int))) > (0 : Int)))
 (some (D.v (.bool false)))
 (cond (x38 != (0 : Int))
 (some (D.v (.bool false)))
 (Z4g Z6 Z7 Z0 Z4 Z3 Z1 Z5 Z2 m u1_0 u1_1 u1_2 u1_3 u1_4 u1_5)))
 (Z4g Z6 Z7 Z0 Z4 Z3 Z1 Z5 Z2 m u1_0 u1_1 u1_2 u1_3 u1_4 u1_5)))))
 else none
 else none
 else none
 else none
 else none
 else none) := (cutK_eq m _).trans (by kernel_rfl)
theorem Zdh (Z6 Z7 Z0 Z4 Z3 Z1 Z5 Z2 : List D → Option D) (m n0 : Nat) (y0_0 : Int) (y0_1 : Int) (y0_2 : Int) (y0_3 : Nat) (y0_4 : Option Nat) (y0_5 : List D) : Z3v Z6 Z7 Z0 Z4 Z3 Z1 Z5 Z2 m (n0 + 1) y0_0 y0_1 y0_2 y0_3 y0_4 y0_5 =
 (cond (decide (y0_2 < ((y0_3 : Nat) : Int)))
 (if 0 ≤ y0_2 ∧ y0_2 < ((y0_3 : Nat) : Int) then
 (rdL y0_5[(((Int.toNat y0_2) * 20) + 18)]?).bind fun q15 =>
 cond (decide (((q15.n : Nat) : Int) > (260 : Int)))
 ((Z6 []).bind fun d16 =>
 (rdB (some d16)).bind fun b17 =>
 some (D.v (.bool b17)))
 (if 0 ≤ y0_2 ∧ y0_2 < ((y0_3 : Nat) : Int) then
 (rdL y0_5[(((Int.toNat y0_2) * 20) + 19)]?).bind fun q18 =>
 cond (decide (((q18.n : Nat) : Int) > (0 : Int)))
 ((Z6 []).bind fun d19 =>
 (rdB (some d19)).bind fun b20 =>
 some (D.v (.bool b20)))
 (Zf0 Z6 Z7 Z0 Z4 Z3 Z1 Z5 Z2 m n0 y0_0 y0_1 y0_2 y0_3 y0_4 y0_5)
 else none)
 else none)
 ((Z7 [(D.agg [(D.list y0_3 y0_4 y0_5)])]).bind fun d21 =>
 (rdI .i64 (some d21)).bind fun x22 =>
 cond (x22 == (0 : Int))
 (cond (decide (y0_0 < (0 : Int)))
 (Z2s Z6 Z7 Z0 Z4 Z3 Z1 Z5 Z2 m y0_0 y0_1 (1 : Int) y0_3 y0_4 y0_5)
 (cond (decide (y0_0 > (64 : Int)))
 (Z2s Z6 Z7 Z0 Z4 Z3 Z1 Z5 Z2 m y0_0 y0_1 (1 : Int) y0_3 y0_4 y0_5)
 (Z2s Z6 Z7 Z0 Z4 Z3 Z1 Z5 Z2 m y0_0 y0_1 x22 y0_3 y0_4 y0_5)))
 (Z2s Z6 Z7 Z0 Z4 Z3 Z1 Z5 Z2 m y0_0 y0_1 x22 y0_3 y0_4 y0_5))) := by kernel_rfl
noncomputable def Z63 (Z6 Z7 Z0 Z4 Z3 Z1 Z5 Z2 : List D → Option D) (m : Nat) (a0_0n : Nat) (a0_0c : Option Nat) (a0_0 : List D) (a1 : Int) (a2 : Int) : Option D :=
 cond (decide (((a0_0n : Nat) : Int) > (70 : Int)))
 ((Z6 []).bind fun d1 =>
 (rdB (some d1)).bind fun b2 =>
 some (D.v (.bool b2)))
 (Z3v Z6 Z7 Z0 Z4 Z3 Z1 Z5 Z2 m m a1 a2 (0 : Int) a0_0n a0_0c a0_0)
theorem Zlg (Z6 Z7 Z0 Z4 Z3 Z1 Z5 Z2 : List D → Option D) (m : Nat) (a0_0n : Nat) (a0_0c : Option Nat) (a0_0 : List D) (a1 : Int) (a2 : Int) : funD Tryz.prog (Zb Z6 Z7 Z0 Z4 Z3 Z1 Z5 Z2) m 4 Z9 Tryz.f3 [(D.agg [(D.list a0_0n a0_0c a0_0)]), (D.v (.int .i64 a1)), (D.v (.int .i64 a2))] = Z63 Z6 Z7 Z0 Z4 Z3 Z1 Z5 Z2 m a0_0n a0_0c a0_0 a1 a2 := by kernel_rfl
theorem Znv : Enters Tryz.prog 3 := ⟨Tryz.f3, Tryz.func3, by kernel_rfl, by kernel_rfl⟩
theorem Znw {ds : List D} {d : D} (h : funD Tryz.prog (Zb Z1i Z1w Zf Zu Zq Zm Z18 Zj) M 4 Z9 Tryz.f3 ds = some d) : DataSem Tryz.prog 3 ds d := data_sound (H := (Zb Z1i Z1w Zf Zu Zq Zm Z18 Zj)) (SpOk.cons Zue (SpOk.cons Zu4 (SpOk.cons Zix (SpOk.cons Znq (SpOk.cons Znp (SpOk.cons Zl2 (SpOk.cons Zqq (SpOk.cons Zm9 SpOk.nil)))))))) mixed InlOk.nil Tryz.func3 Znv h
noncomputable def Zao : List D → Option D
  | [.agg [.list a0_0n a0_0c a0_0], .v (.int .i64 a1), .v (.int .i64 a2)] => Z63 Z1i Z1w Zf Zu Zq Zm Z18 Zj M a0_0n a0_0c a0_0 a1 a2
  | _ => none
theorem Znx : ∀ ds d, Zao ds = some d → DataSem Tryz.prog 3 ds d := by
  intro ds d h
  unfold Zao at h
  split at h
  · exact Znw ((Zlg Z1i Z1w Zf Zu Zq Zm Z18 Zj M _ _ _ _ _).trans h)
  · cases h

end Go.Ev
