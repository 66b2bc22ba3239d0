/- Functions of the given program in plain form, printed: each with the proof that it is what the evaluator comes to, and that the program function returns what it says. No conditions. -/
import Derived.Test.YtilgfaangfbndaaDoorEvG5
set_option linter.unusedVariables false
set_option maxRecDepth 100000
namespace Go.Ev
open Go Go.Proofs

-- ('str', '"vidimus/vidimuslaw05.ScalarsKnown"')
def fh5_5 : FnH := ⟨[(2, ⟨[false, true, false, false, false, false, false, false, false, false, false, false, false, false, false, false, false, false, false, false, false, false, false, false, false, false, false, false, false, false, false, false, false, false, false, false, false, false, false, false, false, false, false, false, false, false, false, false, false, false, false, false, false, false, false, false, false, false, false, false, false, false, false, false, false, false, false, false, false, false, false, false, false, false, false, false, false, false, false, false, false, false, false, false, false, false, false, false, false, false, false, false, false, false, false, false, false, false, false, false, false, false, false, false, false, false, false, false, false, false, false, false, false, false, false, false, false, false, false, false, false, false, false, false, false, false, false, false, false, false, false, false, false, false, false, false, false, false, false, false, false], [], none⟩), (8, ⟨[false, false, true, true, false, false, false, false, false, false, false, false, false, false, false, false, false, false, false, false, false, false, false, false, false, false, false, false, false, false, false, false, false, false, false, false, false, false, false, false, false, false, false, false, false, false, false, false, false, false, false, false, false, false, false, false, false, false, false, false, false, false, false, false, false, false, false, false, false, false, false, false, false, false, false, false, false, false, false, false, false, false, false, false, false, false, false, false, false, false, false, false, false, false, false, false, false, false, false, false, false, false, false, false, false, false, false, false, false, false, false, false, false, false, false, false, false, false, false, false, false, false, false, false, false, false, false, false, false, false, false, false, false, false, false, false, false, false, false, false, false], [], none⟩), (19, ⟨[false, false, false, false, false, false, false, false, true, true, false, false, false, false, false, false, false, false, false, false, false, false, false, false, false, false, false, false, false, false, false, false, false, false, false, false, false, false, false, false, false, false, false, false, false, false, false, false, false, false, false, false, false, false, false, false, false, false, false, false, false, false, false, false, false, false, false, false, false, false, false, false, false, false, false, false, false, false, false, false, false, false, false, false, false, false, false, false, false, false, false, false, false, false, false, false, false, false, false, false, false, false, false, false, false, false, false, false, false, false, false, false, false, false, false, false, false, false, false, false, false, false, false, false, false, false, false, false, false, false, false, false, false, false, false, false, false, false, false, false, false], [], none⟩)], [(3, ⟨[false, true, false, false, false, false, false, false, false, false, false, false, false, false, false, false, false, false, false, false, false, false, false, false, false, false, false, false, false, false, false, false, false, false, false, false, false, false, false, false, false, false, false, false, false, false, false, false, false, false, false, false, false, false, false, false, false, false, false, false, false, false, false, false, false, false, false, false, false, false, false, false, false, false, false, false, false, false, false, false, false, false, false, false, false, false, false, false, false, false, false, false, false, false, false, false, false, false, false, false, false, false, false, false, false, false, false, false, false, false, false, false, false, false, false, false, false, false, false, false, false, false, false, false, false, false, false, false, false, false, false, false, false, false, false, false, false, false, false, false, false], [], none⟩), (12, ⟨[false, false, true, true, false, false, false, false, false, false, false, false, false, false, false, false, false, false, false, false, false, false, false, false, false, false, false, false, false, false, false, false, false, false, false, false, false, false, false, false, false, false, false, false, false, false, false, false, false, false, false, false, false, false, false, false, false, false, false, false, false, false, false, false, false, false, false, false, false, false, false, false, false, false, false, false, false, false, false, false, false, false, false, false, false, false, false, false, false, false, false, false, false, false, false, false, false, false, false, false, false, false, false, false, false, false, false, false, false, false, false, false, false, false, false, false, false, false, false, false, false, false, false, false, false, false, false, false, false, false, false, false, false, false, false, false, false, false, false, false, false], [], none⟩), (17, ⟨[false, false, false, false, false, false, false, false, false, false, false, false, false, false, false, false, false, false, false, false, false, false, false, false, false, false, false, false, false, false, false, false, false, false, false, false, false, false, false, false, false, false, false, false, false, false, false, false, false, false, false, false, false, false, false, false, false, false, false, false, false, false, false, false, false, false, false, false, false, false, false, false, false, false, false, false, false, false, false, false, false, false, false, false, false, false, false, false, false, false, false, false, false, false, false, false, false, false, false, false, false, false, false, false, false, false, false, false, false, false, false, false, false, false, false, false, false, false, false, false, false, false, false, false, false, false, false, false, false, false, false, false, false, false, false, false, false, false, false, false, false], [], none⟩)]⟩
noncomputable def H5 : Hints := ⟨[(3, sp3), (4, sp4), (22, sp22), (27, sp27), (33, sp33), (35, sp35), (36, sp36), (37, sp37), (38, sp38)], []⟩
noncomputable def F5_5_2 (m n0 : Nat) (y0_0 : Int) : Option D :=
 loopIter [false, true, false, false, false, false, false, false, false, false, false, false, false, false, false, false, false, false, false, false, false, false, false, false, false, false, false, false, false, false, false, false, false, false, false, false, false, false, false, false, false, false, false, false, false, false, false, false, false, false, false, false, false, false, false, false, false, false, false, false, false, false, false, false, false, false, false, false, false, false, false, false, false, false, false, false, false, false, false, false, false, false, false, false, false, false, false, false, false, false, false, false, false, false, false, false, false, false, false, false, false, false, false, false, false, false, false, false, false, false, false, false, false, false, false, false, false, false, false, false, false, false, false, false, false, false, false, false, false, false, false, false, false, false, false, false, false, false, false, false, false] 0 0 (codeK Tryd.prog H5.sp 0 (inlK Tryd.prog H5 m 3) m fh5_5 (subc [1, 0, 1, 0, 0] (bodyOf Tryd.f5))) n0 ⟨[.junk, (AV.d (D.v (.int .i64 y0_0))), .junk, .junk, .junk, .junk, .junk, .junk, .junk, .junk, .junk, .junk, .junk, .junk, .junk, .junk, .junk, .junk, .junk, .junk, .junk, .junk, .junk, .junk, .junk, .junk, .junk, .junk, .junk, .junk, .junk, .junk, .junk, .junk, .junk, .junk, .junk, .junk, .junk, .junk, .junk, .junk, .junk, .junk, .junk, .junk, .junk, .junk, .junk, .junk, .junk, .junk, .junk, .junk, .junk, .junk, .junk, .junk, .junk, .junk, .junk, .junk, .junk, .junk, .junk, .junk, .junk, .junk, .junk, .junk, .junk, .junk, .junk, .junk, .junk, .junk, .junk, .junk, .junk, .junk, .junk, .junk, .junk, .junk, .junk, .junk, .junk, .junk, .junk, .junk, .junk, .junk, .junk, .junk, .junk, .junk, .junk, .junk, .junk, .junk, .junk, .junk, .junk, .junk, .junk, .junk, .junk, .junk, .junk, .junk, .junk, .junk, .junk, .junk, .junk, .junk, .junk, .junk, .junk, .junk, .junk, .junk, .junk, .junk, .junk, .junk, .junk, .junk, .junk, .junk, .junk, .junk, .junk, .junk, .junk, .junk, .junk, .junk, .junk, .junk, .junk], []⟩
  (contK Tryd.prog H5.sp 0 (inlK Tryd.prog H5 m 3) m fh5_5 (endK Tryd.prog Tryd.f5 (fun v L => viewK L 8 v some)) [.block 0, .code (subc [1, 1] (bodyOf Tryd.f5))])
noncomputable def F5_5_j3 (m n0 : Nat) (u0_0 : Int) (u0_1 : Int) : Option D :=
 cutK (codeK Tryd.prog H5.sp 0 (inlK Tryd.prog H5 m 3) m fh5_5 (subc [1, 0, 1, 0, 0, 1, 1] (bodyOf Tryd.f5)) ⟨[.junk, (AV.d (D.v (.int .i64 u0_0))), .junk, .junk, .junk, .junk, .junk, .junk, .junk, .junk, .junk, .junk, .junk, .junk, .junk, .junk, .junk, .junk, .junk, .junk, .junk, .junk, .junk, .junk, .junk, .junk, .junk, .junk, .junk, .junk, .junk, .junk, .junk, .junk, .junk, .junk, .junk, .junk, .junk, .junk, .junk, .junk, .junk, .junk, .junk, .junk, .junk, .junk, .junk, .junk, .junk, .junk, .junk, .junk, .junk, .junk, .junk, .junk, .junk, .junk, .junk, .junk, .junk, .junk, .junk, .junk, .junk, .junk, .junk, .junk, .junk, .junk, .junk, .junk, .junk, .junk, .junk, .junk, .junk, .junk, .junk, .junk, .junk, .junk, .junk, .junk, .junk, .junk, .junk, .junk, .junk, .junk, .junk, .junk, .junk, .junk, .junk, .junk, .junk, .junk, .junk, .junk, .junk, .junk, .junk, .junk, .junk, .junk, .junk, .junk, .junk, .junk, .junk, .junk, .junk, .junk, .junk, .junk, .junk, .junk, .junk, .junk, .junk, .junk, .junk, .junk, .junk, .junk, .junk, .junk, .junk, .junk, .junk, .junk, .junk, .junk, .junk, .junk, .junk, .junk, .junk], [(Blk.d 1 [(D.v (.int .u8 u0_1))]), (Blk.d 2 [(D.v (.int .u8 u0_1)), (D.v (.int .u8 (0 : Int)))]), (Blk.d 2 [(D.v (.int .u8 (0 : Int))), (D.v (.int .u8 u0_1))]), (Blk.d 2 [(D.v (.int .u8 (255 : Int))), (D.v (.int .u8 u0_1))])]⟩
  (contK Tryd.prog H5.sp 0 (inlK Tryd.prog H5 m 3) m fh5_5 (endK Tryd.prog Tryd.f5 (fun v L => viewK L 8 v some)) [.loop [false, true, false, false, false, false, false, false, false, false, false, false, false, false, false, false, false, false, false, false, false, false, false, false, false, false, false, false, false, false, false, false, false, false, false, false, false, false, false, false, false, false, false, false, false, false, false, false, false, false, false, false, false, false, false, false, false, false, false, false, false, false, false, false, false, false, false, false, false, false, false, false, false, false, false, false, false, false, false, false, false, false, false, false, false, false, false, false, false, false, false, false, false, false, false, false, false, false, false, false, false, false, false, false, false, false, false, false, false, false, false, false, false, false, false, false, false, false, false, false, false, false, false, false, false, false, false, false, false, false, false, false, false, false, false, false, false, false, false, false, false] 0 (subc [1, 0, 1, 0, 0] (bodyOf Tryd.f5)) n0, .block 0, .code (subc [1, 1] (bodyOf Tryd.f5))]))
theorem F5_5_j3_e (m n0 : Nat) (u0_0 : Int) (u0_1 : Int) : F5_5_j3 m n0 u0_0 u0_1 =
 (F5_5_2 m n0 (IntKind.wrap .i64 (u0_0 + (1 : Int)))) := by kernel_rfl
noncomputable def F5_5_8 (m n0 : Nat) (y1_0 : Int) (y1_1 : Int) : Option D :=
 loopIter [false, false, true, true, false, false, false, false, false, false, false, false, false, false, false, false, false, false, false, false, false, false, false, false, false, false, false, false, false, false, false, false, false, false, false, false, false, false, false, false, false, false, false, false, false, false, false, false, false, false, false, false, false, false, false, false, false, false, false, false, false, false, false, false, false, false, false, false, false, false, false, false, false, false, false, false, false, false, false, false, false, false, false, false, false, false, false, false, false, false, false, false, false, false, false, false, false, false, false, false, false, false, false, false, false, false, false, false, false, false, false, false, false, false, false, false, false, false, false, false, false, false, false, false, false, false, false, false, false, false, false, false, false, false, false, false, false, false, false, false, false] 0 0 (codeK Tryd.prog H5.sp 0 (inlK Tryd.prog H5 m 3) m fh5_5 (subc [1, 1, 1, 0, 1, 0, 0] (bodyOf Tryd.f5))) n0 ⟨[.junk, .junk, (AV.d (D.v (.int .i64 y1_0))), (AV.d (D.v (.int .i64 y1_1))), .junk, .junk, .junk, .junk, .junk, .junk, .junk, .junk, .junk, .junk, .junk, .junk, .junk, .junk, .junk, .junk, .junk, .junk, .junk, .junk, .junk, .junk, .junk, .junk, .junk, .junk, .junk, .junk, .junk, .junk, .junk, .junk, .junk, .junk, .junk, .junk, .junk, .junk, .junk, .junk, .junk, .junk, .junk, .junk, .junk, .junk, .junk, .junk, .junk, .junk, .junk, .junk, .junk, .junk, .junk, .junk, .junk, .junk, .junk, .junk, .junk, .junk, .junk, .junk, .junk, .junk, .junk, .junk, .junk, .junk, .junk, .junk, .junk, .junk, .junk, .junk, .junk, .junk, .junk, .junk, .junk, .junk, .junk, .junk, .junk, .junk, .junk, .junk, .junk, .junk, .junk, .junk, .junk, .junk, .junk, .junk, .junk, .junk, .junk, .junk, .junk, .junk, .junk, .junk, .junk, .junk, .junk, .junk, .junk, .junk, .junk, .junk, .junk, .junk, .junk, .junk, .junk, .junk, .junk, .junk, .junk, .junk, .junk, .junk, .junk, .junk, .junk, .junk, .junk, .junk, .junk, .junk, .junk, .junk, .junk, .junk, .junk], []⟩
  (contK Tryd.prog H5.sp 0 (inlK Tryd.prog H5 m 3) m fh5_5 (endK Tryd.prog Tryd.f5 (fun v L => viewK L 8 v some)) [.block 2, .code (subc [1, 1, 1, 1] (bodyOf Tryd.f5))])
noncomputable def F5_5_j12 (m n0 : Nat) (u1_0 : Int) (u1_1 : Int) : Option D :=
 cutK (codeK Tryd.prog H5.sp 0 (inlK Tryd.prog H5 m 3) m fh5_5 (subc [1, 1, 1, 0, 1, 0, 0, 1, 0, 0, 1] (bodyOf Tryd.f5)) ⟨[.junk, .junk, (AV.d (D.v (.int .i64 u1_0))), (AV.d (D.v (.int .i64 u1_1))), .junk, .junk, .junk, .junk, .junk, .junk, .junk, .junk, .junk, .junk, .junk, .junk, .junk, .junk, .junk, .junk, .junk, .junk, .junk, .junk, .junk, .junk, .junk, .junk, .junk, .junk, .junk, .junk, .junk, .junk, .junk, .junk, .junk, .junk, .junk, .junk, .junk, .junk, .junk, .junk, .junk, .junk, .junk, .junk, .junk, .junk, .junk, .junk, .junk, .junk, .junk, .junk, .junk, .junk, .junk, .junk, .junk, .junk, .junk, .junk, .junk, .junk, .junk, .junk, .junk, .junk, .junk, .junk, .junk, .junk, .junk, .junk, .junk, .junk, .junk, .junk, .junk, .junk, .junk, .junk, .junk, .junk, .junk, .junk, .junk, .junk, .junk, .junk, .junk, .junk, .junk, .junk, .junk, .junk, .junk, .junk, .junk, .junk, .junk, .junk, .junk, .junk, .junk, .junk, .junk, .junk, .junk, .junk, .junk, .junk, .junk, .junk, .junk, .junk, .junk, .junk, .junk, .junk, .junk, .junk, .junk, .junk, .junk, .junk, .junk, .junk, .junk, .junk, .junk, .junk, .junk, .junk, .junk, .junk, .junk, .junk, .junk], []⟩
  (contK Tryd.prog H5.sp 0 (inlK Tryd.prog H5 m 3) m fh5_5 (endK Tryd.prog Tryd.f5 (fun v L => viewK L 8 v some)) [.block 3, .code (subc [1, 1, 1, 0, 1, 0, 0, 1, 1] (bodyOf Tryd.f5)), .loop [false, false, true, true, false, false, false, false, false, false, false, false, false, false, false, false, false, false, false, false, false, false, false, false, false, false, false, false, false, false, false, false, false, false, false, false, false, false, false, false, false, false, false, false, false, false, false, false, false, false, false, false, false, false, false, false, false, false, false, false, false, false, false, false, false, false, false, false, false, false, false, false, false, false, false, false, false, false, false, false, false, false, false, false, false, false, false, false, false, false, false, false, false, false, false, false, false, false, false, false, false, false, false, false, false, false, false, false, false, false, false, false, false, false, false, false, false, false, false, false, false, false, false, false, false, false, false, false, false, false, false, false, false, false, false, false, false, false, false, false, false] 0 (subc [1, 1, 1, 0, 1, 0, 0] (bodyOf Tryd.f5)) n0, .block 2, .code (subc [1, 1, 1, 1] (bodyOf Tryd.f5))]))
theorem F5_5_j12_e (m n0 : Nat) (u1_0 : Int) (u1_1 : Int) : F5_5_j12 m n0 u1_0 u1_1 =
 (F5_5_8 m n0 (IntKind.wrap .i64 ((2 : Int) * u1_0)) (IntKind.wrap .i64 (u1_1 + (1 : Int)))) := by kernel_rfl
noncomputable def F5_5_j17 (m : Nat)  : Option D :=
 cutK (codeK Tryd.prog H5.sp 0 (inlK Tryd.prog H5 m 3) m fh5_5 (subc [1, 1, 1, 1, 1, 1, 1] (bodyOf Tryd.f5)) ⟨[.junk, .junk, .junk, .junk, .junk, .junk, .junk, .junk, .junk, .junk, .junk, .junk, .junk, .junk, .junk, .junk, .junk, .junk, .junk, .junk, .junk, .junk, .junk, .junk, .junk, .junk, .junk, .junk, .junk, .junk, .junk, .junk, .junk, .junk, .junk, .junk, .junk, .junk, .junk, .junk, .junk, .junk, .junk, .junk, .junk, .junk, .junk, .junk, .junk, .junk, .junk, .junk, .junk, .junk, .junk, .junk, .junk, .junk, .junk, .junk, .junk, .junk, .junk, .junk, .junk, .junk, .junk, .junk, .junk, .junk, .junk, .junk, .junk, .junk, .junk, .junk, .junk, .junk, .junk, .junk, .junk, .junk, .junk, .junk, .junk, .junk, .junk, .junk, .junk, .junk, .junk, .junk, .junk, .junk, .junk, .junk, .junk, .junk, .junk, .junk, .junk, .junk, .junk, .junk, .junk, .junk, .junk, .junk, .junk, .junk, .junk, .junk, .junk, .junk, .junk, .junk, .junk, .junk, .junk, .junk, .junk, .junk, .junk, .junk, .junk, .junk, .junk, .junk, .junk, .junk, .junk, .junk, .junk, .junk, .junk, .junk, .junk, .junk, .junk, .junk, .junk], [(Blk.d 1 [(D.v (.int .u8 (255 : Int)))]), (Blk.d 1 [(D.v (.int .u8 (0 : Int)))])]⟩
  (contK Tryd.prog H5.sp 0 (inlK Tryd.prog H5 m 3) m fh5_5 (endK Tryd.prog Tryd.f5 (fun v L => viewK L 8 v some)) []))
noncomputable def F5_5_19 (m n0 : Nat) (y2_0 : Int) (y2_1 : List D) : Option D :=
 loopIter [false, false, false, false, false, false, false, false, true, true, false, false, false, false, false, false, false, false, false, false, false, false, false, false, false, false, false, false, false, false, false, false, false, false, false, false, false, false, false, false, false, false, false, false, false, false, false, false, false, false, false, false, false, false, false, false, false, false, false, false, false, false, false, false, false, false, false, false, false, false, false, false, false, false, false, false, false, false, false, false, false, false, false, false, false, false, false, false, false, false, false, false, false, false, false, false, false, false, false, false, false, false, false, false, false, false, false, false, false, false, false, false, false, false, false, false, false, false, false, false, false, false, false, false, false, false, false, false, false, false, false, false, false, false, false, false, false, false, false, false, false] 0 3 (codeK Tryd.prog H5.sp 0 (inlK Tryd.prog H5 m 3) m fh5_5 (subc [1, 1, 1, 1, 1, 1, 1, 1, 0, 1, 0, 0] (bodyOf Tryd.f5))) n0 ⟨[.junk, .junk, .junk, .junk, .junk, .junk, .junk, .junk, (AV.sl 2 0 66 (some 66) 1), (AV.d (D.v (.int .i64 y2_0))), .junk, .junk, .junk, .junk, .junk, .junk, .junk, .junk, .junk, .junk, .junk, .junk, .junk, .junk, .junk, .junk, .junk, .junk, .junk, .junk, .junk, .junk, .junk, .junk, .junk, .junk, .junk, .junk, .junk, .junk, .junk, .junk, .junk, .junk, .junk, .junk, .junk, .junk, .junk, .junk, .junk, .junk, .junk, .junk, .junk, .junk, .junk, .junk, .junk, .junk, .junk, .junk, .junk, .junk, .junk, .junk, .junk, .junk, .junk, .junk, .junk, .junk, .junk, .junk, .junk, .junk, .junk, .junk, .junk, .junk, .junk, .junk, .junk, .junk, .junk, .junk, .junk, .junk, .junk, .junk, .junk, .junk, .junk, .junk, .junk, .junk, .junk, .junk, .junk, .junk, .junk, .junk, .junk, .junk, .junk, .junk, .junk, .junk, .junk, .junk, .junk, .junk, .junk, .junk, .junk, .junk, .junk, .junk, .junk, .junk, .junk, .junk, .junk, .junk, .junk, .junk, .junk, .junk, .junk, .junk, .junk, .junk, .junk, .junk, .junk, .junk, .junk, .junk, .junk, .junk, .junk], [(Blk.d 1 [(D.v (.int .u8 (255 : Int)))]), (Blk.d 1 [(D.v (.int .u8 (0 : Int)))]), (Blk.d 66 y2_1)]⟩
  (contK Tryd.prog H5.sp 0 (inlK Tryd.prog H5 m 3) m fh5_5 (endK Tryd.prog Tryd.f5 (fun v L => viewK L 8 v some)) [.block 4, .code (subc [1, 1, 1, 1, 1, 1, 1, 1, 1] (bodyOf Tryd.f5))])
theorem F5_5_19_0 (m : Nat) (y2_0 : Int) (y2_1 : List D) : F5_5_19 m 0 y2_0 y2_1 = none := rfl
theorem F5_5_19_s (m n0 : Nat) (y2_0 : Int) (y2_1 : List D) : F5_5_19 m (n0 + 1) y2_0 y2_1 =
 (cond (decide (y2_0 < (66 : Int)))
 (if 0 ≤ y2_0 ∧ y2_0 < (66 : Int) then
 if 1 = 1 ∧ (0 + ((Int.toNat y2_0) * 1)) < 66 then
 F5_5_19 m n0 (IntKind.wrap .i64 (y2_0 + (1 : Int))) (List.set y2_1 (0 + ((Int.toNat y2_0) * 1)) (D.v (.int .u8 (255 : Int))))
 else none
 else none)
 ((sp33 [(D.list 65 (some 66) ((List.drop 0 (List.set y2_1 0 (D.v (.int .u8 (0 : Int))))).take 65)), (D.list 64 (some 65) ((List.drop 1 (List.set y2_1 0 (D.v (.int .u8 (0 : Int))))).take 64)), (D.v (.int .i64 (0 : Int)))]).bind fun d77 =>
 (rdB (some d77)).bind fun b78 =>
 cond b78
 ((sp33 [(D.list 66 (some 66) (List.set y2_1 0 (D.v (.int .u8 (0 : Int))))), (D.list 0 (some 0) []), (D.v (.int .i64 (3 : Int)))]).bind fun d79 =>
 (rdB (some d79)).bind fun b80 =>
 cond b80
 ((sp3 [(D.v (.int .i64 (9223372036854775807 : Int)))]).bind fun d81 =>
 (rdB (some d81)).bind fun b82 =>
 cond b82
 ((sp3 [(D.v (.int .i64 (-9223372036854775808 : Int)))]).bind fun d83 =>
 (rdB (some d83)).bind fun b84 =>
 cond b84
 ((sp27 []).bind fun d85 =>
 (rdB (some d85)).bind fun b86 =>
 some (D.v (.bool b86)))
 (some (D.v (.bool false))))
 (some (D.v (.bool false))))
 (some (D.v (.bool false))))
 (some (D.v (.bool false))))) := by kernel_rfl
theorem F5_5_j17_e (m : Nat)  : F5_5_j17 m  =
 (F5_5_19 m m (0 : Int) (List.replicate 66 (D.v (.int .u8 (0 : Int))))) := by kernel_rfl
theorem F5_5_8_0 (m : Nat) (y1_0 : Int) (y1_1 : Int) : F5_5_8 m 0 y1_0 y1_1 = none := rfl
theorem F5_5_8_s (m n0 : Nat) (y1_0 : Int) (y1_1 : Int) : F5_5_8 m (n0 + 1) y1_0 y1_1 =
 (cond (decide (y1_1 < (62 : Int)))
 ((sp3 [(D.v (.int .i64 y1_0))]).bind fun d41 =>
 (rdB (some d41)).bind fun b42 =>
 cond (!b42)
 (some (D.v (.bool false)))
 ((sp3 [(D.v (.int .i64 (IntKind.wrap .i64 (y1_0 - (1 : Int)))))]).bind fun d43 =>
 (rdB (some d43)).bind fun b44 =>
 cond (!b44)
 (some (D.v (.bool false)))
 ((sp3 [(D.v (.int .i64 (IntKind.wrap .i64 (0 - y1_0))))]).bind fun d45 =>
 (rdB (some d45)).bind fun b46 =>
 cond (!b46)
 (some (D.v (.bool false)))
 ((sp3 [(D.v (.int .i64 (IntKind.wrap .i64 ((IntKind.wrap .i64 (0 - y1_0)) - (1 : Int)))))]).bind fun d47 =>
 (rdB (some d47)).bind fun b48 =>
 cond (!b48)
 (some (D.v (.bool false)))
 (F5_5_j12 m n0 y1_0 y1_1)))))
 ((sp36 [(D.v (.bool true))]).bind fun d49 =>
 (rdA (some d49)).bind fun c50 =>
 (sp35 [(D.agg c50)]).bind fun d51 =>
 (rdT d51).bind fun r52 =>
 if List.length r52 = 2 then
 (rdB r52[0]?).bind fun b53 =>
 (rdI .i64 r52[1]?).bind fun x54 =>
 (sp36 [(D.v (.bool false))]).bind fun d55 =>
 (rdA (some d55)).bind fun c56 =>
 (sp35 [(D.agg c56)]).bind fun d57 =>
 (rdT d57).bind fun r58 =>
 if List.length r58 = 2 then
 (rdB r58[0]?).bind fun b59 =>
 (rdI .i64 r58[1]?).bind fun x60 =>
 (sp36 [(D.v (.bool true))]).bind fun d61 =>
 (rdA (some d61)).bind fun c62 =>
 (sp22 [(D.agg c62), (D.v (.int .u32 (1 : Int))), (D.list 1 (some 1) [(D.v (.int .u8 (255 : Int)))])]).bind fun d63 =>
 (rdB (some d63)).bind fun b64 =>
 cond (!b64)
 (some (D.v (.bool false)))
 ((sp36 [(D.v (.bool false))]).bind fun d65 =>
 (rdA (some d65)).bind fun c66 =>
 (sp22 [(D.agg c66), (D.v (.int .u32 (1 : Int))), (D.list 1 (some 1) [(D.v (.int .u8 (0 : Int)))])]).bind fun d67 =>
 (rdB (some d67)).bind fun b68 =>
 cond (!b68)
 (some (D.v (.bool false)))
 (cond (!b53)
 (some (D.v (.bool false)))
 (cond b59
 (some (D.v (.bool false)))
 (cond (x54 != (0 : Int))
 (some (D.v (.bool false)))
 (cond (x60 != (0 : Int))
 (some (D.v (.bool false)))
 ((sp37 []).bind fun d69 =>
 (rdA (some d69)).bind fun c70 =>
 (sp22 [(D.agg c70), (D.v (.int .u32 (5 : Int))), (D.list 0 (some 0) [])]).bind fun d71 =>
 (rdB (some d71)).bind fun b72 =>
 cond (!b72)
 (some (D.v (.bool false)))
 ((sp37 []).bind fun d73 =>
 (rdA (some d73)).bind fun c74 =>
 (sp38 [(D.agg c74)]).bind fun d75 =>
 (rdI .i64 (some d75)).bind fun x76 =>
 cond (x76 != (0 : Int))
 (some (D.v (.bool false)))
 (F5_5_j17 m ))))))))
 else none
 else none)) := by kernel_rfl
theorem F5_5_2_0 (m : Nat) (y0_0 : Int) : F5_5_2 m 0 y0_0 = none := rfl
theorem F5_5_2_s (m n0 : Nat) (y0_0 : Int) : F5_5_2 m (n0 + 1) y0_0 =
 (cond (decide (y0_0 < (256 : Int)))
 ((sp4 [(D.list 1 (some 1) [(D.v (.int .u8 (IntKind.wrap .u8 y0_0)))])]).bind fun d17 =>
 (rdB (some d17)).bind fun b18 =>
 cond (!b18)
 (some (D.v (.bool false)))
 ((sp4 [(D.list 2 (some 2) [(D.v (.int .u8 (IntKind.wrap .u8 y0_0))), (D.v (.int .u8 (0 : Int)))])]).bind fun d19 =>
 (rdB (some d19)).bind fun b20 =>
 cond (!b20)
 (some (D.v (.bool false)))
 ((sp4 [(D.list 2 (some 2) [(D.v (.int .u8 (0 : Int))), (D.v (.int .u8 (IntKind.wrap .u8 y0_0)))])]).bind fun d21 =>
 (rdB (some d21)).bind fun b22 =>
 cond (!b22)
 (some (D.v (.bool false)))
 ((sp4 [(D.list 2 (some 2) [(D.v (.int .u8 (255 : Int))), (D.v (.int .u8 (IntKind.wrap .u8 y0_0)))])]).bind fun d23 =>
 (rdB (some d23)).bind fun b24 =>
 cond (!b24)
 (some (D.v (.bool false)))
 (F5_5_j3 m n0 y0_0 (IntKind.wrap .u8 y0_0))))))
 (F5_5_8 m m (1 : Int) (0 : Int))) := by kernel_rfl
noncomputable def F5 (m : Nat)  : Option D :=
 F5_5_2 m m (0 : Int)
theorem F5_eq (m : Nat)  : funD Tryd.prog H5 m 3 fh5_5 Tryd.f5 [] = F5 m  := by kernel_rfl
theorem en5 : Enters Tryd.prog 5 := ⟨Tryd.f5, Tryd.func5, by kernel_rfl, by kernel_rfl⟩
theorem dt5 {ds : List D} {d : D} (h : funD Tryd.prog H5 M 3 fh5_5 Tryd.f5 ds = some d) : DataSem Tryd.prog 5 ds d := data_sound (H := H5) (SpOk.cons ds3 (SpOk.cons ds4 (SpOk.cons ds22 (SpOk.cons ds27 (SpOk.cons ds33 (SpOk.cons ds35 (SpOk.cons ds36 (SpOk.cons ds37 (SpOk.cons ds38 SpOk.nil))))))))) mixed InlOk.nil Tryd.func5 en5 h
noncomputable def sp5 : List D → Option D
  | [] => F5 M 
  | _ => none
theorem ds5 : ∀ ds d, sp5 ds = some d → DataSem Tryd.prog 5 ds d := by
  intro ds d h
  unfold sp5 at h
  split at h
  · exact dt5 ((F5_eq M ).trans h)
  · cases h

end Go.Ev
