/- Functions of the given program in plain form, printed: each with the proof that it is what the evaluator comes to, and that the program function returns what it says. No conditions. -/
import Derived.Test.YtkefahdbckjajaaGreatDoorEzG4
set_option linter.unusedVariables false
set_option maxRecDepth 100000
namespace Go.Ev
open Go Go.Proofs

-- ('str', '"vidimus/vidimusref26.Under"')
def Zx : FnH := ⟨[(3, ⟨(bm 102 31), [(5, 1)], (some 2)⟩)], [(4, ⟨(bm 102 31), [], (some 3)⟩)]⟩
noncomputable def Z1d : Hints := ⟨[(34, Z4n), (44, Z6f)], [], []⟩
noncomputable def Z4y (m n0 : Nat) (y0_0 : Int) (y0_1 : Nat) (y0_2 : Int) (y0_3 : Nat) (y0_4 : Option Nat) (y0_5 : List D) (y0_6 : Nat) (y0_7 : List D) : Option D :=
 loopIter (bm 102 31) 0 2 (codeK Tryz.prog Z1d.sp ⟨0, [], false, []⟩ (inlK Tryz.prog Z1d m 4) m Zx (subc [1, 1, 0, 1, 0, 0] (bodyOf Tryz.f22))) n0 ⟨[.junk, (AV.d (D.v (.int .i64 y0_0))), (AV.ptr 0 0), .junk, .junk, (AV.sl 1 0 y0_1 none 1), (AV.d (D.v (.int .i64 y0_2))), .junk, .junk, .junk, .junk, .junk, .junk, .junk, .junk, .junk, .junk, .junk, .junk, .junk, .junk, .junk, .junk, .junk, .junk, .junk, .junk, .junk, .junk, .junk, .junk], [(Blk.d 1 [(D.list y0_3 y0_4 y0_5)]), (Blk.d y0_6 y0_7)]⟩
  (contK Tryz.prog Z1d.sp ⟨0, [], false, []⟩ (inlK Tryz.prog Z1d m 4) m Zx (endK Tryz.prog Tryz.f22 (fun v L => viewK L 8 v some)) [.block 0, .code (subc [1, 1, 1] (bodyOf Tryz.f22))])
noncomputable def Zhf (m n0 : Nat) (u0_0 : Int) (u0_1 : Nat) (u0_2 : Int) (u0_3 : Nat) (u0_4 : Option Nat) (u0_5 : List D) (u0_6 : Nat) (u0_7 : List D) (u0_8 : Int) : Option D :=
 cutK m (codeK Tryz.prog Z1d.sp ⟨0, [], false, []⟩ (inlK Tryz.prog Z1d m 4) m Zx (subc [1, 1, 0, 1, 0, 0, 1, 1] (bodyOf Tryz.f22)) ⟨[.junk, (AV.d (D.v (.int .i64 u0_0))), (AV.ptr 0 0), .junk, .junk, (AV.sl 1 0 u0_1 none 1), (AV.d (D.v (.int .i64 u0_2))), .junk, .junk, .junk, .junk, .junk, .junk, .junk, .junk, .junk, .junk, .junk, .junk, .junk, .junk, .junk, .junk, .junk, .junk, .junk, .junk, .junk, .junk, .junk, .junk], [(Blk.d 1 [(D.list u0_3 u0_4 u0_5)]), (Blk.d u0_6 u0_7), (Blk.d 1 [(D.v (.int .i64 u0_8))])]⟩
  (contK Tryz.prog Z1d.sp ⟨0, [], false, []⟩ (inlK Tryz.prog Z1d m 4) m Zx (endK Tryz.prog Tryz.f22 (fun v L => viewK L 8 v some)) [.loop (bm 102 31) 2 (subc [1, 1, 0, 1, 0, 0] (bodyOf Tryz.f22)) n0, .block 0, .code (subc [1, 1, 1] (bodyOf Tryz.f22))]))
theorem Zmh (m n0 : Nat) (u0_0 : Int) (u0_1 : Nat) (u0_2 : Int) (u0_3 : Nat) (u0_4 : Option Nat) (u0_5 : List D) (u0_6 : Nat) (u0_7 : List D) (u0_8 : Int) : Zhf m n0 u0_0 u0_1 u0_2 u0_3 u0_4 u0_5 u0_6 u0_7 u0_8 =
 (Z4y m n0 u0_0 u0_1 (IntKind.wrap .i64 (u0_2 + (1 : Int))) u0_3 u0_4 u0_5 u0_6 u0_7) := (cutK_eq m _).trans (by kernel_rfl)
noncomputable def Z8c (m n0 : Nat) (u1_0 : Int) (u1_1 : Nat) (u1_2 : Int) (u1_3 : Nat) (u1_4 : Option Nat) (u1_5 : List D) (u1_6 : Nat) (u1_7 : List D) : Option D :=
 cutK m (codeK Tryz.prog Z1d.sp ⟨0, [], false, []⟩ (inlK Tryz.prog Z1d m 4) m Zx (subc [1, 1, 0, 1, 0, 0, 1, 1] (bodyOf Tryz.f22)) ⟨[.junk, (AV.d (D.v (.int .i64 u1_0))), (AV.ptr 0 0), .junk, .junk, (AV.sl 1 0 u1_1 none 1), (AV.d (D.v (.int .i64 u1_2))), .junk, .junk, .junk, .junk, .junk, .junk, .junk, .junk, .junk, .junk, .junk, .junk, .junk, .junk, .junk, .junk, .junk, .junk, .junk, .junk, .junk, .junk, .junk, .junk], [(Blk.d 1 [(D.list u1_3 u1_4 u1_5)]), (Blk.d u1_6 u1_7)]⟩
  (contK Tryz.prog Z1d.sp ⟨0, [], false, []⟩ (inlK Tryz.prog Z1d m 4) m Zx (endK Tryz.prog Tryz.f22 (fun v L => viewK L 8 v some)) [.loop (bm 102 31) 2 (subc [1, 1, 0, 1, 0, 0] (bodyOf Tryz.f22)) n0, .block 0, .code (subc [1, 1, 1] (bodyOf Tryz.f22))]))
theorem Zdg (m n0 : Nat) (u1_0 : Int) (u1_1 : Nat) (u1_2 : Int) (u1_3 : Nat) (u1_4 : Option Nat) (u1_5 : List D) (u1_6 : Nat) (u1_7 : List D) : Z8c m n0 u1_0 u1_1 u1_2 u1_3 u1_4 u1_5 u1_6 u1_7 =
 (Z4y m n0 u1_0 u1_1 (IntKind.wrap .i64 (u1_2 + (1 : Int))) u1_3 u1_4 u1_5 u1_6 u1_7) := (cutK_eq m _).trans (by kernel_rfl)
theorem Znr (m n0 : Nat) (y0_0 : Int) (y0_1 : Nat) (y0_2 : Int) (y0_3 : Nat) (y0_4 : Option Nat) (y0_5 : List D) (y0_6 : Nat) (y0_7 : List D) : Z4y m (n0 + 1) y0_0 y0_1 y0_2 y0_3 y0_4 y0_5 y0_6 y0_7 =
 (cond (decide (y0_2 < ((y0_3 : Nat) : Int)))
 ((Z4n [(D.agg [(D.list y0_3 y0_4 y0_5)]), (D.v (.int .i64 y0_2))]).bind fun d9 =>
 (rdI .i64 (some d9)).bind fun x10 =>
 cond (decide (x10 < y0_0))
 ((Z6f [(D.agg [(D.list y0_3 y0_4 y0_5)]), (D.v (.int .i64 y0_2))]).bind fun d11 =>
 (rdL (some d11)).bind fun q12 =>
 cond (((q12.n : Nat) : Int) == (0 : Int))
 (if ownB ⟨0, [], false, []⟩ 1 = true ∧ y0_6 = (y0_1 * 1) ∧ fitsRow (y0_1 + 1) 8 ∧ 1 = 1 then
 Zhf m n0 y0_0 (y0_1 + 1) y0_2 y0_3 y0_4 y0_5 ((y0_1 + 1) * 1) (y0_7 ++ [(D.v (.int .i64 y0_2))]) y0_2
 else none)
 (Z8c m n0 y0_0 y0_1 y0_2 y0_3 y0_4 y0_5 y0_6 y0_7))
 (Z8c m n0 y0_0 y0_1 y0_2 y0_3 y0_4 y0_5 y0_6 y0_7))
 (if (0 + (y0_1 * 1)) ≤ y0_6 then
 some (D.list y0_1 none (cutL y0_6 y0_7 0 (y0_1 * 1)))
 else none)) := by kernel_rfl
noncomputable def Zb8 (m : Nat) (a0_0n : Nat) (a0_0c : Option Nat) (a0_0 : List D) (a1 : Int) : Option D :=
 Z4y m m a1 0 (0 : Int) a0_0n a0_0c a0_0 0 []
theorem Zo7 (m : Nat) (a0_0n : Nat) (a0_0c : Option Nat) (a0_0 : List D) (a1 : Int) : funD Tryz.prog Z1d m 4 Zx Tryz.f22 [(D.agg [(D.list a0_0n a0_0c a0_0)]), (D.v (.int .i64 a1))] = Zb8 m a0_0n a0_0c a0_0 a1 := by kernel_rfl
theorem Zqo : Enters Tryz.prog 22 := ⟨Tryz.f22, Tryz.func22, by kernel_rfl, by kernel_rfl⟩
theorem Zqp {ds : List D} {d : D} (h : funD Tryz.prog Z1d M 4 Zx Tryz.f22 ds = some d) : DataSem Tryz.prog 22 ds d := data_sound (H := Z1d) (SpOk.cons Zos (SpOk.cons Zr8 SpOk.nil)) mixed InlOk.nil Tryz.func22 Zqo h
noncomputable def Z18 : List D → Option D
  | [.agg [.list a0_0n a0_0c a0_0], .v (.int .i64 a1)] => Zb8 M a0_0n a0_0c a0_0 a1
  | _ => none
theorem Zqq : ∀ ds d, Z18 ds = some d → DataSem Tryz.prog 22 ds d := by
  intro ds d h
  unfold Z18 at h
  split at h
  · exact Zqp ((Zo7 M _ _ _ _).trans h)
  · cases h

-- ('str', '"vidimus/vidimusref27.Prune"')
end Go.Ev
