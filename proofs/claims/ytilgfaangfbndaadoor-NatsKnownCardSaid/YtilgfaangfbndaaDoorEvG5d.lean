/- Functions of the given program in plain form, printed: each with the proof that it is what the evaluator comes to, and that the program function returns what it says. No conditions. -/
import Derived.Test.YtilgfaangfbndaaDoorEvG5c
set_option linter.unusedVariables false
set_option maxRecDepth 100000
namespace Go.Ev
open Go Go.Proofs

-- ('str', '"vidimus/vidimusref01.Check"')
def fh43_43 : FnH := ⟨[], []⟩
noncomputable def H43 : Hints := ⟨[], []⟩
noncomputable def F43 (m : Nat) (a0n : Nat) (a0c : Option Nat) (a0 : List D) : Option D :=
 cond (decide (((a0n : Nat) : Int) > (64 : Int)))
 (some (D.v (.int .i64 (3 : Int))))
 (cond (decide (((a0n : Nat) : Int) > (0 : Int)))
 (if 0 ≤ (0 : Int) ∧ (0 : Int) < ((a0n : Nat) : Int) then
 (rdI .u8 a0[0]?).bind fun x1 =>
 cond (x1 == (0 : Int))
 (some (D.v (.int .i64 (11 : Int))))
 (some (D.v (.int .i64 (0 : Int))))
 else none)
 (some (D.v (.int .i64 (0 : Int)))))
theorem F43_eq (m : Nat) (a0n : Nat) (a0c : Option Nat) (a0 : List D) : funD Tryd.prog H43 m 3 fh43_43 Tryd.f43 [(D.list a0n a0c a0)] = F43 m a0n a0c a0 := by kernel_rfl
theorem en43 : Enters Tryd.prog 43 := ⟨Tryd.f43, Tryd.func43, by kernel_rfl, by kernel_rfl⟩
theorem dt43 {ds : List D} {d : D} (h : funD Tryd.prog H43 M 3 fh43_43 Tryd.f43 ds = some d) : DataSem Tryd.prog 43 ds d := data_sound (H := H43) SpOk.nil mixed InlOk.nil Tryd.func43 en43 h
noncomputable def sp43 : List D → Option D
  | [.list a0n a0c a0] => F43 M a0n a0c a0
  | _ => none
theorem ds43 : ∀ ds d, sp43 ds = some d → DataSem Tryd.prog 43 ds d := by
  intro ds d h
  unfold sp43 at h
  split at h
  · exact dt43 ((F43_eq M _ _ _).trans h)
  · cases h

-- ('str', '"vidimus/vidimusref05.Wrong"')
def fh44_44 : FnH := ⟨[], []⟩
noncomputable def H44 : Hints := ⟨[], []⟩
noncomputable def F44 (m : Nat) (a0_0 : Int) (a0_1 : Bool) (a0_2 : Int) (a0_3n : Nat) (a0_3c : Option Nat) (a0_3 : List D) (a0_4n : Nat) (a0_4c : Option Nat) (a0_4 : List D) (a1 : Int) : Option D :=
 (cellsEq [.int, .bool, .int] [(D.v (.int .u8 a0_0)), (D.v (.bool a0_1)), (D.v (.int .u32 a0_2))] [(D.v (.int .u8 (0 : Int))), (D.v (.bool false)), (D.v (.int .u32 a1))]).bind fun b1 =>
 cond (!b1)
 (some (D.v (.int .i64 (9 : Int))))
 (cond (decide (((a0_4n : Nat) : Int) > (0 : Int)))
 (some (D.v (.int .i64 (1 : Int))))
 (some (D.v (.int .i64 (0 : Int)))))
theorem F44_eq (m : Nat) (a0_0 : Int) (a0_1 : Bool) (a0_2 : Int) (a0_3n : Nat) (a0_3c : Option Nat) (a0_3 : List D) (a0_4n : Nat) (a0_4c : Option Nat) (a0_4 : List D) (a1 : Int) : funD Tryd.prog H44 m 3 fh44_44 Tryd.f44 [(D.agg [(D.v (.int .u8 a0_0)), (D.v (.bool a0_1)), (D.v (.int .u32 a0_2)), (D.list a0_3n a0_3c a0_3), (D.list a0_4n a0_4c a0_4)]), (D.v (.int .u32 a1))] = F44 m a0_0 a0_1 a0_2 a0_3n a0_3c a0_3 a0_4n a0_4c a0_4 a1 := by kernel_rfl
theorem en44 : Enters Tryd.prog 44 := ⟨Tryd.f44, Tryd.func44, by kernel_rfl, by kernel_rfl⟩
theorem dt44 {ds : List D} {d : D} (h : funD Tryd.prog H44 M 3 fh44_44 Tryd.f44 ds = some d) : DataSem Tryd.prog 44 ds d := data_sound (H := H44) SpOk.nil mixed InlOk.nil Tryd.func44 en44 h
noncomputable def sp44 : List D → Option D
  | [.agg [.v (.int .u8 a0_0), .v (.bool a0_1), .v (.int .u32 a0_2), .list a0_3n a0_3c a0_3, .list a0_4n a0_4c a0_4], .v (.int .u32 a1)] => F44 M a0_0 a0_1 a0_2 a0_3n a0_3c a0_3 a0_4n a0_4c a0_4 a1
  | _ => none
theorem ds44 : ∀ ds d, sp44 ds = some d → DataSem Tryd.prog 44 ds d := by
  intro ds d h
  unfold sp44 at h
  split at h
  · exact dt44 ((F44_eq M _ _ _ _ _ _ _ _ _ _).trans h)
  · cases h

-- ('str', '"vidimus/vidimuslaw05.ScalarsErrors"')
def fh7_7 : FnH := ⟨[], [(3, ⟨[true, false, false, true, false, false, false, false, false, false, false, false, false, false, false, false, false, false, false, false, false, false, false, false, false, false, false, false, false, false, false, false, false, false, false, false, false, false, false, false, false, false, false, false, false, false, false, false, false, false, false, false, false, false, false, false, false, false, false, false, false, false, false, false, false, false, false, false, false, false, false, false, false, false, false, false, false, false, false, false, false, false, false, false, false, false, false, false, false, false, false, false, false, false, false, false, false, false, false, false, false, false, false, false, false, false, false, false, false, false, false, false, false, false, false, false, false, false, false, false, false, false, false, false, false, false, false, false, false, false, false, false, false, false, false, false, false, false, false, false, false, false, false, false, false, false, false, false, false, false, false, false, false, false, false, false, false, false, false, false, false, false, false, false, false, false, false, false, false, false, false, false, false, false, false, false, false, false, false, false, false], [], (some 1)⟩), (9, ⟨[false, false, false, true, false, false, false, false, false, false, false, false, false, false, false, false, false, false, false, false, false, false, false, false, false, false, false, false, false, false, false, false, false, false, false, false, false, false, false, false, false, false, false, false, false, false, false, false, false, false, false, false, false, false, false, false, false, false, false, false, false, false, false, false, false, false, false, false, false, false, false, false, false, false, false, false, false, false, false, false, false, false, false, false, false, false, false, false, false, false, false, false, false, false, false, false, false, false, false, false, false, false, false, false, false, false, false, false, false, false, false, false, false, false, false, false, false, false, false, false, false, false, false, false, false, false, false, false, false, false, false, false, false, false, false, false, false, false, false, false, false, false, false, false, false, false, false, false, false, false, false, false, false, false, false, false, false, false, false, false, false, false, false, false, false, false, false, false, false, false, false, false, false, false, false, false, false, false, false, false, false], [], (some 1)⟩), (14, ⟨[false, false, false, true, false, false, false, false, false, false, true, true, true, true, false, false, false, false, false, false, false, false, false, false, false, false, false, false, false, false, false, false, false, false, false, false, false, false, false, false, false, false, false, false, false, false, false, false, false, false, false, false, false, false, false, false, false, false, false, false, false, false, false, false, false, false, false, false, false, false, false, false, false, false, false, false, false, false, false, false, false, false, false, false, false, false, false, false, false, false, false, false, false, false, false, false, false, false, false, false, false, false, false, false, false, false, false, false, false, false, false, false, false, false, false, false, false, false, false, false, false, false, false, false, false, false, false, false, false, false, false, false, false, false, false, false, false, false, false, false, false, false, false, false, false, false, false, false, false, false, false, false, false, false, false, false, false, false, false, false, false, false, false, false, false, false, false, false, false, false, false, false, false, false, false, false, false, false, false, false, false], [], (some 1)⟩), (16, ⟨[false, false, false, true, false, false, false, false, false, false, false, false, false, false, false, false, false, false, false, false, false, false, false, false, false, false, false, false, false, false, false, false, false, false, false, false, false, false, false, false, false, false, false, false, false, false, false, false, false, false, false, false, false, false, false, false, false, false, false, false, false, false, false, false, false, false, false, false, false, false, false, false, false, false, false, false, false, false, false, false, false, false, false, false, false, false, false, false, false, false, false, false, false, false, false, false, false, false, false, false, false, false, false, false, false, false, false, false, false, false, false, false, false, false, false, false, false, false, false, false, false, false, false, false, false, false, false, false, false, false, false, false, false, false, false, false, false, false, false, false, false, false, false, false, false, false, false, false, false, false, false, false, false, false, false, false, false, false, false, false, false, false, false, false, false, false, false, false, false, false, false, false, false, false, false, false, false, false, false, false, false], [], (some 1)⟩), (23, ⟨[false, false, false, true, false, false, false, false, false, false, false, true, false, true, false, true, true, true, true, false, false, false, false, false, false, false, false, false, false, false, false, false, false, false, false, false, false, false, false, false, false, false, false, false, false, false, false, false, false, false, false, false, false, false, false, false, false, false, false, false, false, false, false, false, false, false, false, false, false, false, false, false, false, false, false, false, false, false, false, false, false, false, false, false, false, false, false, false, false, false, false, false, false, false, false, false, false, false, false, false, false, false, false, false, false, false, false, false, false, false, false, false, false, false, false, false, false, false, false, false, false, false, false, false, false, false, false, false, false, false, false, false, false, false, false, false, false, false, false, false, false, false, false, false, false, false, false, false, false, false, false, false, false, false, false, false, false, false, false, false, false, false, false, false, false, false, false, false, false, false, false, false, false, false, false, false, false, false, false, false, false], [], (some 1)⟩), (26, ⟨[false, false, false, true, false, false, false, false, false, false, false, false, false, false, false, false, false, false, false, false, false, false, false, false, false, false, false, false, false, false, false, false, false, false, false, false, false, false, false, false, false, false, false, false, false, false, false, false, false, false, false, false, false, false, false, false, false, false, false, false, false, false, false, false, false, false, false, false, false, false, false, false, false, false, false, false, false, false, false, false, false, false, false, false, false, false, false, false, false, false, false, false, false, false, false, false, false, false, false, false, false, false, false, false, false, false, false, false, false, false, false, false, false, false, false, false, false, false, false, false, false, false, false, false, false, false, false, false, false, false, false, false, false, false, false, false, false, false, false, false, false, false, false, false, false, false, false, false, false, false, false, false, false, false, false, false, false, false, false, false, false, false, false, false, false, false, false, false, false, false, false, false, false, false, false, false, false, false, false, false, false], [], (some 1)⟩), (31, ⟨[false, false, false, true, false, false, false, false, false, false, false, true, false, true, false, true, true, false, false, false, false, false, false, false, false, false, false, false, false, false, false, false, false, false, false, false, false, false, false, false, false, false, false, false, false, false, false, false, false, false, false, false, false, false, false, false, false, false, false, false, false, false, false, false, false, false, false, false, false, false, false, false, false, false, false, false, false, false, false, false, false, false, false, false, false, false, false, false, false, false, false, false, false, false, false, false, false, false, false, false, false, false, false, false, false, false, false, false, false, false, false, false, false, false, false, false, false, false, false, false, false, false, false, false, false, false, false, false, false, false, false, false, false, false, false, false, false, false, false, false, false, false, false, false, false, false, false, false, false, false, false, false, false, false, false, false, false, false, false, false, false, false, false, false, false, false, false, false, false, false, false, false, false, false, false, false, false, false, false, false, false], [], (some 1)⟩), (34, ⟨[false, false, false, true, false, false, false, false, false, false, false, true, false, true, false, true, true, false, false, false, false, false, false, true, false, false, false, false, false, false, false, false, false, false, false, false, false, false, false, false, false, false, false, false, false, false, false, false, false, false, false, false, false, false, false, false, false, false, false, false, false, false, false, false, false, false, false, false, false, false, false, false, false, false, false, false, false, false, false, false, false, false, false, false, false, false, false, false, false, false, false, false, false, false, false, false, false, false, false, false, false, false, false, false, false, false, false, false, false, false, false, false, false, false, false, false, false, false, false, false, false, false, false, false, false, false, false, false, false, false, false, false, false, false, false, false, false, false, false, false, false, false, false, false, false, false, false, false, false, false, false, false, false, false, false, false, false, false, false, false, false, false, false, false, false, false, false, false, false, false, false, false, false, false, false, false, false, false, false, false, false], [], (some 1)⟩)]⟩
noncomputable def H7 : Hints := ⟨[(20, sp20), (25, sp25), (26, sp26), (27, sp27), (29, sp29), (31, sp31), (32, sp32), (34, sp34), (35, sp35), (38, sp38), (41, sp41), (42, sp42), (43, sp43), (44, sp44)], []⟩
noncomputable def F7_7_j3 (m : Nat) (u0_0 : Nat) (u0_1 : Option Nat) (u0_2 : List D) (u0_3 : Int) (u0_4 : Bool) (u0_5 : Int) (u0_6 : Nat) (u0_7 : Option Nat) (u0_8 : List D) (u0_9 : Nat) (u0_10 : Option Nat) (u0_11 : List D) : Option D :=
 cutK (codeK Tryd.prog H7.sp 0 (inlK Tryd.prog H7 m 3) m fh7_7 (subc [1, 1] (bodyOf Tryd.f7)) ⟨[(AV.d (D.list u0_0 u0_1 u0_2)), .junk, .junk, (AV.ptr 0 0), .junk, .junk, .junk, .junk, .junk, .junk, .junk, .junk, .junk, .junk, .junk, .junk, .junk, .junk, .junk, .junk, .junk, .junk, .junk, .junk, .junk, .junk, .junk, .junk, .junk, .junk, .junk, .junk, .junk, .junk, .junk, .junk, .junk, .junk, .junk, .junk, .junk, .junk, .junk, .junk, .junk, .junk, .junk, .junk, .junk, .junk, .junk, .junk, .junk, .junk, .junk, .junk, .junk, .junk, .junk, .junk, .junk, .junk, .junk, .junk, .junk, .junk, .junk, .junk, .junk, .junk, .junk, .junk, .junk, .junk, .junk, .junk, .junk, .junk, .junk, .junk, .junk, .junk, .junk, .junk, .junk, .junk, .junk, .junk, .junk, .junk, .junk, .junk, .junk, .junk, .junk, .junk, .junk, .junk, .junk, .junk, .junk, .junk, .junk, .junk, .junk, .junk, .junk, .junk, .junk, .junk, .junk, .junk, .junk, .junk, .junk, .junk, .junk, .junk, .junk, .junk, .junk, .junk, .junk, .junk, .junk, .junk, .junk, .junk, .junk, .junk, .junk, .junk, .junk, .junk, .junk, .junk, .junk, .junk, .junk, .junk, .junk, .junk, .junk, .junk, .junk, .junk, .junk, .junk, .junk, .junk, .junk, .junk, .junk, .junk, .junk, .junk, .junk, .junk, .junk, .junk, .junk, .junk, .junk, .junk, .junk, .junk, .junk, .junk, .junk, .junk, .junk, .junk, .junk, .junk, .junk, .junk, .junk, .junk, .junk, .junk, .junk], [(Blk.d 5 [(D.v (.int .u8 u0_3)), (D.v (.bool u0_4)), (D.v (.int .u32 u0_5)), (D.list u0_6 u0_7 u0_8), (D.list u0_9 u0_10 u0_11)])]⟩
  (contK Tryd.prog H7.sp 0 (inlK Tryd.prog H7 m 3) m fh7_7 (endK Tryd.prog Tryd.f7 (fun v L => viewK L 8 v some)) []))
noncomputable def F7_7_j9 (m : Nat) (u1_0 : Int) (u1_1 : Bool) (u1_2 : Int) (u1_3 : Nat) (u1_4 : Option Nat) (u1_5 : List D) (u1_6 : Nat) (u1_7 : Option Nat) (u1_8 : List D) : Option D :=
 cutK (codeK Tryd.prog H7.sp 0 (inlK Tryd.prog H7 m 3) m fh7_7 (subc [1, 1, 1] (bodyOf Tryd.f7)) ⟨[.junk, .junk, .junk, (AV.ptr 0 0), .junk, .junk, .junk, .junk, .junk, .junk, .junk, .junk, .junk, .junk, .junk, .junk, .junk, .junk, .junk, .junk, .junk, .junk, .junk, .junk, .junk, .junk, .junk, .junk, .junk, .junk, .junk, .junk, .junk, .junk, .junk, .junk, .junk, .junk, .junk, .junk, .junk, .junk, .junk, .junk, .junk, .junk, .junk, .junk, .junk, .junk, .junk, .junk, .junk, .junk, .junk, .junk, .junk, .junk, .junk, .junk, .junk, .junk, .junk, .junk, .junk, .junk, .junk, .junk, .junk, .junk, .junk, .junk, .junk, .junk, .junk, .junk, .junk, .junk, .junk, .junk, .junk, .junk, .junk, .junk, .junk, .junk, .junk, .junk, .junk, .junk, .junk, .junk, .junk, .junk, .junk, .junk, .junk, .junk, .junk, .junk, .junk, .junk, .junk, .junk, .junk, .junk, .junk, .junk, .junk, .junk, .junk, .junk, .junk, .junk, .junk, .junk, .junk, .junk, .junk, .junk, .junk, .junk, .junk, .junk, .junk, .junk, .junk, .junk, .junk, .junk, .junk, .junk, .junk, .junk, .junk, .junk, .junk, .junk, .junk, .junk, .junk, .junk, .junk, .junk, .junk, .junk, .junk, .junk, .junk, .junk, .junk, .junk, .junk, .junk, .junk, .junk, .junk, .junk, .junk, .junk, .junk, .junk, .junk, .junk, .junk, .junk, .junk, .junk, .junk, .junk, .junk, .junk, .junk, .junk, .junk, .junk, .junk, .junk, .junk, .junk, .junk], [(Blk.d 5 [(D.v (.int .u8 u1_0)), (D.v (.bool u1_1)), (D.v (.int .u32 u1_2)), (D.list u1_3 u1_4 u1_5), (D.list u1_6 u1_7 u1_8)])]⟩
  (contK Tryd.prog H7.sp 0 (inlK Tryd.prog H7 m 3) m fh7_7 (endK Tryd.prog Tryd.f7 (fun v L => viewK L 8 v some)) []))
noncomputable def F7_7_j14 (m : Nat) (u2_0 : Bool) (u2_1 : Int) (u2_2 : Bool) (u2_3 : Int) (u2_4 : Int) (u2_5 : Bool) (u2_6 : Int) (u2_7 : Nat) (u2_8 : Option Nat) (u2_9 : List D) (u2_10 : Nat) (u2_11 : Option Nat) (u2_12 : List D) : Option D :=
 cutK (codeK Tryd.prog H7.sp 0 (inlK Tryd.prog H7 m 3) m fh7_7 (subc [1, 1, 1, 1, 1, 1] (bodyOf Tryd.f7)) ⟨[.junk, .junk, .junk, (AV.ptr 0 0), .junk, .junk, .junk, .junk, .junk, .junk, (AV.d (D.v (.bool u2_0))), (AV.d (D.v (.int .i64 u2_1))), (AV.d (D.v (.bool u2_2))), (AV.d (D.v (.int .i64 u2_3))), .junk, .junk, .junk, .junk, .junk, .junk, .junk, .junk, .junk, .junk, .junk, .junk, .junk, .junk, .junk, .junk, .junk, .junk, .junk, .junk, .junk, .junk, .junk, .junk, .junk, .junk, .junk, .junk, .junk, .junk, .junk, .junk, .junk, .junk, .junk, .junk, .junk, .junk, .junk, .junk, .junk, .junk, .junk, .junk, .junk, .junk, .junk, .junk, .junk, .junk, .junk, .junk, .junk, .junk, .junk, .junk, .junk, .junk, .junk, .junk, .junk, .junk, .junk, .junk, .junk, .junk, .junk, .junk, .junk, .junk, .junk, .junk, .junk, .junk, .junk, .junk, .junk, .junk, .junk, .junk, .junk, .junk, .junk, .junk, .junk, .junk, .junk, .junk, .junk, .junk, .junk, .junk, .junk, .junk, .junk, .junk, .junk, .junk, .junk, .junk, .junk, .junk, .junk, .junk, .junk, .junk, .junk, .junk, .junk, .junk, .junk, .junk, .junk, .junk, .junk, .junk, .junk, .junk, .junk, .junk, .junk, .junk, .junk, .junk, .junk, .junk, .junk, .junk, .junk, .junk, .junk, .junk, .junk, .junk, .junk, .junk, .junk, .junk, .junk, .junk, .junk, .junk, .junk, .junk, .junk, .junk, .junk, .junk, .junk, .junk, .junk, .junk, .junk, .junk, .junk, .junk, .junk, .junk, .junk, .junk, .junk, .junk, .junk, .junk, .junk, .junk, .junk], [(Blk.d 5 [(D.v (.int .u8 u2_4)), (D.v (.bool u2_5)), (D.v (.int .u32 u2_6)), (D.list u2_7 u2_8 u2_9), (D.list u2_10 u2_11 u2_12)])]⟩
  (contK Tryd.prog H7.sp 0 (inlK Tryd.prog H7 m 3) m fh7_7 (endK Tryd.prog Tryd.f7 (fun v L => viewK L 8 v some)) []))
noncomputable def F7_7_j16 (m : Nat) (u3_0 : Int) (u3_1 : Bool) (u3_2 : Int) (u3_3 : Nat) (u3_4 : Option Nat) (u3_5 : List D) (u3_6 : Nat) (u3_7 : Option Nat) (u3_8 : List D) : Option D :=
 cutK (codeK Tryd.prog H7.sp 0 (inlK Tryd.prog H7 m 3) m fh7_7 (subc [1, 1, 1, 1, 1, 1, 1] (bodyOf Tryd.f7)) ⟨[.junk, .junk, .junk, (AV.ptr 0 0), .junk, .junk, .junk, .junk, .junk, .junk, .junk, .junk, .junk, .junk, .junk, .junk, .junk, .junk, .junk, .junk, .junk, .junk, .junk, .junk, .junk, .junk, .junk, .junk, .junk, .junk, .junk, .junk, .junk, .junk, .junk, .junk, .junk, .junk, .junk, .junk, .junk, .junk, .junk, .junk, .junk, .junk, .junk, .junk, .junk, .junk, .junk, .junk, .junk, .junk, .junk, .junk, .junk, .junk, .junk, .junk, .junk, .junk, .junk, .junk, .junk, .junk, .junk, .junk, .junk, .junk, .junk, .junk, .junk, .junk, .junk, .junk, .junk, .junk, .junk, .junk, .junk, .junk, .junk, .junk, .junk, .junk, .junk, .junk, .junk, .junk, .junk, .junk, .junk, .junk, .junk, .junk, .junk, .junk, .junk, .junk, .junk, .junk, .junk, .junk, .junk, .junk, .junk, .junk, .junk, .junk, .junk, .junk, .junk, .junk, .junk, .junk, .junk, .junk, .junk, .junk, .junk, .junk, .junk, .junk, .junk, .junk, .junk, .junk, .junk, .junk, .junk, .junk, .junk, .junk, .junk, .junk, .junk, .junk, .junk, .junk, .junk, .junk, .junk, .junk, .junk, .junk, .junk, .junk, .junk, .junk, .junk, .junk, .junk, .junk, .junk, .junk, .junk, .junk, .junk, .junk, .junk, .junk, .junk, .junk, .junk, .junk, .junk, .junk, .junk, .junk, .junk, .junk, .junk, .junk, .junk, .junk, .junk, .junk, .junk, .junk, .junk], [(Blk.d 5 [(D.v (.int .u8 u3_0)), (D.v (.bool u3_1)), (D.v (.int .u32 u3_2)), (D.list u3_3 u3_4 u3_5), (D.list u3_6 u3_7 u3_8)])]⟩
  (contK Tryd.prog H7.sp 0 (inlK Tryd.prog H7 m 3) m fh7_7 (endK Tryd.prog Tryd.f7 (fun v L => viewK L 8 v some)) []))
noncomputable def F7_7_j23 (m : Nat) (u4_0 : Int) (u4_1 : Int) (u4_2 : Int) (u4_3 : Int) (u4_4 : Nat) (u4_5 : Option Nat) (u4_6 : List D) (u4_7 : Int) (u4_8 : Int) (u4_9 : Bool) (u4_10 : Int) (u4_11 : Nat) (u4_12 : Option Nat) (u4_13 : List D) (u4_14 : Nat) (u4_15 : Option Nat) (u4_16 : List D) : Option D :=
 cutK (codeK Tryd.prog H7.sp 0 (inlK Tryd.prog H7 m 3) m fh7_7 (subc [1, 1, 1, 1, 1, 1, 1, 1, 1, 1, 1] (bodyOf Tryd.f7)) ⟨[.junk, .junk, .junk, (AV.ptr 0 0), .junk, .junk, .junk, .junk, .junk, .junk, .junk, (AV.d (D.v (.int .i64 u4_0))), .junk, (AV.d (D.v (.int .i64 u4_1))), .junk, (AV.d (D.v (.int .i64 u4_2))), (AV.d (D.v (.int .i64 u4_3))), (AV.d (D.list u4_4 u4_5 u4_6)), (AV.d (D.v (.int .i64 u4_7))), .junk, .junk, .junk, .junk, .junk, .junk, .junk, .junk, .junk, .junk, .junk, .junk, .junk, .junk, .junk, .junk, .junk, .junk, .junk, .junk, .junk, .junk, .junk, .junk, .junk, .junk, .junk, .junk, .junk, .junk, .junk, .junk, .junk, .junk, .junk, .junk, .junk, .junk, .junk, .junk, .junk, .junk, .junk, .junk, .junk, .junk, .junk, .junk, .junk, .junk, .junk, .junk, .junk, .junk, .junk, .junk, .junk, .junk, .junk, .junk, .junk, .junk, .junk, .junk, .junk, .junk, .junk, .junk, .junk, .junk, .junk, .junk, .junk, .junk, .junk, .junk, .junk, .junk, .junk, .junk, .junk, .junk, .junk, .junk, .junk, .junk, .junk, .junk, .junk, .junk, .junk, .junk, .junk, .junk, .junk, .junk, .junk, .junk, .junk, .junk, .junk, .junk, .junk, .junk, .junk, .junk, .junk, .junk, .junk, .junk, .junk, .junk, .junk, .junk, .junk, .junk, .junk, .junk, .junk, .junk, .junk, .junk, .junk, .junk, .junk, .junk, .junk, .junk, .junk, .junk, .junk, .junk, .junk, .junk, .junk, .junk, .junk, .junk, .junk, .junk, .junk, .junk, .junk, .junk, .junk, .junk, .junk, .junk, .junk, .junk, .junk, .junk, .junk, .junk, .junk, .junk, .junk, .junk, .junk, .junk, .junk, .junk], [(Blk.d 5 [(D.v (.int .u8 u4_8)), (D.v (.bool u4_9)), (D.v (.int .u32 u4_10)), (D.list u4_11 u4_12 u4_13), (D.list u4_14 u4_15 u4_16)])]⟩
  (contK Tryd.prog H7.sp 0 (inlK Tryd.prog H7 m 3) m fh7_7 (endK Tryd.prog Tryd.f7 (fun v L => viewK L 8 v some)) []))
noncomputable def F7_7_j26 (m : Nat) (u5_0 : Int) (u5_1 : Bool) (u5_2 : Int) (u5_3 : Nat) (u5_4 : Option Nat) (u5_5 : List D) (u5_6 : Nat) (u5_7 : Option Nat) (u5_8 : List D) : Option D :=
 cutK (codeK Tryd.prog H7.sp 0 (inlK Tryd.prog H7 m 3) m fh7_7 (subc [1, 1, 1, 1, 1, 1, 1, 1, 1, 1, 1, 1, 1] (bodyOf Tryd.f7)) ⟨[.junk, .junk, .junk, (AV.ptr 0 0), .junk, .junk, .junk, .junk, .junk, .junk, .junk, .junk, .junk, .junk, .junk, .junk, .junk, .junk, .junk, .junk, .junk, .junk, .junk, .junk, .junk, .junk, .junk, .junk, .junk, .junk, .junk, .junk, .junk, .junk, .junk, .junk, .junk, .junk, .junk, .junk, .junk, .junk, .junk, .junk, .junk, .junk, .junk, .junk, .junk, .junk, .junk, .junk, .junk, .junk, .junk, .junk, .junk, .junk, .junk, .junk, .junk, .junk, .junk, .junk, .junk, .junk, .junk, .junk, .junk, .junk, .junk, .junk, .junk, .junk, .junk, .junk, .junk, .junk, .junk, .junk, .junk, .junk, .junk, .junk, .junk, .junk, .junk, .junk, .junk, .junk, .junk, .junk, .junk, .junk, .junk, .junk, .junk, .junk, .junk, .junk, .junk, .junk, .junk, .junk, .junk, .junk, .junk, .junk, .junk, .junk, .junk, .junk, .junk, .junk, .junk, .junk, .junk, .junk, .junk, .junk, .junk, .junk, .junk, .junk, .junk, .junk, .junk, .junk, .junk, .junk, .junk, .junk, .junk, .junk, .junk, .junk, .junk, .junk, .junk, .junk, .junk, .junk, .junk, .junk, .junk, .junk, .junk, .junk, .junk, .junk, .junk, .junk, .junk, .junk, .junk, .junk, .junk, .junk, .junk, .junk, .junk, .junk, .junk, .junk, .junk, .junk, .junk, .junk, .junk, .junk, .junk, .junk, .junk, .junk, .junk, .junk, .junk, .junk, .junk, .junk, .junk], [(Blk.d 5 [(D.v (.int .u8 u5_0)), (D.v (.bool u5_1)), (D.v (.int .u32 u5_2)), (D.list u5_3 u5_4 u5_5), (D.list u5_6 u5_7 u5_8)])]⟩
  (contK Tryd.prog H7.sp 0 (inlK Tryd.prog H7 m 3) m fh7_7 (endK Tryd.prog Tryd.f7 (fun v L => viewK L 8 v some)) []))
noncomputable def F7_7_j31 (m : Nat) (u6_0 : Int) (u6_1 : Int) (u6_2 : Int) (u6_3 : Int) (u6_4 : Int) (u6_5 : Bool) (u6_6 : Int) (u6_7 : Nat) (u6_8 : Option Nat) (u6_9 : List D) (u6_10 : Nat) (u6_11 : Option Nat) (u6_12 : List D) : Option D :=
 cutK (codeK Tryd.prog H7.sp 0 (inlK Tryd.prog H7 m 3) m fh7_7 (subc [1, 1, 1, 1, 1, 1, 1, 1, 1, 1, 1, 1, 1, 1, 1, 1] (bodyOf Tryd.f7)) ⟨[.junk, .junk, .junk, (AV.ptr 0 0), .junk, .junk, .junk, .junk, .junk, .junk, .junk, (AV.d (D.v (.int .i64 u6_0))), .junk, (AV.d (D.v (.int .i64 u6_1))), .junk, (AV.d (D.v (.int .i64 u6_2))), (AV.d (D.v (.int .i64 u6_3))), .junk, .junk, .junk, .junk, .junk, .junk, .junk, .junk, .junk, .junk, .junk, .junk, .junk, .junk, .junk, .junk, .junk, .junk, .junk, .junk, .junk, .junk, .junk, .junk, .junk, .junk, .junk, .junk, .junk, .junk, .junk, .junk, .junk, .junk, .junk, .junk, .junk, .junk, .junk, .junk, .junk, .junk, .junk, .junk, .junk, .junk, .junk, .junk, .junk, .junk, .junk, .junk, .junk, .junk, .junk, .junk, .junk, .junk, .junk, .junk, .junk, .junk, .junk, .junk, .junk, .junk, .junk, .junk, .junk, .junk, .junk, .junk, .junk, .junk, .junk, .junk, .junk, .junk, .junk, .junk, .junk, .junk, .junk, .junk, .junk, .junk, .junk, .junk, .junk, .junk, .junk, .junk, .junk, .junk, .junk, .junk, .junk, .junk, .junk, .junk, .junk, .junk, .junk, .junk, .junk, .junk, .junk, .junk, .junk, .junk, .junk, .junk, .junk, .junk, .junk, .junk, .junk, .junk, .junk, .junk, .junk, .junk, .junk, .junk, .junk, .junk, .junk, .junk, .junk, .junk, .junk, .junk, .junk, .junk, .junk, .junk, .junk, .junk, .junk, .junk, .junk, .junk, .junk, .junk, .junk, .junk, .junk, .junk, .junk, .junk, .junk, .junk, .junk, .junk, .junk, .junk, .junk, .junk, .junk, .junk, .junk, .junk, .junk, .junk], [(Blk.d 5 [(D.v (.int .u8 u6_4)), (D.v (.bool u6_5)), (D.v (.int .u32 u6_6)), (D.list u6_7 u6_8 u6_9), (D.list u6_10 u6_11 u6_12)])]⟩
  (contK Tryd.prog H7.sp 0 (inlK Tryd.prog H7 m 3) m fh7_7 (endK Tryd.prog Tryd.f7 (fun v L => viewK L 8 v some)) []))
noncomputable def F7_7_j34 (m : Nat) (u7_0 : Int) (u7_1 : Int) (u7_2 : Int) (u7_3 : Int) (u7_4 : Int) (u7_5 : Int) (u7_6 : Bool) (u7_7 : Int) (u7_8 : Nat) (u7_9 : Option Nat) (u7_10 : List D) (u7_11 : Nat) (u7_12 : Option Nat) (u7_13 : List D) : Option D :=
 cutK (codeK Tryd.prog H7.sp 0 (inlK Tryd.prog H7 m 3) m fh7_7 (subc [1, 1, 1, 1, 1, 1, 1, 1, 1, 1, 1, 1, 1, 1, 1, 1, 1, 1] (bodyOf Tryd.f7)) ⟨[.junk, .junk, .junk, (AV.ptr 0 0), .junk, .junk, .junk, .junk, .junk, .junk, .junk, (AV.d (D.v (.int .i64 u7_0))), .junk, (AV.d (D.v (.int .i64 u7_1))), .junk, (AV.d (D.v (.int .i64 u7_2))), (AV.d (D.v (.int .i64 u7_3))), .junk, .junk, .junk, .junk, .junk, .junk, (AV.d (D.v (.int .i64 u7_4))), .junk, .junk, .junk, .junk, .junk, .junk, .junk, .junk, .junk, .junk, .junk, .junk, .junk, .junk, .junk, .junk, .junk, .junk, .junk, .junk, .junk, .junk, .junk, .junk, .junk, .junk, .junk, .junk, .junk, .junk, .junk, .junk, .junk, .junk, .junk, .junk, .junk, .junk, .junk, .junk, .junk, .junk, .junk, .junk, .junk, .junk, .junk, .junk, .junk, .junk, .junk, .junk, .junk, .junk, .junk, .junk, .junk, .junk, .junk, .junk, .junk, .junk, .junk, .junk, .junk, .junk, .junk, .junk, .junk, .junk, .junk, .junk, .junk, .junk, .junk, .junk, .junk, .junk, .junk, .junk, .junk, .junk, .junk, .junk, .junk, .junk, .junk, .junk, .junk, .junk, .junk, .junk, .junk, .junk, .junk, .junk, .junk, .junk, .junk, .junk, .junk, .junk, .junk, .junk, .junk, .junk, .junk, .junk, .junk, .junk, .junk, .junk, .junk, .junk, .junk, .junk, .junk, .junk, .junk, .junk, .junk, .junk, .junk, .junk, .junk, .junk, .junk, .junk, .junk, .junk, .junk, .junk, .junk, .junk, .junk, .junk, .junk, .junk, .junk, .junk, .junk, .junk, .junk, .junk, .junk, .junk, .junk, .junk, .junk, .junk, .junk, .junk, .junk, .junk, .junk, .junk, .junk], [(Blk.d 5 [(D.v (.int .u8 u7_5)), (D.v (.bool u7_6)), (D.v (.int .u32 u7_7)), (D.list u7_8 u7_9 u7_10), (D.list u7_11 u7_12 u7_13)])]⟩
  (contK Tryd.prog H7.sp 0 (inlK Tryd.prog H7 m 3) m fh7_7 (endK Tryd.prog Tryd.f7 (fun v L => viewK L 8 v some)) []))
theorem F7_7_j34_e (m : Nat) (u7_0 : Int) (u7_1 : Int) (u7_2 : Int) (u7_3 : Int) (u7_4 : Int) (u7_5 : Int) (u7_6 : Bool) (u7_7 : Int) (u7_8 : Nat) (u7_9 : Option Nat) (u7_10 : List D) (u7_11 : Nat) (u7_12 : Option Nat) (u7_13 : List D) : F7_7_j34 m u7_0 u7_1 u7_2 u7_3 u7_4 u7_5 u7_6 u7_7 u7_8 u7_9 u7_10 u7_11 u7_12 u7_13 =
 (cond (u7_2 == u7_3)
 (cond (u7_0 == u7_1)
 ((sp38 [(D.agg [(D.v (.int .u8 u7_5)), (D.v (.bool u7_6)), (D.v (.int .u32 u7_7)), (D.list u7_8 u7_9 u7_10), (D.list u7_11 u7_12 u7_13)])]).bind fun d61 =>
 (rdI .i64 (some d61)).bind fun x62 =>
 cond (x62 == u7_4)
 ((sp27 []).bind fun d63 =>
 (rdB (some d63)).bind fun b64 =>
 some (D.v (.bool b64)))
 (some (D.v (.bool false))))
 (some (D.v (.bool false))))
 (some (D.v (.bool false)))) := by kernel_rfl
theorem F7_7_j31_e (m : Nat) (u6_0 : Int) (u6_1 : Int) (u6_2 : Int) (u6_3 : Int) (u6_4 : Int) (u6_5 : Bool) (u6_6 : Int) (u6_7 : Nat) (u6_8 : Option Nat) (u6_9 : List D) (u6_10 : Nat) (u6_11 : Option Nat) (u6_12 : List D) : F7_7_j31 m u6_0 u6_1 u6_2 u6_3 u6_4 u6_5 u6_6 u6_7 u6_8 u6_9 u6_10 u6_11 u6_12 =
 ((sp44 [(D.agg [(D.v (.int .u8 u6_4)), (D.v (.bool u6_5)), (D.v (.int .u32 u6_6)), (D.list u6_7 u6_8 u6_9), (D.list u6_10 u6_11 u6_12)]), (D.v (.int .u32 (5 : Int)))]).bind fun d59 =>
 (rdI .i64 (some d59)).bind fun x60 =>
 cond (x60 == (0 : Int))
 (cond (decide (((u6_7 : Nat) : Int) > (0 : Int)))
 (F7_7_j34 m u6_0 u6_1 u6_2 u6_3 (11 : Int) u6_4 u6_5 u6_6 u6_7 u6_8 u6_9 u6_10 u6_11 u6_12)
 (F7_7_j34 m u6_0 u6_1 u6_2 u6_3 x60 u6_4 u6_5 u6_6 u6_7 u6_8 u6_9 u6_10 u6_11 u6_12))
 (F7_7_j34 m u6_0 u6_1 u6_2 u6_3 x60 u6_4 u6_5 u6_6 u6_7 u6_8 u6_9 u6_10 u6_11 u6_12)) := by kernel_rfl
theorem F7_7_j26_e (m : Nat) (u5_0 : Int) (u5_1 : Bool) (u5_2 : Int) (u5_3 : Nat) (u5_4 : Option Nat) (u5_5 : List D) (u5_6 : Nat) (u5_7 : Option Nat) (u5_8 : List D) : F7_7_j26 m u5_0 u5_1 u5_2 u5_3 u5_4 u5_5 u5_6 u5_7 u5_8 =
 ((sp26 [(D.agg [(D.v (.int .u8 u5_0)), (D.v (.bool u5_1)), (D.v (.int .u32 u5_2)), (D.list u5_3 u5_4 u5_5), (D.list u5_6 u5_7 u5_8)])]).bind fun d49 =>
 (rdT d49).bind fun r50 =>
 if List.length r50 = 2 then
 (rdI .i64 r50[0]?).bind fun x51 =>
 (rdI .i64 r50[1]?).bind fun x52 =>
 (sp31 [(D.list u5_3 u5_4 u5_5)]).bind fun d53 =>
 (rdT d53).bind fun r54 =>
 if List.length r54 = 2 then
 (rdI .i64 r54[0]?).bind fun x55 =>
 (rdI .i64 r54[1]?).bind fun x56 =>
 (sp44 [(D.agg [(D.v (.int .u8 u5_0)), (D.v (.bool u5_1)), (D.v (.int .u32 u5_2)), (D.list u5_3 u5_4 u5_5), (D.list u5_6 u5_7 u5_8)]), (D.v (.int .u32 (10 : Int)))]).bind fun d57 =>
 (rdI .i64 (some d57)).bind fun x58 =>
 cond (x58 != (0 : Int))
 (F7_7_j31 m x52 x58 x51 (0 : Int) u5_0 u5_1 u5_2 u5_3 u5_4 u5_5 u5_6 u5_7 u5_8)
 (F7_7_j31 m x52 x56 x51 x55 u5_0 u5_1 u5_2 u5_3 u5_4 u5_5 u5_6 u5_7 u5_8)
 else none
 else none) := by kernel_rfl
theorem F7_7_j23_e (m : Nat) (u4_0 : Int) (u4_1 : Int) (u4_2 : Int) (u4_3 : Int) (u4_4 : Nat) (u4_5 : Option Nat) (u4_6 : List D) (u4_7 : Int) (u4_8 : Int) (u4_9 : Bool) (u4_10 : Int) (u4_11 : Nat) (u4_12 : Option Nat) (u4_13 : List D) (u4_14 : Nat) (u4_15 : Option Nat) (u4_16 : List D) : F7_7_j23 m u4_0 u4_1 u4_2 u4_3 u4_4 u4_5 u4_6 u4_7 u4_8 u4_9 u4_10 u4_11 u4_12 u4_13 u4_14 u4_15 u4_16 =
 ((sp42 [(D.agg [(D.v (.int .u8 u4_8)), (D.v (.bool u4_9)), (D.v (.int .u32 u4_10)), (D.list u4_11 u4_12 u4_13), (D.list u4_14 u4_15 u4_16)])]).bind fun d43 =>
 (rdT d43).bind fun r44 =>
 if List.length r44 = 2 then
 (rdL r44[0]?).bind fun q45 =>
 (rdI .i64 r44[1]?).bind fun x46 =>
 cond (u4_2 != u4_3)
 (some (D.v (.bool false)))
 (cond (u4_0 != u4_1)
 (some (D.v (.bool false)))
 ((sp20 [(D.list q45.n q45.cap q45.cs), (D.v (.int .i64 x46)), (D.list u4_4 u4_5 u4_6), (D.v (.int .i64 u4_7))]).bind fun d47 =>
 (rdB (some d47)).bind fun b48 =>
 cond (!b48)
 (some (D.v (.bool false)))
 (F7_7_j26 m u4_8 u4_9 u4_10 u4_11 u4_12 u4_13 u4_14 u4_15 u4_16)))
 else none) := by kernel_rfl
theorem F7_7_j16_e (m : Nat) (u3_0 : Int) (u3_1 : Bool) (u3_2 : Int) (u3_3 : Nat) (u3_4 : Option Nat) (u3_5 : List D) (u3_6 : Nat) (u3_7 : Option Nat) (u3_8 : List D) : F7_7_j16 m u3_0 u3_1 u3_2 u3_3 u3_4 u3_5 u3_6 u3_7 u3_8 =
 ((sp25 [(D.agg [(D.v (.int .u8 u3_0)), (D.v (.bool u3_1)), (D.v (.int .u32 u3_2)), (D.list u3_3 u3_4 u3_5), (D.list u3_6 u3_7 u3_8)])]).bind fun d29 =>
 (rdT d29).bind fun r30 =>
 if List.length r30 = 2 then
 (rdI .i64 r30[0]?).bind fun x31 =>
 (rdI .i64 r30[1]?).bind fun x32 =>
 (sp31 [(D.list u3_3 u3_4 u3_5)]).bind fun d33 =>
 (rdT d33).bind fun r34 =>
 if List.length r34 = 2 then
 (rdI .i64 r34[0]?).bind fun x35 =>
 (rdI .i64 r34[1]?).bind fun x36 =>
 (sp32 [(D.list u3_3 u3_4 u3_5)]).bind fun d37 =>
 (rdT d37).bind fun r38 =>
 if List.length r38 = 2 then
 (rdL r38[0]?).bind fun q39 =>
 (rdI .i64 r38[1]?).bind fun x40 =>
 (sp44 [(D.agg [(D.v (.int .u8 u3_0)), (D.v (.bool u3_1)), (D.v (.int .u32 u3_2)), (D.list u3_3 u3_4 u3_5), (D.list u3_6 u3_7 u3_8)]), (D.v (.int .u32 (2 : Int)))]).bind fun d41 =>
 (rdI .i64 (some d41)).bind fun x42 =>
 cond (x42 != (0 : Int))
 (F7_7_j23 m x32 x42 x31 (0 : Int) 0 (some 0) [] x42 u3_0 u3_1 u3_2 u3_3 u3_4 u3_5 u3_6 u3_7 u3_8)
 (F7_7_j23 m x32 x36 x31 x35 q39.n q39.cap q39.cs x40 u3_0 u3_1 u3_2 u3_3 u3_4 u3_5 u3_6 u3_7 u3_8)
 else none
 else none
 else none) := by kernel_rfl
theorem F7_7_j14_e (m : Nat) (u2_0 : Bool) (u2_1 : Int) (u2_2 : Bool) (u2_3 : Int) (u2_4 : Int) (u2_5 : Bool) (u2_6 : Int) (u2_7 : Nat) (u2_8 : Option Nat) (u2_9 : List D) (u2_10 : Nat) (u2_11 : Option Nat) (u2_12 : List D) : F7_7_j14 m u2_0 u2_1 u2_2 u2_3 u2_4 u2_5 u2_6 u2_7 u2_8 u2_9 u2_10 u2_11 u2_12 =
 (cond (!(u2_0 == u2_2))
 (some (D.v (.bool false)))
 (cond (u2_1 != u2_3)
 (some (D.v (.bool false)))
 (F7_7_j16 m u2_4 u2_5 u2_6 u2_7 u2_8 u2_9 u2_10 u2_11 u2_12))) := by kernel_rfl
theorem F7_7_j9_e (m : Nat) (u1_0 : Int) (u1_1 : Bool) (u1_2 : Int) (u1_3 : Nat) (u1_4 : Option Nat) (u1_5 : List D) (u1_6 : Nat) (u1_7 : Option Nat) (u1_8 : List D) : F7_7_j9 m u1_0 u1_1 u1_2 u1_3 u1_4 u1_5 u1_6 u1_7 u1_8 =
 ((sp35 [(D.agg [(D.v (.int .u8 u1_0)), (D.v (.bool u1_1)), (D.v (.int .u32 u1_2)), (D.list u1_3 u1_4 u1_5), (D.list u1_6 u1_7 u1_8)])]).bind fun d19 =>
 (rdT d19).bind fun r20 =>
 if List.length r20 = 2 then
 (rdB r20[0]?).bind fun b21 =>
 (rdI .i64 r20[1]?).bind fun x22 =>
 (sp29 [(D.list u1_3 u1_4 u1_5)]).bind fun d23 =>
 (rdT d23).bind fun r24 =>
 if List.length r24 = 2 then
 (rdB r24[0]?).bind fun b25 =>
 (rdI .i64 r24[1]?).bind fun x26 =>
 (sp44 [(D.agg [(D.v (.int .u8 u1_0)), (D.v (.bool u1_1)), (D.v (.int .u32 u1_2)), (D.list u1_3 u1_4 u1_5), (D.list u1_6 u1_7 u1_8)]), (D.v (.int .u32 (1 : Int)))]).bind fun d27 =>
 (rdI .i64 (some d27)).bind fun x28 =>
 cond (x28 != (0 : Int))
 (F7_7_j14 m b21 x22 false x28 u1_0 u1_1 u1_2 u1_3 u1_4 u1_5 u1_6 u1_7 u1_8)
 (F7_7_j14 m b21 x22 b25 x26 u1_0 u1_1 u1_2 u1_3 u1_4 u1_5 u1_6 u1_7 u1_8)
 else none
 else none) := by kernel_rfl
theorem F7_7_j3_e (m : Nat) (u0_0 : Nat) (u0_1 : Option Nat) (u0_2 : List D) (u0_3 : Int) (u0_4 : Bool) (u0_5 : Int) (u0_6 : Nat) (u0_7 : Option Nat) (u0_8 : List D) (u0_9 : Nat) (u0_10 : Option Nat) (u0_11 : List D) : F7_7_j3 m u0_0 u0_1 u0_2 u0_3 u0_4 u0_5 u0_6 u0_7 u0_8 u0_9 u0_10 u0_11 =
 ((sp43 [(D.list u0_0 u0_1 u0_2)]).bind fun d5 =>
 (rdI .i64 (some d5)).bind fun x6 =>
 cond (x6 != (0 : Int))
 ((sp34 [(D.list u0_0 u0_1 u0_2)]).bind fun d7 =>
 (rdT d7).bind fun r8 =>
 if List.length r8 = 2 then
 (rdL r8[0]?).bind fun q9 =>
 (rdI .i64 r8[1]?).bind fun x10 =>
 (sp41 [(D.list u0_0 u0_1 u0_2)]).bind fun d11 =>
 (rdT d11).bind fun r12 =>
 if List.length r12 = 2 then
 (rdA r12[0]?).bind fun c13 =>
 (rdI .i64 r12[1]?).bind fun x14 =>
 if (List.length c13) = 5 then
 (sp20 [(D.list q9.n q9.cap q9.cs), (D.v (.int .i64 x10)), (D.list 0 (some 0) []), (D.v (.int .i64 x6))]).bind fun d15 =>
 (rdB (some d15)).bind fun b16 =>
 cond (!b16)
 (some (D.v (.bool false)))
 (cond (x14 != x6)
 (some (D.v (.bool false)))
 ((rdL c13[3]?).bind fun q17 =>
 cond (decide (((q17.n : Nat) : Int) > (0 : Int)))
 (some (D.v (.bool false)))
 ((rdL c13[4]?).bind fun q18 =>
 cond (decide (((q18.n : Nat) : Int) > (0 : Int)))
 (some (D.v (.bool false)))
 (F7_7_j9 m u0_3 u0_4 u0_5 u0_6 u0_7 u0_8 u0_9 u0_10 u0_11))))
 else none
 else none
 else none)
 (F7_7_j9 m u0_3 u0_4 u0_5 u0_6 u0_7 u0_8 u0_9 u0_10 u0_11)) := by kernel_rfl
noncomputable def F7 (m : Nat) (a0n : Nat) (a0c : Option Nat) (a0 : List D) (a1_0 : Int) (a1_1 : Bool) (a1_2 : Int) (a1_3n : Nat) (a1_3c : Option Nat) (a1_3 : List D) (a1_4n : Nat) (a1_4c : Option Nat) (a1_4 : List D) : Option D :=
 cond (decide (((a0n : Nat) : Int) > (80 : Int)))
 ((sp27 []).bind fun d1 =>
 (rdB (some d1)).bind fun b2 =>
 some (D.v (.bool b2)))
 (cond (decide (((a1_3n : Nat) : Int) > (80 : Int)))
 ((sp27 []).bind fun d3 =>
 (rdB (some d3)).bind fun b4 =>
 some (D.v (.bool b4)))
 (F7_7_j3 m a0n a0c a0 a1_0 a1_1 a1_2 a1_3n a1_3c a1_3 a1_4n a1_4c a1_4))
theorem F7_eq (m : Nat) (a0n : Nat) (a0c : Option Nat) (a0 : List D) (a1_0 : Int) (a1_1 : Bool) (a1_2 : Int) (a1_3n : Nat) (a1_3c : Option Nat) (a1_3 : List D) (a1_4n : Nat) (a1_4c : Option Nat) (a1_4 : List D) : funD Tryd.prog H7 m 3 fh7_7 Tryd.f7 [(D.list a0n a0c a0), (D.agg [(D.v (.int .u8 a1_0)), (D.v (.bool a1_1)), (D.v (.int .u32 a1_2)), (D.list a1_3n a1_3c a1_3), (D.list a1_4n a1_4c a1_4)])] = F7 m a0n a0c a0 a1_0 a1_1 a1_2 a1_3n a1_3c a1_3 a1_4n a1_4c a1_4 := by kernel_rfl
theorem en7 : Enters Tryd.prog 7 := ⟨Tryd.f7, Tryd.func7, by kernel_rfl, by kernel_rfl⟩
theorem dt7 {ds : List D} {d : D} (h : funD Tryd.prog H7 M 3 fh7_7 Tryd.f7 ds = some d) : DataSem Tryd.prog 7 ds d := data_sound (H := H7) (SpOk.cons ds20 (SpOk.cons ds25 (SpOk.cons ds26 (SpOk.cons ds27 (SpOk.cons ds29 (SpOk.cons ds31 (SpOk.cons ds32 (SpOk.cons ds34 (SpOk.cons ds35 (SpOk.cons ds38 (SpOk.cons ds41 (SpOk.cons ds42 (SpOk.cons ds43 (SpOk.cons ds44 SpOk.nil)))))))))))))) mixed InlOk.nil Tryd.func7 en7 h
noncomputable def sp7 : List D → Option D
  | [.list a0n a0c a0, .agg [.v (.int .u8 a1_0), .v (.bool a1_1), .v (.int .u32 a1_2), .list a1_3n a1_3c a1_3, .list a1_4n a1_4c a1_4]] => F7 M a0n a0c a0 a1_0 a1_1 a1_2 a1_3n a1_3c a1_3 a1_4n a1_4c a1_4
  | _ => none
theorem ds7 : ∀ ds d, sp7 ds = some d → DataSem Tryd.prog 7 ds d := by
  intro ds d h
  unfold sp7 at h
  split at h
  · exact dt7 ((F7_eq M _ _ _ _ _ _ _ _ _ _ _ _).trans h)
  · cases h

end Go.Ev
