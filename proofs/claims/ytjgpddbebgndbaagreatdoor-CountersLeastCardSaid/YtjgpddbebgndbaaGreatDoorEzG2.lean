/- Functions of the given program in plain form, printed: each with the proof that it is what the evaluator comes to, and that the program function returns what it says. No conditions. -/
import Derived.Test.YtjgpddbebgndbaaGreatDoorEzG1
set_option linter.unusedVariables false
set_option maxRecDepth 100000
namespace Go.Ev
open Go Go.Proofs

-- ('str', '"slices.Min[[]int,int]"')
def fh_slices_Min_int_int__slices_Min_int_int : FnH := ⟨[(5, ⟨[true, false, false, true, true, false, false, false, false, false, false, false, false, false, false, false, false, false, false, false, false, false, false, false, false], [], (some 0)⟩)], [(3, ⟨[true, false, false, false, false, false, false, false, false, false, false, false, false, false, false, false, false, false, false, false, false, false, false, false, false], [], (some 0)⟩)]⟩
noncomputable def H_slices_Min_int_int : Hints := ⟨[], [], []⟩
noncomputable def F_slices_Min_int_int_j3 (m : Nat) (u0_0 : Nat) (u0_1 : Option Nat) (u0_2 : List D) : Option D :=
 cutK m (codeK Tryz.prog H_slices_Min_int_int.sp ⟨0, [], false, []⟩ (inlK Tryz.prog H_slices_Min_int_int m 4) m fh_slices_Min_int_int__slices_Min_int_int (subc [1, 1] (bodyOf Tryz.f70)) ⟨[(AV.d (D.list u0_0 u0_1 u0_2)), .junk, .junk, .junk, .junk, .junk, .junk, .junk, .junk, .junk, .junk, .junk, .junk, .junk, .junk, .junk, .junk, .junk, .junk, .junk, .junk, .junk, .junk, .junk, .junk], []⟩
  (contK Tryz.prog H_slices_Min_int_int.sp ⟨0, [], false, []⟩ (inlK Tryz.prog H_slices_Min_int_int m 4) m fh_slices_Min_int_int__slices_Min_int_int (endK Tryz.prog Tryz.f70 (fun v L => viewK L 8 v some)) []))
noncomputable def F_slices_Min_int_int_5 (m n0 : Nat) (y0_0 : Nat) (y0_1 : Option Nat) (y0_2 : List D) (y0_3 : Int) (y0_4 : Int) : Option D :=
 loopIter [true, false, false, true, true, false, false, false, false, false, false, false, false, false, false, false, false, false, false, false, false, false, false, false, false] 0 0 (codeK Tryz.prog H_slices_Min_int_int.sp ⟨0, [], false, []⟩ (inlK Tryz.prog H_slices_Min_int_int m 4) m fh_slices_Min_int_int__slices_Min_int_int (subc [1, 1, 1, 0, 1, 0, 0] (bodyOf Tryz.f70))) n0 ⟨[(AV.d (D.list y0_0 y0_1 y0_2)), .junk, .junk, (AV.d (D.v (.int .i64 y0_3))), (AV.d (D.v (.int .i64 y0_4))), .junk, .junk, .junk, .junk, .junk, .junk, .junk, .junk, .junk, .junk, .junk, .junk, .junk, .junk, .junk, .junk, .junk, .junk, .junk, .junk], []⟩
  (contK Tryz.prog H_slices_Min_int_int.sp ⟨0, [], false, []⟩ (inlK Tryz.prog H_slices_Min_int_int m 4) m fh_slices_Min_int_int__slices_Min_int_int (endK Tryz.prog Tryz.f70 (fun v L => viewK L 8 v some)) [.block 0, .code (subc [1, 1, 1, 1] (bodyOf Tryz.f70))])
theorem F_slices_Min_int_int_5_s (m n0 : Nat) (y0_0 : Nat) (y0_1 : Option Nat) (y0_2 : List D) (y0_3 : Int) (y0_4 : Int) : F_slices_Min_int_int_5 m (n0 + 1) y0_0 y0_1 y0_2 y0_3 y0_4 =
 (cond (decide (y0_4 < ((y0_0 : Nat) : Int)))
 (if 0 ≤ y0_4 ∧ y0_4 < ((y0_0 : Nat) : Int) then
 (rdI .i64 y0_2[((Int.toNat y0_4) * 1)]?).bind fun x4 =>
 F_slices_Min_int_int_5 m n0 y0_0 y0_1 y0_2 (mm true y0_3 x4) (IntKind.wrap .i64 (y0_4 + (1 : Int)))
 else none)
 (some (D.v (.int .i64 y0_3)))) := by kernel_rfl
theorem F_slices_Min_int_int_j3_e (m : Nat) (u0_0 : Nat) (u0_1 : Option Nat) (u0_2 : List D) : F_slices_Min_int_int_j3 m u0_0 u0_1 u0_2 =
 (if 0 ≤ (0 : Int) ∧ (0 : Int) < ((u0_0 : Nat) : Int) then
 (rdI .i64 u0_2[0]?).bind fun x1 =>
 F_slices_Min_int_int_5 m m u0_0 u0_1 u0_2 x1 (1 : Int)
 else none) := (cutK_eq m _).trans (by kernel_rfl)
noncomputable def F_slices_Min_int_int (m : Nat) (a0n : Nat) (a0c : Option Nat) (a0 : List D) : Option D :=
 cond (decide (((a0n : Nat) : Int) < (1 : Int)))
 (none)
 (F_slices_Min_int_int_j3 m a0n a0c a0)
theorem F_slices_Min_int_int_eq (m : Nat) (a0n : Nat) (a0c : Option Nat) (a0 : List D) : funD Tryz.prog H_slices_Min_int_int m 4 fh_slices_Min_int_int__slices_Min_int_int Tryz.f70 [(D.list a0n a0c a0)] = F_slices_Min_int_int m a0n a0c a0 := by kernel_rfl
theorem en_slices_Min_int_int : Enters Tryz.prog 70 := ⟨Tryz.f70, Tryz.func70, by kernel_rfl, by kernel_rfl⟩
theorem dt_slices_Min_int_int {ds : List D} {d : D} (h : funD Tryz.prog H_slices_Min_int_int M 4 fh_slices_Min_int_int__slices_Min_int_int Tryz.f70 ds = some d) : DataSem Tryz.prog 70 ds d := data_sound (H := H_slices_Min_int_int) SpOk.nil mixed InlOk.nil Tryz.func70 en_slices_Min_int_int h
noncomputable def sp_slices_Min_int_int : List D → Option D
  | [.list a0n a0c a0] => F_slices_Min_int_int M a0n a0c a0
  | _ => none
theorem ds_slices_Min_int_int : ∀ ds d, sp_slices_Min_int_int ds = some d → DataSem Tryz.prog 70 ds d := by
  intro ds d h
  unfold sp_slices_Min_int_int at h
  split at h
  · exact dt_slices_Min_int_int ((F_slices_Min_int_int_eq M _ _ _).trans h)
  · cases h

-- ('str', '"slices.Max[[]int,int]"')
def fh_slices_Max_int_int__slices_Max_int_int : FnH := ⟨[(5, ⟨[true, false, false, true, true, false, false, false, false, false, false, false, false, false, false, false, false, false, false, false, false, false, false, false, false], [], (some 0)⟩)], [(3, ⟨[true, false, false, false, false, false, false, false, false, false, false, false, false, false, false, false, false, false, false, false, false, false, false, false, false], [], (some 0)⟩)]⟩
noncomputable def H_slices_Max_int_int : Hints := ⟨[], [], []⟩
noncomputable def F_slices_Max_int_int_j3 (m : Nat) (u0_0 : Nat) (u0_1 : Option Nat) (u0_2 : List D) : Option D :=
 cutK m (codeK Tryz.prog H_slices_Max_int_int.sp ⟨0, [], false, []⟩ (inlK Tryz.prog H_slices_Max_int_int m 4) m fh_slices_Max_int_int__slices_Max_int_int (subc [1, 1] (bodyOf Tryz.f71)) ⟨[(AV.d (D.list u0_0 u0_1 u0_2)), .junk, .junk, .junk, .junk, .junk, .junk, .junk, .junk, .junk, .junk, .junk, .junk, .junk, .junk, .junk, .junk, .junk, .junk, .junk, .junk, .junk, .junk, .junk, .junk], []⟩
  (contK Tryz.prog H_slices_Max_int_int.sp ⟨0, [], false, []⟩ (inlK Tryz.prog H_slices_Max_int_int m 4) m fh_slices_Max_int_int__slices_Max_int_int (endK Tryz.prog Tryz.f71 (fun v L => viewK L 8 v some)) []))
noncomputable def F_slices_Max_int_int_5 (m n0 : Nat) (y0_0 : Nat) (y0_1 : Option Nat) (y0_2 : List D) (y0_3 : Int) (y0_4 : Int) : Option D :=
 loopIter [true, false, false, true, true, false, false, false, false, false, false, false, false, false, false, false, false, false, false, false, false, false, false, false, false] 0 0 (codeK Tryz.prog H_slices_Max_int_int.sp ⟨0, [], false, []⟩ (inlK Tryz.prog H_slices_Max_int_int m 4) m fh_slices_Max_int_int__slices_Max_int_int (subc [1, 1, 1, 0, 1, 0, 0] (bodyOf Tryz.f71))) n0 ⟨[(AV.d (D.list y0_0 y0_1 y0_2)), .junk, .junk, (AV.d (D.v (.int .i64 y0_3))), (AV.d (D.v (.int .i64 y0_4))), .junk, .junk, .junk, .junk, .junk, .junk, .junk, .junk, .junk, .junk, .junk, .junk, .junk, .junk, .junk, .junk, .junk, .junk, .junk, .junk], []⟩
  (contK Tryz.prog H_slices_Max_int_int.sp ⟨0, [], false, []⟩ (inlK Tryz.prog H_slices_Max_int_int m 4) m fh_slices_Max_int_int__slices_Max_int_int (endK Tryz.prog Tryz.f71 (fun v L => viewK L 8 v some)) [.block 0, .code (subc [1, 1, 1, 1] (bodyOf Tryz.f71))])
theorem F_slices_Max_int_int_5_s (m n0 : Nat) (y0_0 : Nat) (y0_1 : Option Nat) (y0_2 : List D) (y0_3 : Int) (y0_4 : Int) : F_slices_Max_int_int_5 m (n0 + 1) y0_0 y0_1 y0_2 y0_3 y0_4 =
 (cond (decide (y0_4 < ((y0_0 : Nat) : Int)))
 (if 0 ≤ y0_4 ∧ y0_4 < ((y0_0 : Nat) : Int) then
 (rdI .i64 y0_2[((Int.toNat y0_4) * 1)]?).bind fun x4 =>
 F_slices_Max_int_int_5 m n0 y0_0 y0_1 y0_2 (mm false y0_3 x4) (IntKind.wrap .i64 (y0_4 + (1 : Int)))
 else none)
 (some (D.v (.int .i64 y0_3)))) := by kernel_rfl
theorem F_slices_Max_int_int_j3_e (m : Nat) (u0_0 : Nat) (u0_1 : Option Nat) (u0_2 : List D) : F_slices_Max_int_int_j3 m u0_0 u0_1 u0_2 =
 (if 0 ≤ (0 : Int) ∧ (0 : Int) < ((u0_0 : Nat) : Int) then
 (rdI .i64 u0_2[0]?).bind fun x1 =>
 F_slices_Max_int_int_5 m m u0_0 u0_1 u0_2 x1 (1 : Int)
 else none) := (cutK_eq m _).trans (by kernel_rfl)
noncomputable def F_slices_Max_int_int (m : Nat) (a0n : Nat) (a0c : Option Nat) (a0 : List D) : Option D :=
 cond (decide (((a0n : Nat) : Int) < (1 : Int)))
 (none)
 (F_slices_Max_int_int_j3 m a0n a0c a0)
theorem F_slices_Max_int_int_eq (m : Nat) (a0n : Nat) (a0c : Option Nat) (a0 : List D) : funD Tryz.prog H_slices_Max_int_int m 4 fh_slices_Max_int_int__slices_Max_int_int Tryz.f71 [(D.list a0n a0c a0)] = F_slices_Max_int_int m a0n a0c a0 := by kernel_rfl
theorem en_slices_Max_int_int : Enters Tryz.prog 71 := ⟨Tryz.f71, Tryz.func71, by kernel_rfl, by kernel_rfl⟩
theorem dt_slices_Max_int_int {ds : List D} {d : D} (h : funD Tryz.prog H_slices_Max_int_int M 4 fh_slices_Max_int_int__slices_Max_int_int Tryz.f71 ds = some d) : DataSem Tryz.prog 71 ds d := data_sound (H := H_slices_Max_int_int) SpOk.nil mixed InlOk.nil Tryz.func71 en_slices_Max_int_int h
noncomputable def sp_slices_Max_int_int : List D → Option D
  | [.list a0n a0c a0] => F_slices_Max_int_int M a0n a0c a0
  | _ => none
theorem ds_slices_Max_int_int : ∀ ds d, sp_slices_Max_int_int ds = some d → DataSem Tryz.prog 71 ds d := by
  intro ds d h
  unfold sp_slices_Max_int_int at h
  split at h
  · exact dt_slices_Max_int_int ((F_slices_Max_int_int_eq M _ _ _).trans h)
  · cases h

-- ('str', '"vidimus/records.shape"')
def fh_records_shape__records_shape : FnH := ⟨[], [(3, ⟨[false, true, false, false, false, false, false, false, false, false, false, false, false, false, false, false, false, false, false, false, false, false, false, false, false, false, false, false, false, false, false, false, false, false, false, false, false, false, false, false, false, false, false, false, false, false, false, false, false, false, false, false, false, false, false, false, false, false, false, false, false, false, false, false, false, false, false], [], (some 1)⟩), (8, ⟨[false, true, false, false, false, false, false, false, false, false, false, false, false, false, false, false, false, false, false, false, false, false, false, false, false, false, false, false, false, false, false, false, false, false, false, false, false, false, false, false, false, false, false, false, false, false, false, false, false, false, false, false, false, false, false, false, false, false, false, false, false, false, false, false, false, false, false], [], (some 1)⟩)]⟩
def H_records_shape (fn_slices_Min_int_int fn_slices_Max_int_int : List D → Option D) : Hints := ⟨[(70, fn_slices_Min_int_int), (71, fn_slices_Max_int_int)], [], []⟩
noncomputable def F_records_shape_j3 (fn_slices_Min_int_int fn_slices_Max_int_int : List D → Option D) (m : Nat) (u0_0 : Bool) (u0_1 : Bool) (u0_2 : Nat) (u0_3 : Option Nat) (u0_4 : List D) (u0_5 : Bool) (u0_6 : Nat) (u0_7 : Option Nat) (u0_8 : List D) (u0_9 : Int) (u0_10 : Int) (u0_11 : Int) : Option D :=
 cutK m (codeK Tryz.prog (H_records_shape fn_slices_Min_int_int fn_slices_Max_int_int).sp ⟨0, [], false, []⟩ (inlK Tryz.prog (H_records_shape fn_slices_Min_int_int fn_slices_Max_int_int) m 4) m fh_records_shape__records_shape (subc [1, 1] (bodyOf Tryz.f60)) ⟨[.junk, (AV.ptr 0 0), .junk, .junk, .junk, .junk, .junk, .junk, .junk, .junk, .junk, .junk, .junk, .junk, .junk, .junk, .junk, .junk, .junk, .junk, .junk, .junk, .junk, .junk, .junk, .junk, .junk, .junk, .junk, .junk, .junk, .junk, .junk, .junk, .junk, .junk, .junk, .junk, .junk, .junk, .junk, .junk, .junk, .junk, .junk, .junk, .junk, .junk, .junk, .junk, .junk, .junk, .junk, .junk, .junk, .junk, .junk, .junk, .junk, .junk, .junk, .junk, .junk, .junk, .junk, .junk, .junk], [(Blk.d 8 [(D.v (.bool u0_0)), (D.v (.bool u0_1)), (D.list u0_2 u0_3 u0_4), (D.v (.bool u0_5)), (D.list u0_6 u0_7 u0_8), (D.v (.int .i64 u0_9)), (D.v (.int .i64 u0_10)), (D.v (.int .i64 u0_11))])]⟩
  (contK Tryz.prog (H_records_shape fn_slices_Min_int_int fn_slices_Max_int_int).sp ⟨0, [], false, []⟩ (inlK Tryz.prog (H_records_shape fn_slices_Min_int_int fn_slices_Max_int_int) m 4) m fh_records_shape__records_shape (endK Tryz.prog Tryz.f60 (fun v L => viewK L 8 v some)) []))
noncomputable def F_records_shape_j8 (fn_slices_Min_int_int fn_slices_Max_int_int : List D → Option D) (m : Nat) (u1_0 : Bool) (u1_1 : Bool) (u1_2 : Nat) (u1_3 : Option Nat) (u1_4 : List D) (u1_5 : Bool) (u1_6 : Nat) (u1_7 : Option Nat) (u1_8 : List D) (u1_9 : Int) (u1_10 : Int) (u1_11 : Int) : Option D :=
 cutK m (codeK Tryz.prog (H_records_shape fn_slices_Min_int_int fn_slices_Max_int_int).sp ⟨0, [], false, []⟩ (inlK Tryz.prog (H_records_shape fn_slices_Min_int_int fn_slices_Max_int_int) m 4) m fh_records_shape__records_shape (subc [1, 1, 1, 1, 1] (bodyOf Tryz.f60)) ⟨[.junk, (AV.ptr 0 0), .junk, .junk, .junk, .junk, .junk, .junk, .junk, .junk, .junk, .junk, .junk, .junk, .junk, .junk, .junk, .junk, .junk, .junk, .junk, .junk, .junk, .junk, .junk, .junk, .junk, .junk, .junk, .junk, .junk, .junk, .junk, .junk, .junk, .junk, .junk, .junk, .junk, .junk, .junk, .junk, .junk, .junk, .junk, .junk, .junk, .junk, .junk, .junk, .junk, .junk, .junk, .junk, .junk, .junk, .junk, .junk, .junk, .junk, .junk, .junk, .junk, .junk, .junk, .junk, .junk], [(Blk.d 8 [(D.v (.bool u1_0)), (D.v (.bool u1_1)), (D.list u1_2 u1_3 u1_4), (D.v (.bool u1_5)), (D.list u1_6 u1_7 u1_8), (D.v (.int .i64 u1_9)), (D.v (.int .i64 u1_10)), (D.v (.int .i64 u1_11))])]⟩
  (contK Tryz.prog (H_records_shape fn_slices_Min_int_int fn_slices_Max_int_int).sp ⟨0, [], false, []⟩ (inlK Tryz.prog (H_records_shape fn_slices_Min_int_int fn_slices_Max_int_int) m 4) m fh_records_shape__records_shape (endK Tryz.prog Tryz.f60 (fun v L => viewK L 8 v some)) []))
theorem F_records_shape_j8_e (fn_slices_Min_int_int fn_slices_Max_int_int : List D → Option D) (m : Nat) (u1_0 : Bool) (u1_1 : Bool) (u1_2 : Nat) (u1_3 : Option Nat) (u1_4 : List D) (u1_5 : Bool) (u1_6 : Nat) (u1_7 : Option Nat) (u1_8 : List D) (u1_9 : Int) (u1_10 : Int) (u1_11 : Int) : F_records_shape_j8 fn_slices_Min_int_int fn_slices_Max_int_int m u1_0 u1_1 u1_2 u1_3 u1_4 u1_5 u1_6 u1_7 u1_8 u1_9 u1_10 u1_11 =
 (cond u1_1
 (cond (((u1_2 : Nat) : Int) == (0 : Int))
 (some (D.v (.int .i64 (17 : Int))))
 (cond u1_5
 (cond (((u1_6 : Nat) : Int) == (0 : Int))
 (some (D.v (.int .i64 (17 : Int))))
 (some (D.v (.int .i64 (0 : Int)))))
 (some (D.v (.int .i64 (0 : Int))))))
 (cond u1_5
 (cond (((u1_6 : Nat) : Int) == (0 : Int))
 (some (D.v (.int .i64 (17 : Int))))
 (some (D.v (.int .i64 (0 : Int)))))
 (some (D.v (.int .i64 (0 : Int)))))) := (cutK_eq m _).trans (by kernel_rfl)
theorem F_records_shape_j3_e (fn_slices_Min_int_int fn_slices_Max_int_int : List D → Option D) (m : Nat) (u0_0 : Bool) (u0_1 : Bool) (u0_2 : Nat) (u0_3 : Option Nat) (u0_4 : List D) (u0_5 : Bool) (u0_6 : Nat) (u0_7 : Option Nat) (u0_8 : List D) (u0_9 : Int) (u0_10 : Int) (u0_11 : Int) : F_records_shape_j3 fn_slices_Min_int_int fn_slices_Max_int_int m u0_0 u0_1 u0_2 u0_3 u0_4 u0_5 u0_6 u0_7 u0_8 u0_9 u0_10 u0_11 =
 ((fn_slices_Min_int_int [(D.list 3 (some 3) [(D.v (.int .i64 u0_9)), (D.v (.int .i64 u0_10)), (D.v (.int .i64 u0_11))])]).bind fun d1 =>
 (rdI .i64 (some d1)).bind fun x2 =>
 cond (decide (x2 < (-1 : Int)))
 (some (D.v (.int .i64 (1 : Int))))
 ((fn_slices_Max_int_int [(D.list 3 (some 3) [(D.v (.int .i64 u0_9)), (D.v (.int .i64 u0_10)), (D.v (.int .i64 u0_11))])]).bind fun d3 =>
 (rdI .i64 (some d3)).bind fun x4 =>
 cond (decide (x4 > (2147483647 : Int)))
 (some (D.v (.int .i64 (3 : Int))))
 (cond (decide (((u0_2 : Nat) : Int) > (64 : Int)))
 (some (D.v (.int .i64 (3 : Int))))
 (cond (decide (((u0_6 : Nat) : Int) > (64 : Int)))
 (some (D.v (.int .i64 (3 : Int))))
 (F_records_shape_j8 fn_slices_Min_int_int fn_slices_Max_int_int m u0_0 u0_1 u0_2 u0_3 u0_4 u0_5 u0_6 u0_7 u0_8 u0_9 u0_10 u0_11))))) := (cutK_eq m _).trans (by kernel_rfl)
noncomputable def F_records_shape (fn_slices_Min_int_int fn_slices_Max_int_int : List D → Option D) (m : Nat) (a0_0 : Bool) (a0_1 : Bool) (a0_2n : Nat) (a0_2c : Option Nat) (a0_2 : List D) (a0_3 : Bool) (a0_4n : Nat) (a0_4c : Option Nat) (a0_4 : List D) (a0_5 : Int) (a0_6 : Int) (a0_7 : Int) : Option D :=
 cond (!a0_1)
 (cond (decide (((a0_2n : Nat) : Int) > (0 : Int)))
 (some (D.v (.int .i64 (1 : Int))))
 (cond (!a0_3)
 (cond (decide (((a0_4n : Nat) : Int) > (0 : Int)))
 (some (D.v (.int .i64 (1 : Int))))
 (F_records_shape_j3 fn_slices_Min_int_int fn_slices_Max_int_int m a0_0 a0_1 a0_2n a0_2c a0_2 a0_3 a0_4n a0_4c a0_4 a0_5 a0_6 a0_7))
 (F_records_shape_j3 fn_slices_Min_int_int fn_slices_Max_int_int m a0_0 a0_1 a0_2n a0_2c a0_2 a0_3 a0_4n a0_4c a0_4 a0_5 a0_6 a0_7)))
 (cond (!a0_3)
 (cond (decide (((a0_4n : Nat) : Int) > (0 : Int)))
 (some (D.v (.int .i64 (1 : Int))))
 (F_records_shape_j3 fn_slices_Min_int_int fn_slices_Max_int_int m a0_0 a0_1 a0_2n a0_2c a0_2 a0_3 a0_4n a0_4c a0_4 a0_5 a0_6 a0_7))
 (F_records_shape_j3 fn_slices_Min_int_int fn_slices_Max_int_int m a0_0 a0_1 a0_2n a0_2c a0_2 a0_3 a0_4n a0_4c a0_4 a0_5 a0_6 a0_7))
theorem F_records_shape_eq (fn_slices_Min_int_int fn_slices_Max_int_int : List D → Option D) (m : Nat) (a0_0 : Bool) (a0_1 : Bool) (a0_2n : Nat) (a0_2c : Option Nat) (a0_2 : List D) (a0_3 : Bool) (a0_4n : Nat) (a0_4c : Option Nat) (a0_4 : List D) (a0_5 : Int) (a0_6 : Int) (a0_7 : Int) : funD Tryz.prog (H_records_shape fn_slices_Min_int_int fn_slices_Max_int_int) m 4 fh_records_shape__records_shape Tryz.f60 [(D.agg [(D.v (.bool a0_0)), (D.v (.bool a0_1)), (D.list a0_2n a0_2c a0_2), (D.v (.bool a0_3)), (D.list a0_4n a0_4c a0_4), (D.v (.int .i64 a0_5)), (D.v (.int .i64 a0_6)), (D.v (.int .i64 a0_7))])] = F_records_shape fn_slices_Min_int_int fn_slices_Max_int_int m a0_0 a0_1 a0_2n a0_2c a0_2 a0_3 a0_4n a0_4c a0_4 a0_5 a0_6 a0_7 := by kernel_rfl
theorem en_records_shape : Enters Tryz.prog 60 := ⟨Tryz.f60, Tryz.func60, by kernel_rfl, by kernel_rfl⟩
theorem dt_records_shape {ds : List D} {d : D} (h : funD Tryz.prog (H_records_shape sp_slices_Min_int_int sp_slices_Max_int_int) M 4 fh_records_shape__records_shape Tryz.f60 ds = some d) : DataSem Tryz.prog 60 ds d := data_sound (H := (H_records_shape sp_slices_Min_int_int sp_slices_Max_int_int)) (SpOk.cons ds_slices_Min_int_int (SpOk.cons ds_slices_Max_int_int SpOk.nil)) mixed InlOk.nil Tryz.func60 en_records_shape h
noncomputable def sp_records_shape : List D → Option D
  | [.agg [.v (.bool a0_0), .v (.bool a0_1), .list a0_2n a0_2c a0_2, .v (.bool a0_3), .list a0_4n a0_4c a0_4, .v (.int .i64 a0_5), .v (.int .i64 a0_6), .v (.int .i64 a0_7)]] => F_records_shape sp_slices_Min_int_int sp_slices_Max_int_int M a0_0 a0_1 a0_2n a0_2c a0_2 a0_3 a0_4n a0_4c a0_4 a0_5 a0_6 a0_7
  | _ => none
theorem ds_records_shape : ∀ ds d, sp_records_shape ds = some d → DataSem Tryz.prog 60 ds d := by
  intro ds d h
  unfold sp_records_shape at h
  split at h
  · exact dt_records_shape ((F_records_shape_eq sp_slices_Min_int_int sp_slices_Max_int_int M _ _ _ _ _ _ _ _ _ _ _ _).trans h)
  · cases h

-- ('str', '"slices.Index[[]vidimus/api.Mapping,vidimus/api.Mapping]"')
def fh_slices_Index_api_Mapping_api_Mapping__slices_Index_api_Mapping_api_Mapping : FnH := ⟨[(2, ⟨[true, false, false, true, false, false, false, true, true, false, false, false, false, false, false, false, false, false, false], [], (some 1)⟩)], []⟩
noncomputable def H_slices_Index_api_Mapping_api_Mapping : Hints := ⟨[], [], []⟩
noncomputable def F_slices_Index_api_Mapping_api_Mapping_2 (m n0 : Nat) (y0_0 : Nat) (y0_1 : Option Nat) (y0_2 : List D) (y0_3 : Int) (y0_4 : Int) (y0_5 : List D) : Option D :=
 loopIter [true, false, false, true, false, false, false, true, true, false, false, false, false, false, false, false, false, false, false] 0 1 (codeK Tryz.prog H_slices_Index_api_Mapping_api_Mapping.sp ⟨0, [], false, []⟩ (inlK Tryz.prog H_slices_Index_api_Mapping_api_Mapping m 4) m fh_slices_Index_api_Mapping_api_Mapping__slices_Index_api_Mapping_api_Mapping (subc [1, 0, 1, 0, 0] (bodyOf Tryz.f73))) n0 ⟨[(AV.d (D.list y0_0 y0_1 y0_2)), .junk, .junk, (AV.ptr 0 0), .junk, .junk, .junk, (AV.d (D.v (.int .i64 y0_3))), (AV.d (D.v (.int .i64 y0_4))), .junk, .junk, .junk, .junk, .junk, .junk, .junk, .junk, .junk, .junk], [(Blk.d 34 y0_5)]⟩
  (contK Tryz.prog H_slices_Index_api_Mapping_api_Mapping.sp ⟨0, [], false, []⟩ (inlK Tryz.prog H_slices_Index_api_Mapping_api_Mapping m 4) m fh_slices_Index_api_Mapping_api_Mapping__slices_Index_api_Mapping_api_Mapping (endK Tryz.prog Tryz.f73 (fun v L => viewK L 8 v some)) [.block 0, .code (subc [1, 1] (bodyOf Tryz.f73))])
theorem F_slices_Index_api_Mapping_api_Mapping_2_s (m n0 : Nat) (y0_0 : Nat) (y0_1 : Option Nat) (y0_2 : List D) (y0_3 : Int) (y0_4 : Int) (y0_5 : List D) : F_slices_Index_api_Mapping_api_Mapping_2 m (n0 + 1) y0_0 y0_1 y0_2 y0_3 y0_4 y0_5 =
 (cond (decide (y0_4 < y0_3))
 (if 0 ≤ y0_4 ∧ y0_4 < ((y0_0 : Nat) : Int) then
 if (((Int.toNat y0_4) * 34) + 34) ≤ (List.length y0_2) then
 (cellsEq [.int, .int, .int, .int, .int, .int, .int, .int, .int, .int, .int, .int, .int, .int, .int, .int, .int, .int, .int, .int, .int, .int, .int, .int, .int, .int, .int, .int, .int, .int, .int, .int, .int, .int] y0_5 ((List.drop ((Int.toNat y0_4) * 34) y0_2).take 34)).bind fun b3 =>
 cond b3
 (some (D.v (.int .i64 y0_4)))
 (F_slices_Index_api_Mapping_api_Mapping_2 m n0 y0_0 y0_1 y0_2 y0_3 (IntKind.wrap .i64 (y0_4 + (1 : Int))) y0_5)
 else none
 else none)
 (some (D.v (.int .i64 (-1 : Int))))) := by kernel_rfl
noncomputable def F_slices_Index_api_Mapping_api_Mapping (m : Nat) (a0n : Nat) (a0c : Option Nat) (a0 : List D) (a1 : List D) : Option D :=
 if (List.length a1) = 34 then
 F_slices_Index_api_Mapping_api_Mapping_2 m m a0n a0c a0 ((a0n : Nat) : Int) (0 : Int) a1
 else none
theorem F_slices_Index_api_Mapping_api_Mapping_eq (m : Nat) (a0n : Nat) (a0c : Option Nat) (a0 : List D) (a1 : List D) : funD Tryz.prog H_slices_Index_api_Mapping_api_Mapping m 4 fh_slices_Index_api_Mapping_api_Mapping__slices_Index_api_Mapping_api_Mapping Tryz.f73 [(D.list a0n a0c a0), (D.agg a1)] = F_slices_Index_api_Mapping_api_Mapping m a0n a0c a0 a1 := by kernel_rfl
theorem en_slices_Index_api_Mapping_api_Mapping : Enters Tryz.prog 73 := ⟨Tryz.f73, Tryz.func73, by kernel_rfl, by kernel_rfl⟩
theorem dt_slices_Index_api_Mapping_api_Mapping {ds : List D} {d : D} (h : funD Tryz.prog H_slices_Index_api_Mapping_api_Mapping M 4 fh_slices_Index_api_Mapping_api_Mapping__slices_Index_api_Mapping_api_Mapping Tryz.f73 ds = some d) : DataSem Tryz.prog 73 ds d := data_sound (H := H_slices_Index_api_Mapping_api_Mapping) SpOk.nil mixed InlOk.nil Tryz.func73 en_slices_Index_api_Mapping_api_Mapping h
noncomputable def sp_slices_Index_api_Mapping_api_Mapping : List D → Option D
  | [.list a0n a0c a0, .agg a1] => F_slices_Index_api_Mapping_api_Mapping M a0n a0c a0 a1
  | _ => none
theorem ds_slices_Index_api_Mapping_api_Mapping : ∀ ds d, sp_slices_Index_api_Mapping_api_Mapping ds = some d → DataSem Tryz.prog 73 ds d := by
  intro ds d h
  unfold sp_slices_Index_api_Mapping_api_Mapping at h
  split at h
  · exact dt_slices_Index_api_Mapping_api_Mapping ((F_slices_Index_api_Mapping_api_Mapping_eq M _ _ _ _).trans h)
  · cases h

-- ('str', '"slices.Contains[[]vidimus/api.Mapping,vidimus/api.Mapping]"')
def fh_slices_Contains_api_Mapping_api_Mapping__slices_Contains_api_Mapping_api_Mapping : FnH := ⟨[], []⟩
noncomputable def H_slices_Contains_api_Mapping_api_Mapping : Hints := ⟨[(73, sp_slices_Index_api_Mapping_api_Mapping)], [], []⟩
noncomputable def F_slices_Contains_api_Mapping_api_Mapping (m : Nat) (a0n : Nat) (a0c : Option Nat) (a0 : List D) (a1 : List D) : Option D :=
 if (List.length a1) = 34 then
 (sp_slices_Index_api_Mapping_api_Mapping [(D.list a0n a0c a0), (D.agg a1)]).bind fun d1 =>
 (rdI .i64 (some d1)).bind fun x2 =>
 some (D.v (.bool (decide (x2 ≥ (0 : Int)))))
 else none
theorem F_slices_Contains_api_Mapping_api_Mapping_eq (m : Nat) (a0n : Nat) (a0c : Option Nat) (a0 : List D) (a1 : List D) : funD Tryz.prog H_slices_Contains_api_Mapping_api_Mapping m 4 fh_slices_Contains_api_Mapping_api_Mapping__slices_Contains_api_Mapping_api_Mapping Tryz.f62 [(D.list a0n a0c a0), (D.agg a1)] = F_slices_Contains_api_Mapping_api_Mapping m a0n a0c a0 a1 := by kernel_rfl
theorem en_slices_Contains_api_Mapping_api_Mapping : Enters Tryz.prog 62 := ⟨Tryz.f62, Tryz.func62, by kernel_rfl, by kernel_rfl⟩
theorem dt_slices_Contains_api_Mapping_api_Mapping {ds : List D} {d : D} (h : funD Tryz.prog H_slices_Contains_api_Mapping_api_Mapping M 4 fh_slices_Contains_api_Mapping_api_Mapping__slices_Contains_api_Mapping_api_Mapping Tryz.f62 ds = some d) : DataSem Tryz.prog 62 ds d := data_sound (H := H_slices_Contains_api_Mapping_api_Mapping) (SpOk.cons ds_slices_Index_api_Mapping_api_Mapping SpOk.nil) mixed InlOk.nil Tryz.func62 en_slices_Contains_api_Mapping_api_Mapping h
noncomputable def sp_slices_Contains_api_Mapping_api_Mapping : List D → Option D
  | [.list a0n a0c a0, .agg a1] => F_slices_Contains_api_Mapping_api_Mapping M a0n a0c a0 a1
  | _ => none
theorem ds_slices_Contains_api_Mapping_api_Mapping : ∀ ds d, sp_slices_Contains_api_Mapping_api_Mapping ds = some d → DataSem Tryz.prog 62 ds d := by
  intro ds d h
  unfold sp_slices_Contains_api_Mapping_api_Mapping at h
  split at h
  · exact dt_slices_Contains_api_Mapping_api_Mapping ((F_slices_Contains_api_Mapping_api_Mapping_eq M _ _ _ _).trans h)
  · cases h

-- ('str', '"vidimus/records.policy"')
def fh_records_policy__records_policy : FnH := ⟨[(6, ⟨[false, false, false, false, false, true, false, false, false, false, false, false, false, false, false, false, false, false, false, false, false, false, false, false, true, true, true, false, false, false, false, false, false, false, false, false, false, false, false, false, false, false, false, false, false, false, false, false, false, false, false, false, false], [], (some 1)⟩), (14, ⟨[false, false, false, false, false, false, false, false, false, false, false, false, false, false, false, false, false, false, false, false, false, false, false, false, false, false, false, false, false, false, false, false, false, false, false, false, false, false, false, false, false, true, true, true, false, false, false, false, false, false, false, false, false], [], (some 0)⟩)], []⟩
noncomputable def H_records_policy : Hints := ⟨[(58, sp_oids_Check), (72, sp_qualifiers_Check)], [], []⟩
noncomputable def F_records_policy_6 (m n0 : Nat) (y0_0 : Nat) (y0_1 : Option Nat) (y0_2 : List D) (y0_3 : Int) (y0_4 : Int) (y0_5 : List D) : Option D :=
 loopIter [false, false, false, false, false, true, false, false, false, false, false, false, false, false, false, false, false, false, false, false, false, false, false, false, true, true, true, false, false, false, false, false, false, false, false, false, false, false, false, false, false, false, false, false, false, false, false, false, false, false, false, false, false] 0 1 (codeK Tryz.prog H_records_policy.sp ⟨0, [], false, []⟩ (inlK Tryz.prog H_records_policy m 4) m fh_records_policy__records_policy (subc [1, 1, 1, 0, 1, 0, 0] (bodyOf Tryz.f61))) n0 ⟨[.junk, .junk, .junk, .junk, .junk, (AV.ptr 0 0), .junk, .junk, .junk, .junk, .junk, .junk, .junk, .junk, .junk, .junk, .junk, .junk, .junk, .junk, .junk, .junk, .junk, .junk, (AV.d (D.list y0_0 y0_1 y0_2)), (AV.d (D.v (.int .i64 y0_3))), (AV.d (D.v (.int .i64 y0_4))), .junk, .junk, .junk, .junk, .junk, .junk, .junk, .junk, .junk, .junk, .junk, .junk, .junk, .junk, .junk, .junk, .junk, .junk, .junk, .junk, .junk, .junk, .junk, .junk, .junk, .junk], [(Blk.d 18 y0_5)]⟩
  (contK Tryz.prog H_records_policy.sp ⟨0, [], false, []⟩ (inlK Tryz.prog H_records_policy m 4) m fh_records_policy__records_policy (endK Tryz.prog Tryz.f61 (fun v L => viewK L 8 v some)) [.block 0, .code (subc [1, 1, 1, 1] (bodyOf Tryz.f61))])
noncomputable def F_records_policy_14 (m n0 : Nat) (y1_0 : Nat) (y1_1 : Option Nat) (y1_2 : List D) (y1_3 : Int) (y1_4 : Int) : Option D :=
 loopIter [false, false, false, false, false, false, false, false, false, false, false, false, false, false, false, false, false, false, false, false, false, false, false, false, false, false, false, false, false, false, false, false, false, false, false, false, false, false, false, false, false, true, true, true, false, false, false, false, false, false, false, false, false] 0 0 (codeK Tryz.prog H_records_policy.sp ⟨0, [], false, []⟩ (inlK Tryz.prog H_records_policy m 4) m fh_records_policy__records_policy (subc [1, 1, 1, 1, 1, 0, 1, 0, 0] (bodyOf Tryz.f61))) n0 ⟨[.junk, .junk, .junk, .junk, .junk, .junk, .junk, .junk, .junk, .junk, .junk, .junk, .junk, .junk, .junk, .junk, .junk, .junk, .junk, .junk, .junk, .junk, .junk, .junk, .junk, .junk, .junk, .junk, .junk, .junk, .junk, .junk, .junk, .junk, .junk, .junk, .junk, .junk, .junk, .junk, .junk, (AV.d (D.list y1_0 y1_1 y1_2)), (AV.d (D.v (.int .i64 y1_3))), (AV.d (D.v (.int .i64 y1_4))), .junk, .junk, .junk, .junk, .junk, .junk, .junk, .junk, .junk], []⟩
  (contK Tryz.prog H_records_policy.sp ⟨0, [], false, []⟩ (inlK Tryz.prog H_records_policy m 4) m fh_records_policy__records_policy (endK Tryz.prog Tryz.f61 (fun v L => viewK L 8 v some)) [.block 2, .code (subc [1, 1, 1, 1, 1, 1] (bodyOf Tryz.f61))])
theorem F_records_policy_14_s (m n0 : Nat) (y1_0 : Nat) (y1_1 : Option Nat) (y1_2 : List D) (y1_3 : Int) (y1_4 : Int) : F_records_policy_14 m (n0 + 1) y1_0 y1_1 y1_2 y1_3 y1_4 =
 (cond (decide (y1_4 < y1_3))
 (if 0 ≤ y1_4 ∧ y1_4 < ((y1_0 : Nat) : Int) then
 if (((Int.toNat y1_4) * 27) + 27) ≤ (List.length y1_2) then
 if (List.length ((List.drop ((Int.toNat y1_4) * 27) y1_2).take 27)) = 27 then
 (sp_qualifiers_Check [(D.agg ((List.drop ((Int.toNat y1_4) * 27) y1_2).take 27))]).bind fun d12 =>
 (rdI .i64 (some d12)).bind fun x13 =>
 cond (x13 != (0 : Int))
 (some (D.v (.int .i64 x13)))
 (F_records_policy_14 m n0 y1_0 y1_1 y1_2 y1_3 (IntKind.wrap .i64 (y1_4 + (1 : Int))))
 else none
 else none
 else none)
 (some (D.v (.int .i64 (0 : Int))))) := by kernel_rfl
theorem F_records_policy_6_s (m n0 : Nat) (y0_0 : Nat) (y0_1 : Option Nat) (y0_2 : List D) (y0_3 : Int) (y0_4 : Int) (y0_5 : List D) : F_records_policy_6 m (n0 + 1) y0_0 y0_1 y0_2 y0_3 y0_4 y0_5 =
 (cond (decide (y0_4 < y0_3))
 (if 0 ≤ y0_4 ∧ y0_4 < ((y0_0 : Nat) : Int) then
 if (((Int.toNat y0_4) * 18) + 18) ≤ (List.length y0_2) then
 if (List.length ((List.drop ((Int.toNat y0_4) * 18) y0_2).take 18)) = 18 then
 (cellsEq [.int, .int, .int, .int, .int, .int, .int, .int, .int, .int, .int, .int, .int, .int, .int, .int, .int] ((List.drop 0 ((List.drop ((Int.toNat y0_4) * 18) y0_2).take 18)).take 17) ((List.drop 0 y0_5).take 17)).bind fun b5 =>
 cond b5
 (some (D.v (.int .i64 (14 : Int))))
 (F_records_policy_6 m n0 y0_0 y0_1 y0_2 y0_3 (IntKind.wrap .i64 (y0_4 + (1 : Int))) y0_5)
 else none
 else none
 else none)
 ((rdL y0_5[17]?).bind fun q6 =>
 cond (decide (((q6.n : Nat) : Int) > (8 : Int)))
 (some (D.v (.int .i64 (3 : Int))))
 ((rdL y0_5[17]?).bind fun q7 =>
 F_records_policy_14 m m q7.n q7.cap q7.cs ((q7.n : Nat) : Int) (0 : Int)))) := by kernel_rfl
noncomputable def F_records_policy (m : Nat) (a0n : Nat) (a0c : Option Nat) (a0 : List D) (a1 : Int) : Option D :=
 if 0 ≤ a1 ∧ a1 < ((a0n : Nat) : Int) then
 if (((Int.toNat a1) * 18) + 18) ≤ (List.length a0) then
 if (List.length ((List.drop ((Int.toNat a1) * 18) a0).take 18)) = 18 then
 (sp_oids_Check [(D.agg ((List.drop 0 ((List.drop ((Int.toNat a1) * 18) a0).take 18)).take 17))]).bind fun d1 =>
 (rdI .i64 (some d1)).bind fun x2 =>
 cond (x2 != (0 : Int))
 (some (D.v (.int .i64 x2)))
 (if 0 ≤ a1 ∧ a1 ≤ ((a0n : Nat) : Int) then
 F_records_policy_6 m m ((Int.toNat a1) - 0) (Option.map (fun q => q - 0) a0c) ((List.drop 0 a0).take (((Int.toNat a1) - 0) * 18)) ((((Int.toNat a1) - 0) : Nat) : Int) (0 : Int) ((List.drop ((Int.toNat a1) * 18) a0).take 18)
 else none)
 else none
 else none
 else none
theorem F_records_policy_eq (m : Nat) (a0n : Nat) (a0c : Option Nat) (a0 : List D) (a1 : Int) : funD Tryz.prog H_records_policy m 4 fh_records_policy__records_policy Tryz.f61 [(D.list a0n a0c a0), (D.v (.int .i64 a1))] = F_records_policy m a0n a0c a0 a1 := by kernel_rfl
theorem en_records_policy : Enters Tryz.prog 61 := ⟨Tryz.f61, Tryz.func61, by kernel_rfl, by kernel_rfl⟩
theorem dt_records_policy {ds : List D} {d : D} (h : funD Tryz.prog H_records_policy M 4 fh_records_policy__records_policy Tryz.f61 ds = some d) : DataSem Tryz.prog 61 ds d := data_sound (H := H_records_policy) (SpOk.cons ds_oids_Check (SpOk.cons ds_qualifiers_Check SpOk.nil)) mixed InlOk.nil Tryz.func61 en_records_policy h
noncomputable def sp_records_policy : List D → Option D
  | [.list a0n a0c a0, .v (.int .i64 a1)] => F_records_policy M a0n a0c a0 a1
  | _ => none
theorem ds_records_policy : ∀ ds d, sp_records_policy ds = some d → DataSem Tryz.prog 61 ds d := by
  intro ds d h
  unfold sp_records_policy at h
  split at h
  · exact dt_records_policy ((F_records_policy_eq M _ _ _ _).trans h)
  · cases h

-- ('str', '"vidimus/records.Check"')
def fh_records_Check__records_Check : FnH := ⟨[(5, ⟨[false, true, false, false, false, false, false, false, false, false, false, false, false, false, false, false, false, true, true, false, false, false, false, false, false, false, false, false, false, false, false, false, false, false, false, false, false, false, false, false, false, false, false, false, false, false, false, false, false, false, false, false, false, false, false, false], [], (some 1)⟩), (12, ⟨[false, true, false, false, false, false, false, false, false, false, false, false, false, false, false, false, false, false, false, false, false, false, false, false, false, false, false, false, false, false, true, true, true, false, false, false, false, false, false, false, false, false, false, false, false, false, false, false, false, false, false, false, false, false, false, false], [], (some 1)⟩)], []⟩
noncomputable def H_records_Check : Hints := ⟨[(58, sp_oids_Check), (60, sp_records_shape), (61, sp_records_policy), (62, sp_slices_Contains_api_Mapping_api_Mapping)], [], []⟩
noncomputable def F_records_Check_5 (m n0 : Nat) (y0_0 : Int) (y0_1 : Int) (y0_2 : Bool) (y0_3 : Bool) (y0_4 : Nat) (y0_5 : Option Nat) (y0_6 : List D) (y0_7 : Bool) (y0_8 : Nat) (y0_9 : Option Nat) (y0_10 : List D) (y0_11 : Int) (y0_12 : Int) (y0_13 : Int) : Option D :=
 loopIter [false, true, false, false, false, false, false, false, false, false, false, false, false, false, false, false, false, true, true, false, false, false, false, false, false, false, false, false, false, false, false, false, false, false, false, false, false, false, false, false, false, false, false, false, false, false, false, false, false, false, false, false, false, false, false, false] 0 1 (codeK Tryz.prog H_records_Check.sp ⟨0, [], false, []⟩ (inlK Tryz.prog H_records_Check m 4) m fh_records_Check__records_Check (subc [1, 1, 0, 1, 0, 0] (bodyOf Tryz.f55))) n0 ⟨[.junk, (AV.ptr 0 0), .junk, .junk, .junk, .junk, .junk, .junk, .junk, .junk, .junk, .junk, .junk, .junk, .junk, .junk, .junk, (AV.d (D.v (.int .i64 y0_0))), (AV.d (D.v (.int .i64 y0_1))), .junk, .junk, .junk, .junk, .junk, .junk, .junk, .junk, .junk, .junk, .junk, .junk, .junk, .junk, .junk, .junk, .junk, .junk, .junk, .junk, .junk, .junk, .junk, .junk, .junk, .junk, .junk, .junk, .junk, .junk, .junk, .junk, .junk, .junk, .junk, .junk, .junk], [(Blk.d 8 [(D.v (.bool y0_2)), (D.v (.bool y0_3)), (D.list y0_4 y0_5 y0_6), (D.v (.bool y0_7)), (D.list y0_8 y0_9 y0_10), (D.v (.int .i64 y0_11)), (D.v (.int .i64 y0_12)), (D.v (.int .i64 y0_13))])]⟩
  (contK Tryz.prog H_records_Check.sp ⟨0, [], false, []⟩ (inlK Tryz.prog H_records_Check m 4) m fh_records_Check__records_Check (endK Tryz.prog Tryz.f55 (fun v L => viewK L 8 v some)) [.block 0, .code (subc [1, 1, 1] (bodyOf Tryz.f55))])
noncomputable def F_records_Check_12 (m n0 : Nat) (y1_0 : Nat) (y1_1 : Option Nat) (y1_2 : List D) (y1_3 : Int) (y1_4 : Int) (y1_5 : Bool) (y1_6 : Bool) (y1_7 : Nat) (y1_8 : Option Nat) (y1_9 : List D) (y1_10 : Bool) (y1_11 : Int) (y1_12 : Int) (y1_13 : Int) : Option D :=
 loopIter [false, true, false, false, false, false, false, false, false, false, false, false, false, false, false, false, false, false, false, false, false, false, false, false, false, false, false, false, false, false, true, true, true, false, false, false, false, false, false, false, false, false, false, false, false, false, false, false, false, false, false, false, false, false, false, false] 0 1 (codeK Tryz.prog H_records_Check.sp ⟨0, [], false, []⟩ (inlK Tryz.prog H_records_Check m 4) m fh_records_Check__records_Check (subc [1, 1, 1, 0, 1, 0, 0] (bodyOf Tryz.f55))) n0 ⟨[.junk, (AV.ptr 0 0), .junk, .junk, .junk, .junk, .junk, .junk, .junk, .junk, .junk, .junk, .junk, .junk, .junk, .junk, .junk, .junk, .junk, .junk, .junk, .junk, .junk, .junk, .junk, .junk, .junk, .junk, .junk, .junk, (AV.d (D.list y1_0 y1_1 y1_2)), (AV.d (D.v (.int .i64 y1_3))), (AV.d (D.v (.int .i64 y1_4))), .junk, .junk, .junk, .junk, .junk, .junk, .junk, .junk, .junk, .junk, .junk, .junk, .junk, .junk, .junk, .junk, .junk, .junk, .junk, .junk, .junk, .junk, .junk], [(Blk.d 8 [(D.v (.bool y1_5)), (D.v (.bool y1_6)), (D.list y1_7 y1_8 y1_9), (D.v (.bool y1_10)), (D.list y1_0 y1_1 y1_2), (D.v (.int .i64 y1_11)), (D.v (.int .i64 y1_12)), (D.v (.int .i64 y1_13))])]⟩
  (contK Tryz.prog H_records_Check.sp ⟨0, [], false, []⟩ (inlK Tryz.prog H_records_Check m 4) m fh_records_Check__records_Check (endK Tryz.prog Tryz.f55 (fun v L => viewK L 8 v some)) [.block 2, .code (subc [1, 1, 1, 1] (bodyOf Tryz.f55))])
theorem F_records_Check_12_s (m n0 : Nat) (y1_0 : Nat) (y1_1 : Option Nat) (y1_2 : List D) (y1_3 : Int) (y1_4 : Int) (y1_5 : Bool) (y1_6 : Bool) (y1_7 : Nat) (y1_8 : Option Nat) (y1_9 : List D) (y1_10 : Bool) (y1_11 : Int) (y1_12 : Int) (y1_13 : Int) : F_records_Check_12 m (n0 + 1) y1_0 y1_1 y1_2 y1_3 y1_4 y1_5 y1_6 y1_7 y1_8 y1_9 y1_10 y1_11 y1_12 y1_13 =
 (cond (decide (y1_4 < y1_3))
 (if 0 ≤ y1_4 ∧ y1_4 < ((y1_0 : Nat) : Int) then
 if (((Int.toNat y1_4) * 34) + 34) ≤ (List.length y1_2) then
 if (List.length ((List.drop ((Int.toNat y1_4) * 34) y1_2).take 34)) = 34 then
 (sp_oids_Check [(D.agg ((List.drop 0 ((List.drop ((Int.toNat y1_4) * 34) y1_2).take 34)).take 17))]).bind fun d21 =>
 (rdI .i64 (some d21)).bind fun x22 =>
 cond (x22 != (0 : Int))
 (some (D.v (.int .i64 x22)))
 ((sp_oids_Check [(D.agg ((List.drop 17 ((List.drop ((Int.toNat y1_4) * 34) y1_2).take 34)).take 17))]).bind fun d23 =>
 (rdI .i64 (some d23)).bind fun x24 =>
 cond (x24 != (0 : Int))
 (some (D.v (.int .i64 x24)))
 (if 0 ≤ y1_4 ∧ y1_4 ≤ ((y1_0 : Nat) : Int) then
 (sp_slices_Contains_api_Mapping_api_Mapping [(D.list ((Int.toNat y1_4) - 0) (Option.map (fun q => q - 0) y1_1) ((List.drop 0 y1_2).take (((Int.toNat y1_4) - 0) * 34))), (D.agg ((List.drop ((Int.toNat y1_4) * 34) y1_2).take 34))]).bind fun d25 =>
 (rdB (some d25)).bind fun b26 =>
 cond b26
 (some (D.v (.int .i64 (14 : Int))))
 (F_records_Check_12 m n0 y1_0 y1_1 y1_2 y1_3 (IntKind.wrap .i64 (y1_4 + (1 : Int))) y1_5 y1_6 y1_7 y1_8 y1_9 y1_10 y1_11 y1_12 y1_13)
 else none))
 else none
 else none
 else none)
 (some (D.v (.int .i64 (0 : Int))))) := by kernel_rfl
theorem F_records_Check_5_s (m n0 : Nat) (y0_0 : Int) (y0_1 : Int) (y0_2 : Bool) (y0_3 : Bool) (y0_4 : Nat) (y0_5 : Option Nat) (y0_6 : List D) (y0_7 : Bool) (y0_8 : Nat) (y0_9 : Option Nat) (y0_10 : List D) (y0_11 : Int) (y0_12 : Int) (y0_13 : Int) : F_records_Check_5 m (n0 + 1) y0_0 y0_1 y0_2 y0_3 y0_4 y0_5 y0_6 y0_7 y0_8 y0_9 y0_10 y0_11 y0_12 y0_13 =
 (cond (decide (y0_1 < y0_0))
 ((sp_records_policy [(D.list y0_4 y0_5 y0_6), (D.v (.int .i64 y0_1))]).bind fun d7 =>
 (rdI .i64 (some d7)).bind fun x8 =>
 cond (x8 != (0 : Int))
 (some (D.v (.int .i64 x8)))
 (F_records_Check_5 m n0 y0_0 (IntKind.wrap .i64 (y0_1 + (1 : Int))) y0_2 y0_3 y0_4 y0_5 y0_6 y0_7 y0_8 y0_9 y0_10 y0_11 y0_12 y0_13))
 (F_records_Check_12 m m y0_8 y0_9 y0_10 ((y0_8 : Nat) : Int) (0 : Int) y0_2 y0_3 y0_4 y0_5 y0_6 y0_7 y0_11 y0_12 y0_13)) := by kernel_rfl
noncomputable def F_records_Check (m : Nat) (a0_0 : Bool) (a0_1 : Bool) (a0_2n : Nat) (a0_2c : Option Nat) (a0_2 : List D) (a0_3 : Bool) (a0_4n : Nat) (a0_4c : Option Nat) (a0_4 : List D) (a0_5 : Int) (a0_6 : Int) (a0_7 : Int) : Option D :=
 (sp_records_shape [(D.agg [(D.v (.bool a0_0)), (D.v (.bool a0_1)), (D.list a0_2n a0_2c a0_2), (D.v (.bool a0_3)), (D.list a0_4n a0_4c a0_4), (D.v (.int .i64 a0_5)), (D.v (.int .i64 a0_6)), (D.v (.int .i64 a0_7))])]).bind fun d1 =>
 (rdI .i64 (some d1)).bind fun x2 =>
 cond (x2 != (0 : Int))
 (some (D.v (.int .i64 x2)))
 (F_records_Check_5 m m ((a0_2n : Nat) : Int) (0 : Int) a0_0 a0_1 a0_2n a0_2c a0_2 a0_3 a0_4n a0_4c a0_4 a0_5 a0_6 a0_7)
theorem F_records_Check_eq (m : Nat) (a0_0 : Bool) (a0_1 : Bool) (a0_2n : Nat) (a0_2c : Option Nat) (a0_2 : List D) (a0_3 : Bool) (a0_4n : Nat) (a0_4c : Option Nat) (a0_4 : List D) (a0_5 : Int) (a0_6 : Int) (a0_7 : Int) : funD Tryz.prog H_records_Check m 4 fh_records_Check__records_Check Tryz.f55 [(D.agg [(D.v (.bool a0_0)), (D.v (.bool a0_1)), (D.list a0_2n a0_2c a0_2), (D.v (.bool a0_3)), (D.list a0_4n a0_4c a0_4), (D.v (.int .i64 a0_5)), (D.v (.int .i64 a0_6)), (D.v (.int .i64 a0_7))])] = F_records_Check m a0_0 a0_1 a0_2n a0_2c a0_2 a0_3 a0_4n a0_4c a0_4 a0_5 a0_6 a0_7 := by kernel_rfl
theorem en_records_Check : Enters Tryz.prog 55 := ⟨Tryz.f55, Tryz.func55, by kernel_rfl, by kernel_rfl⟩
theorem dt_records_Check {ds : List D} {d : D} (h : funD Tryz.prog H_records_Check M 4 fh_records_Check__records_Check Tryz.f55 ds = some d) : DataSem Tryz.prog 55 ds d := data_sound (H := H_records_Check) (SpOk.cons ds_oids_Check (SpOk.cons ds_records_shape (SpOk.cons ds_records_policy (SpOk.cons ds_slices_Contains_api_Mapping_api_Mapping SpOk.nil)))) mixed InlOk.nil Tryz.func55 en_records_Check h
noncomputable def sp_records_Check : List D → Option D
  | [.agg [.v (.bool a0_0), .v (.bool a0_1), .list a0_2n a0_2c a0_2, .v (.bool a0_3), .list a0_4n a0_4c a0_4, .v (.int .i64 a0_5), .v (.int .i64 a0_6), .v (.int .i64 a0_7)]] => F_records_Check M a0_0 a0_1 a0_2n a0_2c a0_2 a0_3 a0_4n a0_4c a0_4 a0_5 a0_6 a0_7
  | _ => none
theorem ds_records_Check : ∀ ds d, sp_records_Check ds = some d → DataSem Tryz.prog 55 ds d := by
  intro ds d h
  unfold sp_records_Check at h
  split at h
  · exact dt_records_Check ((F_records_Check_eq M _ _ _ _ _ _ _ _ _ _ _ _).trans h)
  · cases h

-- ('str', '"vidimus/records.Chain"')
def fh_records_Chain__records_Chain : FnH := ⟨[(6, ⟨[false, false, false, false, false, false, false, false, false, false, false, false, true, true, true, false, false, false, false, false, false, false, false, false], [], (some 0)⟩)], []⟩
noncomputable def H_records_Chain : Hints := ⟨[(55, sp_records_Check)], [], []⟩
noncomputable def F_records_Chain_6 (m n0 : Nat) (y0_0 : Nat) (y0_1 : Option Nat) (y0_2 : List D) (y0_3 : Int) (y0_4 : Int) : Option D :=
 loopIter [false, false, false, false, false, false, false, false, false, false, false, false, true, true, true, false, false, false, false, false, false, false, false, false] 0 0 (codeK Tryz.prog H_records_Chain.sp ⟨0, [], false, []⟩ (inlK Tryz.prog H_records_Chain m 4) m fh_records_Chain__records_Chain (subc [1, 1, 1, 0, 1, 0, 0] (bodyOf Tryz.f53))) n0 ⟨[.junk, .junk, .junk, .junk, .junk, .junk, .junk, .junk, .junk, .junk, .junk, .junk, (AV.d (D.list y0_0 y0_1 y0_2)), (AV.d (D.v (.int .i64 y0_3))), (AV.d (D.v (.int .i64 y0_4))), .junk, .junk, .junk, .junk, .junk, .junk, .junk, .junk, .junk], []⟩
  (contK Tryz.prog H_records_Chain.sp ⟨0, [], false, []⟩ (inlK Tryz.prog H_records_Chain m 4) m fh_records_Chain__records_Chain (endK Tryz.prog Tryz.f53 (fun v L => viewK L 8 v some)) [.block 0, .code (subc [1, 1, 1, 1] (bodyOf Tryz.f53))])
theorem F_records_Chain_6_s (m n0 : Nat) (y0_0 : Nat) (y0_1 : Option Nat) (y0_2 : List D) (y0_3 : Int) (y0_4 : Int) : F_records_Chain_6 m (n0 + 1) y0_0 y0_1 y0_2 y0_3 y0_4 =
 (cond (decide (y0_4 < y0_3))
 (if 0 ≤ y0_4 ∧ y0_4 < ((y0_0 : Nat) : Int) then
 if (((Int.toNat y0_4) * 8) + 8) ≤ (List.length y0_2) then
 if (List.length ((List.drop ((Int.toNat y0_4) * 8) y0_2).take 8)) = 8 then
 (sp_records_Check [(D.agg ((List.drop ((Int.toNat y0_4) * 8) y0_2).take 8))]).bind fun d5 =>
 (rdI .i64 (some d5)).bind fun x6 =>
 cond (x6 != (0 : Int))
 (some (D.v (.int .i64 x6)))
 (F_records_Chain_6 m n0 y0_0 y0_1 y0_2 y0_3 (IntKind.wrap .i64 (y0_4 + (1 : Int))))
 else none
 else none
 else none)
 (some (D.v (.int .i64 (0 : Int))))) := by kernel_rfl
noncomputable def F_records_Chain (m : Nat) (a0n : Nat) (a0c : Option Nat) (a0 : List D) : Option D :=
 cond (((a0n : Nat) : Int) == (0 : Int))
 (some (D.v (.int .i64 (17 : Int))))
 (cond (decide (((a0n : Nat) : Int) > (64 : Int)))
 (some (D.v (.int .i64 (3 : Int))))
 (F_records_Chain_6 m m a0n a0c a0 ((a0n : Nat) : Int) (0 : Int)))
theorem F_records_Chain_eq (m : Nat) (a0n : Nat) (a0c : Option Nat) (a0 : List D) : funD Tryz.prog H_records_Chain m 4 fh_records_Chain__records_Chain Tryz.f53 [(D.list a0n a0c a0)] = F_records_Chain m a0n a0c a0 := by kernel_rfl
theorem en_records_Chain : Enters Tryz.prog 53 := ⟨Tryz.f53, Tryz.func53, by kernel_rfl, by kernel_rfl⟩
theorem dt_records_Chain {ds : List D} {d : D} (h : funD Tryz.prog H_records_Chain M 4 fh_records_Chain__records_Chain Tryz.f53 ds = some d) : DataSem Tryz.prog 53 ds d := data_sound (H := H_records_Chain) (SpOk.cons ds_records_Check SpOk.nil) mixed InlOk.nil Tryz.func53 en_records_Chain h
noncomputable def sp_records_Chain : List D → Option D
  | [.list a0n a0c a0] => F_records_Chain M a0n a0c a0
  | _ => none
theorem ds_records_Chain : ∀ ds d, sp_records_Chain ds = some d → DataSem Tryz.prog 53 ds d := by
  intro ds d h
  unfold sp_records_Chain at h
  split at h
  · exact dt_records_Chain ((F_records_Chain_eq M _ _ _).trans h)
  · cases h

-- ('str', '"vidimus/vidimusref23.policy"')
end Go.Ev
