/- Functions of the given program in plain form, printed: each with the proof that it is what the evaluator comes to, and that the program function returns what it says. No conditions. -/
import Derived.Test.YtkefahdbckjajaaGreatDoorEzG1
set_option linter.unusedVariables false
set_option maxRecDepth 100000
namespace Go.Ev
open Go Go.Proofs

-- ('str', '"vidimus/vidimusref23.Any"')
def Zfo : FnH := ⟨[], []⟩
noncomputable def Zrj : Hints := ⟨[], [], []⟩
noncomputable def Zw9 (m : Nat)  : Option D :=
 some (D.agg [(D.v (.int .u8 (5 : Int))), (D.v (.int .u32 (2 : Int))), (D.v (.int .u32 (5 : Int))), (D.v (.int .u32 (29 : Int))), (D.v (.int .u32 (32 : Int))), zU, zU, zU, zU, zU, zU, zU, zU, zU, zU, zU, zU])
theorem Zxn (m : Nat)  : funD Tryz.prog Zrj m 4 Zfo Tryz.f35 [] = Zw9 m  := by kernel_rfl
theorem Zzq : Enters Tryz.prog 35 := ⟨Tryz.f35, Tryz.func35, by kernel_rfl, by kernel_rfl⟩
theorem Zzr {ds : List D} {d : D} (h : funD Tryz.prog Zrj M 4 Zfo Tryz.f35 ds = some d) : DataSem Tryz.prog 35 ds d := data_sound (H := Zrj) SpOk.nil mixed InlOk.nil Tryz.func35 Zzq h
noncomputable def Zik : List D → Option D
  | [] => Zw9 M 
  | _ => none
theorem Zug : ∀ ds d, Zik ds = some d → DataSem Tryz.prog 35 ds d := by
  intro ds d h
  unfold Zik at h
  split at h
  · exact Zzr ((Zxn M ).trans h)
  · cases h

-- ('str', '"vidimus/vidimuslaw23.Policy"')
def Z8l : FnH := ⟨[], []⟩
noncomputable def Zmj : Hints := ⟨[(35, Zik)], [], []⟩
noncomputable def Zh8 (m : Nat) (a0 : Int) : Option D :=
 cond ((Int.tmod a0 (7 : Int)) == (6 : Int))
 ((Zik []).bind fun d1 =>
 (rdA (some d1)).bind fun c2 =>
 if (List.length c2) = 17 then
 some (D.agg c2)
 else none)
 (some (D.agg [(D.v (.int .u8 (3 : Int))), (D.v (.int .u32 (1 : Int))), (D.v (.int .u32 (2 : Int))), (D.v (.int .u32 (IntKind.wrap .u32 ((3 : Int) + (IntKind.wrap .u32 (Int.tmod a0 (7 : Int))))))), zU, zU, zU, zU, zU, zU, zU, zU, zU, zU, zU, zU, zU]))
theorem Ztn (m : Nat) (a0 : Int) : funD Tryz.prog Zmj m 4 Z8l Tryz.f38 [(D.v (.int .u8 a0))] = Zh8 m a0 := by kernel_rfl
theorem Zwa : Enters Tryz.prog 38 := ⟨Tryz.f38, Tryz.func38, by kernel_rfl, by kernel_rfl⟩
theorem Zwb {ds : List D} {d : D} (h : funD Tryz.prog Zmj M 4 Z8l Tryz.f38 ds = some d) : DataSem Tryz.prog 38 ds d := data_sound (H := Zmj) (SpOk.cons Zug SpOk.nil) mixed InlOk.nil Tryz.func38 Zwa h
noncomputable def Z4v : List D → Option D
  | [.v (.int .u8 a0)] => Zh8 M a0
  | _ => none
theorem Zkp : ∀ ds d, Z4v ds = some d → DataSem Tryz.prog 38 ds d := by
  intro ds d h
  unfold Z4v at h
  split at h
  · exact Zwb ((Ztn M _).trans h)
  · cases h

-- ('str', '"vidimus/vidimuslaw23.Notes"')
def Zbb : FnH := ⟨[], []⟩
noncomputable def Zno : Hints := ⟨[], [], []⟩
noncomputable def Zjs (m : Nat) (a0 : Int) : Option D :=
 cond ((Int.tmod a0 (4 : Int)) == (1 : Int))
 (some (D.list 1 (some 1) [(D.v (.int .u8 (1 : Int))), (D.v (.string (ByteArray.mk #[104, 116, 116, 112, 58, 47, 47, 97]))), (D.v (.bool false)), zU, (D.v (.string (ByteArray.mk #[]))), (D.list 0 (some 0) []), (D.v (.bool false)), zU, (D.v (.string (ByteArray.mk #[]))), (D.v (.int .u8 (0 : Int))), zU, zU, zU, zU, zU, zU, zU, zU, zU, zU, zU, zU, zU, zU, zU, zU, (D.list 0 (some 0) [])]))
 (cond ((Int.tmod a0 (4 : Int)) == (2 : Int))
 (some (D.list 1 (some 1) [(D.v (.int .u8 (2 : Int))), (D.v (.string (ByteArray.mk #[]))), (D.v (.bool false)), zU, (D.v (.string (ByteArray.mk #[]))), (D.list 0 (some 0) []), (D.v (.bool true)), (D.v (.int .u32 (12 : Int))), (D.v (.string (ByteArray.mk #[98]))), (D.v (.int .u8 (0 : Int))), zU, zU, zU, zU, zU, zU, zU, zU, zU, zU, zU, zU, zU, zU, zU, zU, (D.list 0 (some 0) [])]))
 (cond ((Int.tmod a0 (4 : Int)) == (3 : Int))
 (some (D.list 2 (some 2) [(D.v (.int .u8 (2 : Int))), (D.v (.string (ByteArray.mk #[]))), (D.v (.bool false)), zU, (D.v (.string (ByteArray.mk #[]))), (D.list 0 (some 0) []), (D.v (.bool true)), (D.v (.int .u32 (12 : Int))), (D.v (.string (ByteArray.mk #[98]))), (D.v (.int .u8 (0 : Int))), zU, zU, zU, zU, zU, zU, zU, zU, zU, zU, zU, zU, zU, zU, zU, zU, (D.list 0 (some 0) []), (D.v (.int .u8 (1 : Int))), (D.v (.string (ByteArray.mk #[104, 116, 116, 112, 58, 47, 47, 97]))), (D.v (.bool false)), zU, (D.v (.string (ByteArray.mk #[]))), (D.list 0 (some 0) []), (D.v (.bool false)), zU, (D.v (.string (ByteArray.mk #[]))), (D.v (.int .u8 (0 : Int))), zU, zU, zU, zU, zU, zU, zU, zU, zU, zU, zU, zU, zU, zU, zU, zU, (D.list 0 (some 0) [])]))
 (some (D.list 0 (some 0) []))))
theorem Zv4 (m : Nat) (a0 : Int) : funD Tryz.prog Zno m 4 Zbb Tryz.f73 [(D.v (.int .u8 a0))] = Zjs m a0 := by kernel_rfl
theorem Zxo : Enters Tryz.prog 73 := ⟨Tryz.f73, Tryz.func73, by kernel_rfl, by kernel_rfl⟩
theorem Zxp {ds : List D} {d : D} (h : funD Tryz.prog Zno M 4 Zbb Tryz.f73 ds = some d) : DataSem Tryz.prog 73 ds d := data_sound (H := Zno) SpOk.nil mixed InlOk.nil Tryz.func73 Zxo h
noncomputable def Zd7 : List D → Option D
  | [.v (.int .u8 a0)] => Zjs M a0
  | _ => none
theorem Zxq : ∀ ds d, Zd7 ds = some d → DataSem Tryz.prog 73 ds d := by
  intro ds d h
  unfold Zd7 at h
  split at h
  · exact Zxp ((Zv4 M _).trans h)
  · cases h

-- ('str', '"vidimus/vidimusref23.Put"')
def Z19 : FnH := ⟨[(4, ⟨(bm 233 49), [(5, 17)], (some 2)⟩)], [(8, ⟨(bm 233 49), [], (some 2)⟩), (11, ⟨(bm 233 49), [], (some 3)⟩)]⟩
noncomputable def Z2o : Hints := ⟨[(62, Z3q)], [], []⟩
noncomputable def Zfp (m n0 : Nat) (y0_0 : Nat) (y0_1 : Option Nat) (y0_2 : List D) (y0_3 : Nat) (y0_4 : Int) (y0_5 : Int) (y0_6 : List D) (y0_7 : Nat) (y0_8 : List D) : Option D :=
 loopIter (bm 233 49) 0 2 (codeK Tryz.prog Z2o.sp ⟨0, [], false, []⟩ (inlK Tryz.prog Z2o m 4) m Z19 (subc [1, 1, 1, 0, 1, 0, 0] (bodyOf Tryz.f106))) n0 ⟨[(AV.d (D.list y0_0 y0_1 y0_2)), .junk, .junk, (AV.ptr 0 0), .junk, (AV.sl 1 0 y0_3 none 17), (AV.d (D.v (.int .i64 y0_4))), (AV.d (D.v (.int .i64 y0_5))), .junk, .junk, .junk, .junk, .junk, .junk, .junk, .junk, .junk, .junk, .junk, .junk, .junk, .junk, .junk, .junk, .junk, .junk, .junk, .junk, .junk, .junk, .junk, .junk, .junk, .junk, .junk, .junk, .junk, .junk, .junk, .junk, .junk, .junk, .junk, .junk, .junk, .junk, .junk, .junk, .junk], [(Blk.d 17 y0_6), (Blk.d y0_7 y0_8)]⟩
  (contK Tryz.prog Z2o.sp ⟨0, [], false, []⟩ (inlK Tryz.prog Z2o m 4) m Z19 (endK Tryz.prog Tryz.f106 (fun v L => viewK L 8 v some)) [.block 0, .code (subc [1, 1, 1, 1] (bodyOf Tryz.f106))])
noncomputable def Zh9 (m n0 : Nat) (u0_0 : Nat) (u0_1 : Option Nat) (u0_2 : List D) (u0_3 : Nat) (u0_4 : Int) (u0_5 : Int) (u0_6 : List D) (u0_7 : Nat) (u0_8 : List D) : Option D :=
 cutK m (codeK Tryz.prog Z2o.sp ⟨0, [], false, []⟩ (inlK Tryz.prog Z2o m 4) m Z19 (subc [1, 1, 1, 0, 1, 0, 0, 1, 0, 0, 1] (bodyOf Tryz.f106)) ⟨[(AV.d (D.list u0_0 u0_1 u0_2)), .junk, .junk, (AV.ptr 0 0), .junk, (AV.sl 1 0 u0_3 none 17), (AV.d (D.v (.int .i64 u0_4))), (AV.d (D.v (.int .i64 u0_5))), .junk, .junk, .junk, .junk, .junk, .junk, .junk, .junk, .junk, .junk, .junk, .junk, .junk, .junk, .junk, .junk, .junk, .junk, .junk, .junk, .junk, .junk, .junk, .junk, .junk, .junk, .junk, .junk, .junk, .junk, .junk, .junk, .junk, .junk, .junk, .junk, .junk, .junk, .junk, .junk, .junk], [(Blk.d 17 u0_6), (Blk.d u0_7 u0_8)]⟩
  (contK Tryz.prog Z2o.sp ⟨0, [], false, []⟩ (inlK Tryz.prog Z2o m 4) m Z19 (endK Tryz.prog Tryz.f106 (fun v L => viewK L 8 v some)) [.block 1, .code (subc [1, 1, 1, 0, 1, 0, 0, 1, 1] (bodyOf Tryz.f106)), .loop (bm 233 49) 2 (subc [1, 1, 1, 0, 1, 0, 0] (bodyOf Tryz.f106)) n0, .block 0, .code (subc [1, 1, 1, 1] (bodyOf Tryz.f106))]))
noncomputable def Zpv (m n0 : Nat) (u1_0 : Nat) (u1_1 : Option Nat) (u1_2 : List D) (u1_3 : Nat) (u1_4 : Int) (u1_5 : Int) (u1_6 : List D) (u1_7 : Nat) (u1_8 : List D) (u1_9 : List D) : Option D :=
 cutK m (codeK Tryz.prog Z2o.sp ⟨0, [], false, []⟩ (inlK Tryz.prog Z2o m 4) m Z19 (subc [1, 1, 1, 0, 1, 0, 0, 1, 0, 0, 1, 1] (bodyOf Tryz.f106)) ⟨[(AV.d (D.list u1_0 u1_1 u1_2)), .junk, .junk, (AV.ptr 0 0), .junk, (AV.sl 1 0 u1_3 none 17), (AV.d (D.v (.int .i64 u1_4))), (AV.d (D.v (.int .i64 u1_5))), .junk, .junk, .junk, .junk, .junk, .junk, .junk, .junk, .junk, .junk, .junk, .junk, .junk, .junk, .junk, .junk, .junk, .junk, .junk, .junk, .junk, .junk, .junk, .junk, .junk, .junk, .junk, .junk, .junk, .junk, .junk, .junk, .junk, .junk, .junk, .junk, .junk, .junk, .junk, .junk, .junk], [(Blk.d 17 u1_6), (Blk.d u1_7 u1_8), (Blk.d 17 u1_9)]⟩
  (contK Tryz.prog Z2o.sp ⟨0, [], false, []⟩ (inlK Tryz.prog Z2o m 4) m Z19 (endK Tryz.prog Tryz.f106 (fun v L => viewK L 8 v some)) [.block 1, .code (subc [1, 1, 1, 0, 1, 0, 0, 1, 1] (bodyOf Tryz.f106)), .loop (bm 233 49) 2 (subc [1, 1, 1, 0, 1, 0, 0] (bodyOf Tryz.f106)) n0, .block 0, .code (subc [1, 1, 1, 1] (bodyOf Tryz.f106))]))
theorem Zto (m n0 : Nat) (u1_0 : Nat) (u1_1 : Option Nat) (u1_2 : List D) (u1_3 : Nat) (u1_4 : Int) (u1_5 : Int) (u1_6 : List D) (u1_7 : Nat) (u1_8 : List D) (u1_9 : List D) : Zpv m n0 u1_0 u1_1 u1_2 u1_3 u1_4 u1_5 u1_6 u1_7 u1_8 u1_9 =
 (if 0 ≤ u1_5 ∧ u1_5 < ((u1_0 : Nat) : Int) then
 if (((Int.toNat u1_5) * 17) + 17) ≤ (List.length u1_2) then
 if (List.length ((List.drop ((Int.toNat u1_5) * 17) u1_2).take 17)) = 17 then
 if ownB ⟨0, [], false, []⟩ 1 = true ∧ u1_7 = (u1_3 * 17) ∧ fitsRow (u1_3 + 1) 68 ∧ (List.length ((List.drop ((Int.toNat u1_5) * 17) u1_2).take 17)) = 17 then
 Zfp m n0 u1_0 u1_1 u1_2 (u1_3 + 1) u1_4 (IntKind.wrap .i64 (u1_5 + (1 : Int))) u1_6 ((u1_3 + 1) * 17) (u1_8 ++ ((List.drop ((Int.toNat u1_5) * 17) u1_2).take 17))
 else none
 else none
 else none
 else none) := (cutK_eq m _).trans (by kernel_rfl)
noncomputable def Zc3 (m n0 : Nat) (u2_0 : Nat) (u2_1 : Option Nat) (u2_2 : List D) (u2_3 : Nat) (u2_4 : Int) (u2_5 : Int) (u2_6 : List D) (u2_7 : Nat) (u2_8 : List D) : Option D :=
 cutK m (codeK Tryz.prog Z2o.sp ⟨0, [], false, []⟩ (inlK Tryz.prog Z2o m 4) m Z19 (subc [1, 1, 1, 0, 1, 0, 0, 1, 0, 0, 1, 1] (bodyOf Tryz.f106)) ⟨[(AV.d (D.list u2_0 u2_1 u2_2)), .junk, .junk, (AV.ptr 0 0), .junk, (AV.sl 1 0 u2_3 none 17), (AV.d (D.v (.int .i64 u2_4))), (AV.d (D.v (.int .i64 u2_5))), .junk, .junk, .junk, .junk, .junk, .junk, .junk, .junk, .junk, .junk, .junk, .junk, .junk, .junk, .junk, .junk, .junk, .junk, .junk, .junk, .junk, .junk, .junk, .junk, .junk, .junk, .junk, .junk, .junk, .junk, .junk, .junk, .junk, .junk, .junk, .junk, .junk, .junk, .junk, .junk, .junk], [(Blk.d 17 u2_6), (Blk.d u2_7 u2_8)]⟩
  (contK Tryz.prog Z2o.sp ⟨0, [], false, []⟩ (inlK Tryz.prog Z2o m 4) m Z19 (endK Tryz.prog Tryz.f106 (fun v L => viewK L 8 v some)) [.block 1, .code (subc [1, 1, 1, 0, 1, 0, 0, 1, 1] (bodyOf Tryz.f106)), .loop (bm 233 49) 2 (subc [1, 1, 1, 0, 1, 0, 0] (bodyOf Tryz.f106)) n0, .block 0, .code (subc [1, 1, 1, 1] (bodyOf Tryz.f106))]))
theorem Zkq (m n0 : Nat) (u2_0 : Nat) (u2_1 : Option Nat) (u2_2 : List D) (u2_3 : Nat) (u2_4 : Int) (u2_5 : Int) (u2_6 : List D) (u2_7 : Nat) (u2_8 : List D) : Zc3 m n0 u2_0 u2_1 u2_2 u2_3 u2_4 u2_5 u2_6 u2_7 u2_8 =
 (if 0 ≤ u2_5 ∧ u2_5 < ((u2_0 : Nat) : Int) then
 if (((Int.toNat u2_5) * 17) + 17) ≤ (List.length u2_2) then
 if (List.length ((List.drop ((Int.toNat u2_5) * 17) u2_2).take 17)) = 17 then
 if ownB ⟨0, [], false, []⟩ 1 = true ∧ u2_7 = (u2_3 * 17) ∧ fitsRow (u2_3 + 1) 68 ∧ (List.length ((List.drop ((Int.toNat u2_5) * 17) u2_2).take 17)) = 17 then
 Zfp m n0 u2_0 u2_1 u2_2 (u2_3 + 1) u2_4 (IntKind.wrap .i64 (u2_5 + (1 : Int))) u2_6 ((u2_3 + 1) * 17) (u2_8 ++ ((List.drop ((Int.toNat u2_5) * 17) u2_2).take 17))
 else none
 else none
 else none
 else none) := (cutK_eq m _).trans (by kernel_rfl)
theorem Zv5 (m n0 : Nat) (u0_0 : Nat) (u0_1 : Option Nat) (u0_2 : List D) (u0_3 : Nat) (u0_4 : Int) (u0_5 : Int) (u0_6 : List D) (u0_7 : Nat) (u0_8 : List D) : Zh9 m n0 u0_0 u0_1 u0_2 u0_3 u0_4 u0_5 u0_6 u0_7 u0_8 =
 (cond (u0_4 == (0 : Int))
 (if 0 ≤ u0_5 ∧ u0_5 < ((u0_0 : Nat) : Int) then
 if (((Int.toNat u0_5) * 17) + 17) ≤ (List.length u0_2) then
 (Z3q [(D.agg u0_6), (D.agg ((List.drop ((Int.toNat u0_5) * 17) u0_2).take 17))]).bind fun d8 =>
 (rdI .i64 (some d8)).bind fun x9 =>
 cond (decide (x9 < (0 : Int)))
 (if (List.length u0_6) = 17 then
 if ownB ⟨0, [], false, []⟩ 1 = true ∧ u0_7 = (u0_3 * 17) ∧ fitsRow (u0_3 + 1) 68 ∧ (List.length u0_6) = 17 then
 Zpv m n0 u0_0 u0_1 u0_2 (u0_3 + 1) (1 : Int) u0_5 u0_6 ((u0_3 + 1) * 17) (u0_8 ++ u0_6) u0_6
 else none
 else none)
 (Zc3 m n0 u0_0 u0_1 u0_2 u0_3 u0_4 u0_5 u0_6 u0_7 u0_8)
 else none
 else none)
 (Zc3 m n0 u0_0 u0_1 u0_2 u0_3 u0_4 u0_5 u0_6 u0_7 u0_8)) := (cutK_eq m _).trans (by kernel_rfl)
theorem Zwc (m n0 : Nat) (y0_0 : Nat) (y0_1 : Option Nat) (y0_2 : List D) (y0_3 : Nat) (y0_4 : Int) (y0_5 : Int) (y0_6 : List D) (y0_7 : Nat) (y0_8 : List D) : Zfp m (n0 + 1) y0_0 y0_1 y0_2 y0_3 y0_4 y0_5 y0_6 y0_7 y0_8 =
 (cond (decide (y0_5 < ((y0_0 : Nat) : Int)))
 (if 0 ≤ y0_5 ∧ y0_5 < ((y0_0 : Nat) : Int) then
 if (((Int.toNat y0_5) * 17) + 17) ≤ (List.length y0_2) then
 (cellsEq [.int, .int, .int, .int, .int, .int, .int, .int, .int, .int, .int, .int, .int, .int, .int, .int, .int] ((List.drop ((Int.toNat y0_5) * 17) y0_2).take 17) y0_6).bind fun b7 =>
 cond b7
 (Zh9 m n0 y0_0 y0_1 y0_2 y0_3 (1 : Int) y0_5 y0_6 y0_7 y0_8)
 (Zh9 m n0 y0_0 y0_1 y0_2 y0_3 y0_4 y0_5 y0_6 y0_7 y0_8)
 else none
 else none)
 (cond (y0_4 == (0 : Int))
 (if (List.length y0_6) = 17 then
 if ownB ⟨0, [], false, []⟩ 1 = true ∧ y0_7 = (y0_3 * 17) ∧ fitsRow (y0_3 + 1) 68 ∧ (List.length y0_6) = 17 then
 if (0 + ((y0_3 + 1) * 17)) ≤ ((y0_3 + 1) * 17) then
 some (D.list (y0_3 + 1) none (cutL ((y0_3 + 1) * 17) (y0_8 ++ y0_6) 0 ((y0_3 + 1) * 17)))
 else none
 else none
 else none)
 (if (0 + (y0_3 * 17)) ≤ y0_7 then
 some (D.list y0_3 none (cutL y0_7 y0_8 0 (y0_3 * 17)))
 else none))) := by kernel_rfl
noncomputable def Znp (m : Nat) (a0n : Nat) (a0c : Option Nat) (a0 : List D) (a1 : List D) : Option D :=
 if (List.length a1) = 17 then
 Zfp m m a0n a0c a0 0 (0 : Int) (0 : Int) a1 0 []
 else none
theorem Zxr (m : Nat) (a0n : Nat) (a0c : Option Nat) (a0 : List D) (a1 : List D) : funD Tryz.prog Z2o m 4 Z19 Tryz.f106 [(D.list a0n a0c a0), (D.agg a1)] = Znp m a0n a0c a0 a1 := by kernel_rfl
theorem Zzs : Enters Tryz.prog 106 := ⟨Tryz.f106, Tryz.func106, by kernel_rfl, by kernel_rfl⟩
theorem Zzt {ds : List D} {d : D} (h : funD Tryz.prog Z2o M 4 Z19 Tryz.f106 ds = some d) : DataSem Tryz.prog 106 ds d := data_sound (H := Z2o) (SpOk.cons Ziy SpOk.nil) mixed InlOk.nil Tryz.func106 Zzs h
noncomputable def Zil : List D → Option D
  | [.list a0n a0c a0, .agg a1] => Znp M a0n a0c a0 a1
  | _ => none
theorem Zzu : ∀ ds d, Zil ds = some d → DataSem Tryz.prog 106 ds d := by
  intro ds d h
  unfold Zil at h
  split at h
  · exact Zzt ((Zxr M _ _ _ _).trans h)
  · cases h

-- ('str', '"vidimus/vidimuslaw26.Set"')
def Z3h : FnH := ⟨[(3, ⟨(bm 25 20), [], (some 0)⟩)], [(4, ⟨(bm 25 20), [], (some 0)⟩)]⟩
noncomputable def Z5n : Hints := ⟨[(38, Z4v), (106, Zil)], [], []⟩
noncomputable def Zjt (m n0 : Nat) (y0_0 : Int) (y0_1 : Nat) (y0_2 : Option Nat) (y0_3 : List D) (y0_4 : Int) : Option D :=
 loopIter (bm 25 20) 0 0 (codeK Tryz.prog Z5n.sp ⟨0, [], false, []⟩ (inlK Tryz.prog Z5n m 4) m Z3h (subc [1, 1, 0, 1, 0, 0] (bodyOf Tryz.f72))) n0 ⟨[(AV.d (D.v (.int .u8 y0_0))), .junk, .junk, (AV.d (D.list y0_1 y0_2 y0_3)), (AV.d (D.v (.int .i64 y0_4))), .junk, .junk, .junk, .junk, .junk, .junk, .junk, .junk, .junk, .junk, .junk, .junk, .junk, .junk, .junk], []⟩
  (contK Tryz.prog Z5n.sp ⟨0, [], false, []⟩ (inlK Tryz.prog Z5n m 4) m Z3h (endK Tryz.prog Tryz.f72 (fun v L => viewK L 8 v some)) [.block 0, .code (subc [1, 1, 1] (bodyOf Tryz.f72))])
noncomputable def Zha (m n0 : Nat) (u0_0 : Int) (u0_1 : Nat) (u0_2 : Option Nat) (u0_3 : List D) (u0_4 : Int) : Option D :=
 cutK m (codeK Tryz.prog Z5n.sp ⟨0, [], false, []⟩ (inlK Tryz.prog Z5n m 4) m Z3h (subc [1, 1, 0, 1, 0, 0, 1, 1] (bodyOf Tryz.f72)) ⟨[(AV.d (D.v (.int .u8 u0_0))), .junk, .junk, (AV.d (D.list u0_1 u0_2 u0_3)), (AV.d (D.v (.int .i64 u0_4))), .junk, .junk, .junk, .junk, .junk, .junk, .junk, .junk, .junk, .junk, .junk, .junk, .junk, .junk, .junk], []⟩
  (contK Tryz.prog Z5n.sp ⟨0, [], false, []⟩ (inlK Tryz.prog Z5n m 4) m Z3h (endK Tryz.prog Tryz.f72 (fun v L => viewK L 8 v some)) [.loop (bm 25 20) 0 (subc [1, 1, 0, 1, 0, 0] (bodyOf Tryz.f72)) n0, .block 0, .code (subc [1, 1, 1] (bodyOf Tryz.f72))]))
theorem Zv6 (m n0 : Nat) (u0_0 : Int) (u0_1 : Nat) (u0_2 : Option Nat) (u0_3 : List D) (u0_4 : Int) : Zha m n0 u0_0 u0_1 u0_2 u0_3 u0_4 =
 (Zjt m n0 u0_0 u0_1 u0_2 u0_3 (IntKind.wrap .i64 (u0_4 + (1 : Int)))) := (cutK_eq m _).trans (by kernel_rfl)
theorem Zwd (m n0 : Nat) (y0_0 : Int) (y0_1 : Nat) (y0_2 : Option Nat) (y0_3 : List D) (y0_4 : Int) : Zjt m (n0 + 1) y0_0 y0_1 y0_2 y0_3 y0_4 =
 (cond (decide (y0_4 < (7 : Int)))
 (if y0_4 < 0 then none else
 cond ((Int.tmod (Int.fdiv y0_0 (2 ^ (min (Int.toNat y0_4) (IntKind.bits .u8)))) (2 : Int)) == (1 : Int))
 ((Z4v [(D.v (.int .u8 (IntKind.wrap .u8 y0_4)))]).bind fun d9 =>
 (rdA (some d9)).bind fun c10 =>
 (Zil [(D.list y0_1 y0_2 y0_3), (D.agg c10)]).bind fun d11 =>
 (rdL (some d11)).bind fun q12 =>
 Zha m n0 y0_0 q12.n q12.cap q12.cs y0_4)
 (Zha m n0 y0_0 y0_1 y0_2 y0_3 y0_4))
 (some (D.list y0_1 y0_2 y0_3))) := by kernel_rfl
noncomputable def Znq (m : Nat) (a0 : Int) : Option D :=
 Zjt m m a0 0 (some 0) [] (0 : Int)
theorem Zxs (m : Nat) (a0 : Int) : funD Tryz.prog Z5n m 4 Z3h Tryz.f72 [(D.v (.int .u8 a0))] = Znq m a0 := by kernel_rfl
theorem Zzv : Enters Tryz.prog 72 := ⟨Tryz.f72, Tryz.func72, by kernel_rfl, by kernel_rfl⟩
theorem Zzw {ds : List D} {d : D} (h : funD Tryz.prog Z5n M 4 Z3h Tryz.f72 ds = some d) : DataSem Tryz.prog 72 ds d := data_sound (H := Z5n) (SpOk.cons Zkp (SpOk.cons Zzu SpOk.nil)) mixed InlOk.nil Tryz.func72 Zzv h
noncomputable def Zim : List D → Option D
  | [.v (.int .u8 a0)] => Znq M a0
  | _ => none
theorem Zzx : ∀ ds d, Zim ds = some d → DataSem Tryz.prog 72 ds d := by
  intro ds d h
  unfold Zim at h
  split at h
  · exact Zzw ((Zxs M _).trans h)
  · cases h

-- ('str', '"vidimus/vidimusref26.Depth"')
def Z2d : FnH := ⟨[(2, ⟨(bm 38 34), [], (some 1)⟩)], [(5, ⟨(bm 38 34), [], (some 1)⟩)]⟩
noncomputable def Z3z : Hints := ⟨[], [], []⟩
noncomputable def Zfq (m n0 : Nat) (y0_0 : Int) (y0_1 : Int) (y0_2 : Nat) (y0_3 : Option Nat) (y0_4 : List D) : Option D :=
 loopIter (bm 38 34) 0 1 (codeK Tryz.prog Z3z.sp ⟨0, [], false, []⟩ (inlK Tryz.prog Z3z m 4) m Z2d (subc [1, 1, 0, 0, 0] (bodyOf Tryz.f34))) n0 ⟨[.junk, (AV.d (D.v (.int .i64 y0_0))), (AV.ptr 0 0), .junk, .junk, (AV.d (D.v (.int .i64 y0_1))), .junk, .junk, .junk, .junk, .junk, .junk, .junk, .junk, .junk, .junk, .junk, .junk, .junk, .junk, .junk, .junk, .junk, .junk, .junk, .junk, .junk, .junk, .junk, .junk, .junk, .junk, .junk, .junk], [(Blk.d 1 [(D.list y0_2 y0_3 y0_4)])]⟩
  (contK Tryz.prog Z3z.sp ⟨0, [], false, []⟩ (inlK Tryz.prog Z3z m 4) m Z2d (endK Tryz.prog Tryz.f34 (fun v L => viewK L 8 v some)) [.block 0, .code (subc [1, 1, 1] (bodyOf Tryz.f34))])
noncomputable def Zol (m n0 : Nat) (u0_0 : Int) (u0_1 : Int) (u0_2 : Nat) (u0_3 : Option Nat) (u0_4 : List D) : Option D :=
 cutK m (codeK Tryz.prog Z3z.sp ⟨0, [], false, []⟩ (inlK Tryz.prog Z3z m 4) m Z2d (subc [1, 1, 0, 0, 0, 1, 0, 1] (bodyOf Tryz.f34)) ⟨[.junk, (AV.d (D.v (.int .i64 u0_0))), (AV.ptr 0 0), .junk, .junk, (AV.d (D.v (.int .i64 u0_1))), .junk, .junk, .junk, .junk, .junk, .junk, .junk, .junk, .junk, .junk, .junk, .junk, .junk, .junk, .junk, .junk, .junk, .junk, .junk, .junk, .junk, .junk, .junk, .junk, .junk, .junk, .junk, .junk], [(Blk.d 1 [(D.list u0_2 u0_3 u0_4)])]⟩
  (contK Tryz.prog Z3z.sp ⟨0, [], false, []⟩ (inlK Tryz.prog Z3z m 4) m Z2d (endK Tryz.prog Tryz.f34 (fun v L => viewK L 8 v some)) [.block 1, .loop (bm 38 34) 1 (subc [1, 1, 0, 0, 0] (bodyOf Tryz.f34)) n0, .block 0, .code (subc [1, 1, 1] (bodyOf Tryz.f34))]))
theorem Zsv (m n0 : Nat) (u0_0 : Int) (u0_1 : Int) (u0_2 : Nat) (u0_3 : Option Nat) (u0_4 : List D) : Zol m n0 u0_0 u0_1 u0_2 u0_3 u0_4 =
 (if 0 ≤ u0_0 ∧ u0_0 < ((u0_2 : Nat) : Int) then
 (rdI .i64 u0_4[(((Int.toNat u0_0) * 20) + 0)]?).bind fun x9 =>
 Zfq m n0 x9 (IntKind.wrap .i64 (u0_1 + (1 : Int))) u0_2 u0_3 u0_4
 else none) := (cutK_eq m _).trans (by kernel_rfl)
theorem Ztp (m n0 : Nat) (y0_0 : Int) (y0_1 : Int) (y0_2 : Nat) (y0_3 : Option Nat) (y0_4 : List D) : Zfq m (n0 + 1) y0_0 y0_1 y0_2 y0_3 y0_4 =
 (cond (decide (y0_0 > (0 : Int)))
 (if 0 ≤ y0_0 ∧ y0_0 < ((y0_2 : Nat) : Int) then
 (rdI .i64 y0_4[(((Int.toNat y0_0) * 20) + 0)]?).bind fun x7 =>
 cond (decide (x7 ≥ y0_0))
 (some (D.v (.int .i64 (100000 : Int))))
 (if 0 ≤ y0_0 ∧ y0_0 < ((y0_2 : Nat) : Int) then
 (rdI .i64 y0_4[(((Int.toNat y0_0) * 20) + 0)]?).bind fun x8 =>
 cond (decide (x8 < (0 : Int)))
 (some (D.v (.int .i64 (100000 : Int))))
 (Zol m n0 y0_0 y0_1 y0_2 y0_3 y0_4)
 else none)
 else none)
 (some (D.v (.int .i64 y0_1)))) := by kernel_rfl
noncomputable def Zju (m : Nat) (a0_0n : Nat) (a0_0c : Option Nat) (a0_0 : List D) (a1 : Int) : Option D :=
 Zfq m m a1 (0 : Int) a0_0n a0_0c a0_0
theorem Zv7 (m : Nat) (a0_0n : Nat) (a0_0c : Option Nat) (a0_0 : List D) (a1 : Int) : funD Tryz.prog Z3z m 4 Z2d Tryz.f34 [(D.agg [(D.list a0_0n a0_0c a0_0)]), (D.v (.int .i64 a1))] = Zju m a0_0n a0_0c a0_0 a1 := by kernel_rfl
theorem Zxt : Enters Tryz.prog 34 := ⟨Tryz.f34, Tryz.func34, by kernel_rfl, by kernel_rfl⟩
theorem Zxu {ds : List D} {d : D} (h : funD Tryz.prog Z3z M 4 Z2d Tryz.f34 ds = some d) : DataSem Tryz.prog 34 ds d := data_sound (H := Z3z) SpOk.nil mixed InlOk.nil Tryz.func34 Zxt h
noncomputable def Z3c : List D → Option D
  | [.agg [.list a0_0n a0_0c a0_0], .v (.int .i64 a1)] => Zju M a0_0n a0_0c a0_0 a1
  | _ => none
theorem Zhb : ∀ ds d, Z3c ds = some d → DataSem Tryz.prog 34 ds d := by
  intro ds d h
  unfold Z3c at h
  split at h
  · exact Zxu ((Zv7 M _ _ _ _).trans h)
  · cases h

-- ('str', '"vidimus/vidimusref26.node"')
def Z4k : FnH := ⟨[(10, ⟨(bm 34 39), [], (some 1)⟩)], []⟩
noncomputable def Zbc : Hints := ⟨[(53, Zd6), (91, Z6b), (104, Zd5)], [], []⟩
noncomputable def Zfr (m n0 : Nat) (y0_0 : Int) (y0_1 : List D) : Option D :=
 loopIter (bm 34 39) 0 1 (codeK Tryz.prog Zbc.sp ⟨0, [], false, []⟩ (inlK Tryz.prog Zbc m 4) m Z4k (subc [1, 1, 1, 1, 0, 1, 0, 0] (bodyOf Tryz.f63))) n0 ⟨[.junk, (AV.ptr 0 0), .junk, .junk, .junk, (AV.d (D.v (.int .i64 y0_0))), .junk, .junk, .junk, .junk, .junk, .junk, .junk, .junk, .junk, .junk, .junk, .junk, .junk, .junk, .junk, .junk, .junk, .junk, .junk, .junk, .junk, .junk, .junk, .junk, .junk, .junk, .junk, .junk, .junk, .junk, .junk, .junk, .junk], [(Blk.d 20 y0_1)]⟩
  (contK Tryz.prog Zbc.sp ⟨0, [], false, []⟩ (inlK Tryz.prog Zbc m 4) m Z4k (endK Tryz.prog Tryz.f63 (fun v L => viewK L 8 v some)) [.block 0, .code (subc [1, 1, 1, 1, 1] (bodyOf Tryz.f63))])
theorem Ztq (m n0 : Nat) (y0_0 : Int) (y0_1 : List D) : Zfr m (n0 + 1) y0_0 y0_1 =
 ((rdL y0_1[19]?).bind fun q15 =>
 cond (decide (y0_0 < ((q15.n : Nat) : Int)))
 ((rdL y0_1[19]?).bind fun q16 =>
 if 0 ≤ y0_0 ∧ y0_0 < ((q16.n : Nat) : Int) then
 if (((Int.toNat y0_0) * 27) + 27) ≤ (List.length q16.cs) then
 (Zd5 [(D.agg ((List.drop ((Int.toNat y0_0) * 27) q16.cs).take 27))]).bind fun d17 =>
 (rdI .i64 (some d17)).bind fun x18 =>
 cond (x18 != (0 : Int))
 (some (D.v (.int .i64 x18)))
 (Zfr m n0 (IntKind.wrap .i64 (y0_0 + (1 : Int))) y0_1)
 else none
 else none)
 (some zI)) := by kernel_rfl
noncomputable def Zlx (m : Nat) (a0 : List D) : Option D :=
 if (List.length a0) = 20 then
 (Z6b [(D.agg ((List.drop 1 a0).take 17))]).bind fun d1 =>
 (rdI .i64 (some d1)).bind fun x2 =>
 cond (x2 != (0 : Int))
 (some (D.v (.int .i64 x2)))
 ((rdL a0[18]?).bind fun q3 =>
 (Zd6 [(D.list q3.n q3.cap q3.cs)]).bind fun d4 =>
 (rdI .i64 (some d4)).bind fun x5 =>
 cond (x5 != (0 : Int))
 (some (D.v (.int .i64 x5)))
 ((rdL a0[19]?).bind fun q6 =>
 cond (decide (((q6.n : Nat) : Int) > (8 : Int)))
 (some (D.v (.int .i64 (3 : Int))))
 (Zfr m m (0 : Int) a0)))
 else none
theorem Zwe (m : Nat) (a0 : List D) : funD Tryz.prog Zbc m 4 Z4k Tryz.f63 [(D.agg a0)] = Zlx m a0 := by kernel_rfl
theorem Zyx : Enters Tryz.prog 63 := ⟨Tryz.f63, Tryz.func63, by kernel_rfl, by kernel_rfl⟩
theorem Zyy {ds : List D} {d : D} (h : funD Tryz.prog Zbc M 4 Z4k Tryz.f63 ds = some d) : DataSem Tryz.prog 63 ds d := data_sound (H := Zbc) (SpOk.cons Zxm (SpOk.cons Zr6 (SpOk.cons Zxh SpOk.nil))) mixed InlOk.nil Tryz.func63 Zyx h
noncomputable def Zfs : List D → Option D
  | [.agg a0] => Zlx M a0
  | _ => none
theorem Zyz : ∀ ds d, Zfs ds = some d → DataSem Tryz.prog 63 ds d := by
  intro ds d h
  unfold Zfs at h
  split at h
  · exact Zyy ((Zwe M _).trans h)
  · cases h

-- ('str', '"vidimus/vidimusref26.Check"')
def Zt : FnH := ⟨[(3, ⟨(bm 102 27), [(5, 1)], (some 2)⟩)], [(4, ⟨(bm 102 27), [], (some 3)⟩)]⟩
noncomputable def Z1i : Hints := ⟨[], [], []⟩
noncomputable def Z69 (m n0 : Nat) (y0_0 : Int) (y0_1 : Nat) (y0_2 : Int) (y0_3 : Nat) (y0_4 : Option Nat) (y0_5 : List D) (y0_6 : Nat) (y0_7 : List D) : Option D :=
 loopIter (bm 102 27) 0 2 (codeK Tryz.prog Z1i.sp ⟨0, [], false, []⟩ (inlK Tryz.prog Z1i m 4) m Zt (subc [1, 1, 0, 1, 0, 0] (bodyOf Tryz.f44))) n0 ⟨[.junk, (AV.d (D.v (.int .i64 y0_0))), (AV.ptr 0 0), .junk, .junk, (AV.sl 1 0 y0_1 none 1), (AV.d (D.v (.int .i64 y0_2))), .junk, .junk, .junk, .junk, .junk, .junk, .junk, .junk, .junk, .junk, .junk, .junk, .junk, .junk, .junk, .junk, .junk, .junk, .junk, .junk], [(Blk.d 1 [(D.list y0_3 y0_4 y0_5)]), (Blk.d y0_6 y0_7)]⟩
  (contK Tryz.prog Z1i.sp ⟨0, [], false, []⟩ (inlK Tryz.prog Z1i m 4) m Zt (endK Tryz.prog Tryz.f44 (fun v L => viewK L 8 v some)) [.block 0, .code (subc [1, 1, 1] (bodyOf Tryz.f44))])
noncomputable def Zkr (m n0 : Nat) (u0_0 : Int) (u0_1 : Nat) (u0_2 : Int) (u0_3 : Nat) (u0_4 : Option Nat) (u0_5 : List D) (u0_6 : Nat) (u0_7 : List D) (u0_8 : Int) : Option D :=
 cutK m (codeK Tryz.prog Z1i.sp ⟨0, [], false, []⟩ (inlK Tryz.prog Z1i m 4) m Zt (subc [1, 1, 0, 1, 0, 0, 1, 1] (bodyOf Tryz.f44)) ⟨[.junk, (AV.d (D.v (.int .i64 u0_0))), (AV.ptr 0 0), .junk, .junk, (AV.sl 1 0 u0_1 none 1), (AV.d (D.v (.int .i64 u0_2))), .junk, .junk, .junk, .junk, .junk, .junk, .junk, .junk, .junk, .junk, .junk, .junk, .junk, .junk, .junk, .junk, .junk, .junk, .junk, .junk], [(Blk.d 1 [(D.list u0_3 u0_4 u0_5)]), (Blk.d u0_6 u0_7), (Blk.d 1 [(D.v (.int .i64 u0_8))])]⟩
  (contK Tryz.prog Z1i.sp ⟨0, [], false, []⟩ (inlK Tryz.prog Z1i m 4) m Zt (endK Tryz.prog Tryz.f44 (fun v L => viewK L 8 v some)) [.loop (bm 102 27) 2 (subc [1, 1, 0, 1, 0, 0] (bodyOf Tryz.f44)) n0, .block 0, .code (subc [1, 1, 1] (bodyOf Tryz.f44))]))
theorem Zpw (m n0 : Nat) (u0_0 : Int) (u0_1 : Nat) (u0_2 : Int) (u0_3 : Nat) (u0_4 : Option Nat) (u0_5 : List D) (u0_6 : Nat) (u0_7 : List D) (u0_8 : Int) : Zkr m n0 u0_0 u0_1 u0_2 u0_3 u0_4 u0_5 u0_6 u0_7 u0_8 =
 (Z69 m n0 u0_0 u0_1 (IntKind.wrap .i64 (u0_2 + (1 : Int))) u0_3 u0_4 u0_5 u0_6 u0_7) := (cutK_eq m _).trans (by kernel_rfl)
noncomputable def Zin (m n0 : Nat) (u1_0 : Int) (u1_1 : Nat) (u1_2 : Int) (u1_3 : Nat) (u1_4 : Option Nat) (u1_5 : List D) (u1_6 : Nat) (u1_7 : List D) : Option D :=
 cutK m (codeK Tryz.prog Z1i.sp ⟨0, [], false, []⟩ (inlK Tryz.prog Z1i m 4) m Zt (subc [1, 1, 0, 1, 0, 0, 1, 1] (bodyOf Tryz.f44)) ⟨[.junk, (AV.d (D.v (.int .i64 u1_0))), (AV.ptr 0 0), .junk, .junk, (AV.sl 1 0 u1_1 none 1), (AV.d (D.v (.int .i64 u1_2))), .junk, .junk, .junk, .junk, .junk, .junk, .junk, .junk, .junk, .junk, .junk, .junk, .junk, .junk, .junk, .junk, .junk, .junk, .junk, .junk], [(Blk.d 1 [(D.list u1_3 u1_4 u1_5)]), (Blk.d u1_6 u1_7)]⟩
  (contK Tryz.prog Z1i.sp ⟨0, [], false, []⟩ (inlK Tryz.prog Z1i m 4) m Zt (endK Tryz.prog Tryz.f44 (fun v L => viewK L 8 v some)) [.loop (bm 102 27) 2 (subc [1, 1, 0, 1, 0, 0] (bodyOf Tryz.f44)) n0, .block 0, .code (subc [1, 1, 1] (bodyOf Tryz.f44))]))
theorem Znr (m n0 : Nat) (u1_0 : Int) (u1_1 : Nat) (u1_2 : Int) (u1_3 : Nat) (u1_4 : Option Nat) (u1_5 : List D) (u1_6 : Nat) (u1_7 : List D) : Zin m n0 u1_0 u1_1 u1_2 u1_3 u1_4 u1_5 u1_6 u1_7 =
 (Z69 m n0 u1_0 u1_1 (IntKind.wrap .i64 (u1_2 + (1 : Int))) u1_3 u1_4 u1_5 u1_6 u1_7) := (cutK_eq m _).trans (by kernel_rfl)
theorem Zqi (m n0 : Nat) (y0_0 : Int) (y0_1 : Nat) (y0_2 : Int) (y0_3 : Nat) (y0_4 : Option Nat) (y0_5 : List D) (y0_6 : Nat) (y0_7 : List D) : Z69 m (n0 + 1) y0_0 y0_1 y0_2 y0_3 y0_4 y0_5 y0_6 y0_7 =
 (cond (decide (y0_2 < ((y0_3 : Nat) : Int)))
 (if 0 ≤ y0_2 ∧ y0_2 < ((y0_3 : Nat) : Int) then
 (rdI .i64 y0_5[(((Int.toNat y0_2) * 20) + 0)]?).bind fun x3 =>
 cond (x3 == y0_0)
 (if ownB ⟨0, [], false, []⟩ 1 = true ∧ y0_6 = (y0_1 * 1) ∧ fitsRow (y0_1 + 1) 8 ∧ 1 = 1 then
 Zkr m n0 y0_0 (y0_1 + 1) y0_2 y0_3 y0_4 y0_5 ((y0_1 + 1) * 1) (y0_7 ++ [(D.v (.int .i64 y0_2))]) y0_2
 else none)
 (Zin m n0 y0_0 y0_1 y0_2 y0_3 y0_4 y0_5 y0_6 y0_7)
 else none)
 (if (0 + (y0_1 * 1)) ≤ y0_6 then
 some (D.list y0_1 none (cutL y0_6 y0_7 0 (y0_1 * 1)))
 else none)) := by kernel_rfl
noncomputable def Zdj (m : Nat) (a0_0n : Nat) (a0_0c : Option Nat) (a0_0 : List D) (a1 : Int) : Option D :=
 Z69 m m a1 0 (0 : Int) a0_0n a0_0c a0_0 0 []
theorem Zrk (m : Nat) (a0_0n : Nat) (a0_0c : Option Nat) (a0_0 : List D) (a1 : Int) : funD Tryz.prog Z1i m 4 Zt Tryz.f44 [(D.agg [(D.list a0_0n a0_0c a0_0)]), (D.v (.int .i64 a1))] = Zdj m a0_0n a0_0c a0_0 a1 := by kernel_rfl
theorem Ztr : Enters Tryz.prog 44 := ⟨Tryz.f44, Tryz.func44, by kernel_rfl, by kernel_rfl⟩
theorem Zts {ds : List D} {d : D} (h : funD Tryz.prog Z1i M 4 Zt Tryz.f44 ds = some d) : DataSem Tryz.prog 44 ds d := data_sound (H := Z1i) SpOk.nil mixed InlOk.nil Tryz.func44 Ztr h
noncomputable def Z4h : List D → Option D
  | [.agg [.list a0_0n a0_0c a0_0], .v (.int .i64 a1)] => Zdj M a0_0n a0_0c a0_0 a1
  | _ => none
theorem Zn5 : ∀ ds d, Z4h ds = some d → DataSem Tryz.prog 44 ds d := by
  intro ds d h
  unfold Z4h at h
  split at h
  · exact Zts ((Zrk M _ _ _ _).trans h)
  · cases h

-- ('str', '"vidimus/vidimusref26.Child"')
def Z2e : FnH := ⟨[(2, ⟨(bm 170 34), [], (some 2)⟩)], [(3, ⟨(bm 170 34), [], (some 2)⟩)]⟩
noncomputable def Z40 : Hints := ⟨[], [], []⟩
noncomputable def Zft (m n0 : Nat) (y0_0 : Int) (y0_1 : Int) (y0_2 : Nat) (y0_3 : Option Nat) (y0_4 : List D) (y0_5 : List D) : Option D :=
 loopIter (bm 170 34) 0 2 (codeK Tryz.prog Z40.sp ⟨0, [], false, []⟩ (inlK Tryz.prog Z40 m 4) m Z2e (subc [1, 0, 1, 0, 0] (bodyOf Tryz.f87))) n0 ⟨[.junk, (AV.d (D.v (.int .i64 y0_0))), .junk, (AV.ptr 0 0), .junk, (AV.ptr 1 0), .junk, (AV.d (D.v (.int .i64 y0_1))), .junk, .junk, .junk, .junk, .junk, .junk, .junk, .junk, .junk, .junk, .junk, .junk, .junk, .junk, .junk, .junk, .junk, .junk, .junk, .junk, .junk, .junk, .junk, .junk, .junk, .junk], [(Blk.d 1 [(D.list y0_2 y0_3 y0_4)]), (Blk.d 17 y0_5)]⟩
  (contK Tryz.prog Z40.sp ⟨0, [], false, []⟩ (inlK Tryz.prog Z40 m 4) m Z2e (endK Tryz.prog Tryz.f87 (fun v L => viewK L 8 v some)) [.block 0, .code (subc [1, 1] (bodyOf Tryz.f87))])
noncomputable def Zj0 (m n0 : Nat) (u0_0 : Int) (u0_1 : Int) (u0_2 : Nat) (u0_3 : Option Nat) (u0_4 : List D) (u0_5 : List D) : Option D :=
 cutK m (codeK Tryz.prog Z40.sp ⟨0, [], false, []⟩ (inlK Tryz.prog Z40 m 4) m Z2e (subc [1, 0, 1, 0, 0, 1, 1] (bodyOf Tryz.f87)) ⟨[.junk, (AV.d (D.v (.int .i64 u0_0))), .junk, (AV.ptr 0 0), .junk, (AV.ptr 1 0), .junk, (AV.d (D.v (.int .i64 u0_1))), .junk, .junk, .junk, .junk, .junk, .junk, .junk, .junk, .junk, .junk, .junk, .junk, .junk, .junk, .junk, .junk, .junk, .junk, .junk, .junk, .junk, .junk, .junk, .junk, .junk, .junk], [(Blk.d 1 [(D.list u0_2 u0_3 u0_4)]), (Blk.d 17 u0_5)]⟩
  (contK Tryz.prog Z40.sp ⟨0, [], false, []⟩ (inlK Tryz.prog Z40 m 4) m Z2e (endK Tryz.prog Tryz.f87 (fun v L => viewK L 8 v some)) [.loop (bm 170 34) 2 (subc [1, 0, 1, 0, 0] (bodyOf Tryz.f87)) n0, .block 0, .code (subc [1, 1] (bodyOf Tryz.f87))]))
theorem Zly (m n0 : Nat) (u0_0 : Int) (u0_1 : Int) (u0_2 : Nat) (u0_3 : Option Nat) (u0_4 : List D) (u0_5 : List D) : Zj0 m n0 u0_0 u0_1 u0_2 u0_3 u0_4 u0_5 =
 (Zft m n0 u0_0 (IntKind.wrap .i64 (u0_1 + (1 : Int))) u0_2 u0_3 u0_4 u0_5) := (cutK_eq m _).trans (by kernel_rfl)
theorem Ztt (m n0 : Nat) (y0_0 : Int) (y0_1 : Int) (y0_2 : Nat) (y0_3 : Option Nat) (y0_4 : List D) (y0_5 : List D) : Zft m (n0 + 1) y0_0 y0_1 y0_2 y0_3 y0_4 y0_5 =
 (cond (decide (y0_1 < ((y0_2 : Nat) : Int)))
 (if 0 ≤ y0_1 ∧ y0_1 < ((y0_2 : Nat) : Int) then
 (rdI .i64 y0_4[(((Int.toNat y0_1) * 20) + 0)]?).bind fun x5 =>
 cond (x5 == y0_0)
 (if 0 ≤ y0_1 ∧ y0_1 < ((y0_2 : Nat) : Int) then
 if ((((Int.toNat y0_1) * 20) + 1) + 17) ≤ (List.length y0_4) then
 (cellsEq [.int, .int, .int, .int, .int, .int, .int, .int, .int, .int, .int, .int, .int, .int, .int, .int, .int] ((List.drop (((Int.toNat y0_1) * 20) + 1) y0_4).take 17) y0_5).bind fun b6 =>
 cond b6
 (some (D.v (.int .i64 y0_1)))
 (Zj0 m n0 y0_0 y0_1 y0_2 y0_3 y0_4 y0_5)
 else none
 else none)
 (Zj0 m n0 y0_0 y0_1 y0_2 y0_3 y0_4 y0_5)
 else none)
 (some (D.v (.int .i64 (-1 : Int))))) := by kernel_rfl
noncomputable def Zjv (m : Nat) (a0_0n : Nat) (a0_0c : Option Nat) (a0_0 : List D) (a1 : Int) (a2 : List D) : Option D :=
 if (List.length a2) = 17 then
 Zft m m a1 (0 : Int) a0_0n a0_0c a0_0 a2
 else none
theorem Zv8 (m : Nat) (a0_0n : Nat) (a0_0c : Option Nat) (a0_0 : List D) (a1 : Int) (a2 : List D) : funD Tryz.prog Z40 m 4 Z2e Tryz.f87 [(D.agg [(D.list a0_0n a0_0c a0_0)]), (D.v (.int .i64 a1)), (D.agg a2)] = Zjv m a0_0n a0_0c a0_0 a1 a2 := by kernel_rfl
theorem Zxv : Enters Tryz.prog 87 := ⟨Tryz.f87, Tryz.func87, by kernel_rfl, by kernel_rfl⟩
theorem Zxw {ds : List D} {d : D} (h : funD Tryz.prog Z40 M 4 Z2e Tryz.f87 ds = some d) : DataSem Tryz.prog 87 ds d := data_sound (H := Z40) SpOk.nil mixed InlOk.nil Tryz.func87 Zxv h
noncomputable def Zd8 : List D → Option D
  | [.agg [.list a0_0n a0_0c a0_0], .v (.int .i64 a1), .agg a2] => Zjv M a0_0n a0_0c a0_0 a1 a2
  | _ => none
theorem Zxx : ∀ ds d, Zd8 ds = some d → DataSem Tryz.prog 87 ds d := by
  intro ds d h
  unfold Zd8 at h
  split at h
  · exact Zxw ((Zv8 M _ _ _ _ _).trans h)
  · cases h

-- ('str', '"vidimus/vidimusref26.Adds"')
def Z2y : FnH := ⟨[], [(3, ⟨(bm 12 56), [], (some 2)⟩), (9, ⟨(bm 8 56), [], (some 2)⟩)]⟩
noncomputable def Z4w : Hints := ⟨[(34, Z3c), (63, Zfs), (87, Zd8)], [], []⟩
noncomputable def Z76 (m : Nat) (u0_0 : Nat) (u0_1 : Option Nat) (u0_2 : List D) (u0_3 : List D) : Option D :=
 cutK m (codeK Tryz.prog Z4w.sp ⟨0, [], false, []⟩ (inlK Tryz.prog Z4w m 4) m Z2y (subc [1, 1] (bodyOf Tryz.f48)) ⟨[.junk, .junk, (AV.ptr 0 0), (AV.ptr 1 0), .junk, .junk, .junk, .junk, .junk, .junk, .junk, .junk, .junk, .junk, .junk, .junk, .junk, .junk, .junk, .junk, .junk, .junk, .junk, .junk, .junk, .junk, .junk, .junk, .junk, .junk, .junk, .junk, .junk, .junk, .junk, .junk, .junk, .junk, .junk, .junk, .junk, .junk, .junk, .junk, .junk, .junk, .junk, .junk, .junk, .junk, .junk, .junk, .junk, .junk, .junk, .junk], [(Blk.d 1 [(D.list u0_0 u0_1 u0_2)]), (Blk.d 20 u0_3)]⟩
  (contK Tryz.prog Z4w.sp ⟨0, [], false, []⟩ (inlK Tryz.prog Z4w m 4) m Z2y (endK Tryz.prog Tryz.f48 (fun v L => viewK L 8 v some)) []))
noncomputable def Zfu (m : Nat) (u1_0 : Nat) (u1_1 : Option Nat) (u1_2 : List D) (u1_3 : List D) : Option D :=
 cutK m (codeK Tryz.prog Z4w.sp ⟨0, [], false, []⟩ (inlK Tryz.prog Z4w m 4) m Z2y (subc [1, 1, 1, 1, 1] (bodyOf Tryz.f48)) ⟨[.junk, .junk, .junk, (AV.ptr 1 0), .junk, .junk, .junk, .junk, .junk, .junk, .junk, .junk, .junk, .junk, .junk, .junk, .junk, .junk, .junk, .junk, .junk, .junk, .junk, .junk, .junk, .junk, .junk, .junk, .junk, .junk, .junk, .junk, .junk, .junk, .junk, .junk, .junk, .junk, .junk, .junk, .junk, .junk, .junk, .junk, .junk, .junk, .junk, .junk, .junk, .junk, .junk, .junk, .junk, .junk, .junk, .junk], [(Blk.d 1 [(D.list u1_0 u1_1 u1_2)]), (Blk.d 20 u1_3)]⟩
  (contK Tryz.prog Z4w.sp ⟨0, [], false, []⟩ (inlK Tryz.prog Z4w m 4) m Z2y (endK Tryz.prog Tryz.f48 (fun v L => viewK L 8 v some)) []))
theorem Ztu (m : Nat) (u1_0 : Nat) (u1_1 : Option Nat) (u1_2 : List D) (u1_3 : List D) : Zfu m u1_0 u1_1 u1_2 u1_3 =
 ((Zfs [(D.agg u1_3)]).bind fun d11 =>
 (rdI .i64 (some d11)).bind fun x12 =>
 some (D.v (.int .i64 x12))) := (cutK_eq m _).trans (by kernel_rfl)
theorem Ztv (m : Nat) (u0_0 : Nat) (u0_1 : Option Nat) (u0_2 : List D) (u0_3 : List D) : Z76 m u0_0 u0_1 u0_2 u0_3 =
 ((rdI .i64 u0_3[0]?).bind fun x4 =>
 (Zd8 [(D.agg [(D.list u0_0 u0_1 u0_2)]), (D.v (.int .i64 x4)), (D.agg ((List.drop 1 u0_3).take 17))]).bind fun d5 =>
 (rdI .i64 (some d5)).bind fun x6 =>
 cond (decide (x6 ≥ (0 : Int)))
 (some (D.v (.int .i64 (20 : Int))))
 (cond (((u0_0 : Nat) : Int) == (65536 : Int))
 (some (D.v (.int .i64 (3 : Int))))
 ((rdI .i64 u0_3[0]?).bind fun x7 =>
 cond (decide (x7 ≥ (0 : Int)))
 ((rdI .i64 u0_3[0]?).bind fun x8 =>
 (Z3c [(D.agg [(D.list u0_0 u0_1 u0_2)]), (D.v (.int .i64 x8))]).bind fun d9 =>
 (rdI .i64 (some d9)).bind fun x10 =>
 cond (x10 == (64 : Int))
 (some (D.v (.int .i64 (12 : Int))))
 (Zfu m u0_0 u0_1 u0_2 u0_3))
 (Zfu m u0_0 u0_1 u0_2 u0_3)))) := (cutK_eq m _).trans (by kernel_rfl)
noncomputable def Zlz (m : Nat) (a0_0n : Nat) (a0_0c : Option Nat) (a0_0 : List D) (a1 : List D) : Option D :=
 if (List.length a1) = 20 then
 cond (((a0_0n : Nat) : Int) == (0 : Int))
 ((rdI .i64 a1[0]?).bind fun x1 =>
 cond (x1 != (-1 : Int))
 (some (D.v (.int .i64 (19 : Int))))
 (cond (decide (((a0_0n : Nat) : Int) > (0 : Int)))
 ((rdI .i64 a1[0]?).bind fun x2 =>
 cond (decide (x2 < (0 : Int)))
 (some (D.v (.int .i64 (19 : Int))))
 ((rdI .i64 a1[0]?).bind fun x3 =>
 cond (decide (x3 ≥ ((a0_0n : Nat) : Int)))
 (some (D.v (.int .i64 (19 : Int))))
 (Z76 m a0_0n a0_0c a0_0 a1)))
 (Z76 m a0_0n a0_0c a0_0 a1)))
 (cond (decide (((a0_0n : Nat) : Int) > (0 : Int)))
 ((rdI .i64 a1[0]?).bind fun x13 =>
 cond (decide (x13 < (0 : Int)))
 (some (D.v (.int .i64 (19 : Int))))
 ((rdI .i64 a1[0]?).bind fun x14 =>
 cond (decide (x14 ≥ ((a0_0n : Nat) : Int)))
 (some (D.v (.int .i64 (19 : Int))))
 (Z76 m a0_0n a0_0c a0_0 a1)))
 (Z76 m a0_0n a0_0c a0_0 a1))
 else none
theorem Zwf (m : Nat) (a0_0n : Nat) (a0_0c : Option Nat) (a0_0 : List D) (a1 : List D) : funD Tryz.prog Z4w m 4 Z2y Tryz.f48 [(D.agg [(D.list a0_0n a0_0c a0_0)]), (D.agg a1)] = Zlz m a0_0n a0_0c a0_0 a1 := by kernel_rfl
theorem Zz0 : Enters Tryz.prog 48 := ⟨Tryz.f48, Tryz.func48, by kernel_rfl, by kernel_rfl⟩
theorem Zz1 {ds : List D} {d : D} (h : funD Tryz.prog Z4w M 4 Z2y Tryz.f48 ds = some d) : DataSem Tryz.prog 48 ds d := data_sound (H := Z4w) (SpOk.cons Zhb (SpOk.cons Zyz (SpOk.cons Zxx SpOk.nil))) mixed InlOk.nil Tryz.func48 Zz0 h
noncomputable def Zfv : List D → Option D
  | [.agg [.list a0_0n a0_0c a0_0], .agg a1] => Zlz M a0_0n a0_0c a0_0 a1
  | _ => none
theorem Zz2 : ∀ ds d, Zfv ds = some d → DataSem Tryz.prog 48 ds d := by
  intro ds d h
  unfold Zfv at h
  split at h
  · exact Zz1 ((Zwf M _ _ _ _).trans h)
  · cases h

-- ('str', '"vidimus/vidimusref26.Add"')
def Zh : FnH := ⟨[(4, ⟨(bm 476 114), [(1003000, 20)], (some 5)⟩), (18, ⟨(bm 2256 114), [], (some 5)⟩)], [(10, ⟨(bm 2012 114), [], (some 6)⟩), (13, ⟨(bm 988 114), [], (some 6)⟩), (12, ⟨(bm 988 114), [], (some 6)⟩), (17, ⟨(bm 208 114), [], (some 5)⟩), (19, ⟨(bm 2256 114), [], (some 5)⟩)]⟩
noncomputable def Zw : Hints := ⟨[(62, Z3q)], [], []⟩
noncomputable def Zjw (m n0 : Nat) (y0_0 : Int) (y0_1 : Int) (y0_2 : Nat) (y0_3 : Option Nat) (y0_4 : List D) (y0_5 : List D) (y0_6 : Nat) (y0_7 : Nat) (y0_8 : List D) : Option D :=
 loopIter (bm 476 114) 0 5 (codeK Tryz.prog Zw.sp ⟨0, [], false, []⟩ (inlK Tryz.prog Zw m 4) m Zh (subc [1, 1, 1, 0, 1, 0, 0] (bodyOf Tryz.f49))) n0 ⟨[.junk, .junk, (AV.ptr 0 0), (AV.ptr 1 0), (AV.ptr 2 0), .junk, (AV.ptr 3 0), (AV.d (D.v (.int .i64 y0_0))), (AV.d (D.v (.int .i64 y0_1))), .junk, .junk, .junk, .junk, .junk, .junk, .junk, .junk, .junk, .junk, .junk, .junk, .junk, .junk, .junk, .junk, .junk, .junk, .junk, .junk, .junk, .junk, .junk, .junk, .junk, .junk, .junk, .junk, .junk, .junk, .junk, .junk, .junk, .junk, .junk, .junk, .junk, .junk, .junk, .junk, .junk, .junk, .junk, .junk, .junk, .junk, .junk, .junk, .junk, .junk, .junk, .junk, .junk, .junk, .junk, .junk, .junk, .junk, .junk, .junk, .junk, .junk, .junk, .junk, .junk, .junk, .junk, .junk, .junk, .junk, .junk, .junk, .junk, .junk, .junk, .junk, .junk, .junk, .junk, .junk, .junk, .junk, .junk, .junk, .junk, .junk, .junk, .junk, .junk, .junk, .junk, .junk, .junk, .junk, .junk, .junk, .junk, .junk, .junk, .junk, .junk, .junk, .junk, .junk, .junk], [(Blk.d 1 [(D.list y0_2 y0_3 y0_4)]), (Blk.d 20 y0_5), (Blk.d 1 [(D.list 0 (some 0) [])]), (Blk.a 1 [(AV.sl 4 0 y0_6 none 20)]), (Blk.d y0_7 y0_8)]⟩
  (contK Tryz.prog Zw.sp ⟨0, [], false, []⟩ (inlK Tryz.prog Zw m 4) m Zh (endK Tryz.prog Tryz.f49 (fun v L => viewK L 8 v some)) [.block 0, .code (subc [1, 1, 1, 1] (bodyOf Tryz.f49))])
noncomputable def Z5o (m n0 : Nat) (u0_0 : Int) (u0_1 : Int) (u0_2 : Int) (u0_3 : Nat) (u0_4 : Option Nat) (u0_5 : List D) (u0_6 : List D) (u0_7 : Nat) (u0_8 : Nat) (u0_9 : List D) (u0_10 : List D) : Option D :=
 cutK m (codeK Tryz.prog Zw.sp ⟨0, [], false, []⟩ (inlK Tryz.prog Zw m 4) m Zh (subc [1, 1, 1, 0, 1, 0, 0, 1, 0, 0, 1, 1, 1] (bodyOf Tryz.f49)) ⟨[.junk, .junk, (AV.ptr 0 0), (AV.ptr 1 0), (AV.ptr 2 0), .junk, (AV.ptr 3 0), (AV.d (D.v (.int .i64 u0_0))), (AV.d (D.v (.int .i64 u0_1))), (AV.ptr 5 0), (AV.d (D.v (.int .i64 u0_2))), .junk, .junk, .junk, .junk, .junk, .junk, .junk, .junk, .junk, .junk, .junk, .junk, .junk, .junk, .junk, .junk, .junk, .junk, .junk, .junk, .junk, .junk, .junk, .junk, .junk, .junk, .junk, .junk, .junk, .junk, .junk, .junk, .junk, .junk, .junk, .junk, .junk, .junk, .junk, .junk, .junk, .junk, .junk, .junk, .junk, .junk, .junk, .junk, .junk, .junk, .junk, .junk, .junk, .junk, .junk, .junk, .junk, .junk, .junk, .junk, .junk, .junk, .junk, .junk, .junk, .junk, .junk, .junk, .junk, .junk, .junk, .junk, .junk, .junk, .junk, .junk, .junk, .junk, .junk, .junk, .junk, .junk, .junk, .junk, .junk, .junk, .junk, .junk, .junk, .junk, .junk, .junk, .junk, .junk, .junk, .junk, .junk, .junk, .junk, .junk, .junk, .junk, .junk], [(Blk.d 1 [(D.list u0_3 u0_4 u0_5)]), (Blk.d 20 u0_6), (Blk.d 1 [(D.list 0 (some 0) [])]), (Blk.a 1 [(AV.sl 4 0 u0_7 none 20)]), (Blk.d u0_8 u0_9), (Blk.d 20 u0_10)]⟩
  (contK Tryz.prog Zw.sp ⟨0, [], false, []⟩ (inlK Tryz.prog Zw m 4) m Zh (endK Tryz.prog Tryz.f49 (fun v L => viewK L 8 v some)) [.block 1, .code (subc [1, 1, 1, 0, 1, 0, 0, 1, 1] (bodyOf Tryz.f49)), .loop (bm 476 114) 5 (subc [1, 1, 1, 0, 1, 0, 0] (bodyOf Tryz.f49)) n0, .block 0, .code (subc [1, 1, 1, 1] (bodyOf Tryz.f49))]))
noncomputable def Zpx (m n0 : Nat) (u1_0 : Int) (u1_1 : Int) (u1_2 : Nat) (u1_3 : Option Nat) (u1_4 : List D) (u1_5 : List D) (u1_6 : Nat) (u1_7 : Nat) (u1_8 : List D) (u1_9 : List D) : Option D :=
 cutK m (codeK Tryz.prog Zw.sp ⟨0, [], false, []⟩ (inlK Tryz.prog Zw m 4) m Zh (subc [1, 1, 1, 0, 1, 0, 0, 1, 0, 0, 1, 1, 1, 0, 1, 0, 1] (bodyOf Tryz.f49)) ⟨[.junk, .junk, (AV.ptr 0 0), (AV.ptr 1 0), (AV.ptr 2 0), .junk, (AV.ptr 3 0), (AV.d (D.v (.int .i64 u1_0))), (AV.d (D.v (.int .i64 u1_1))), (AV.ptr 5 0), .junk, .junk, .junk, .junk, .junk, .junk, .junk, .junk, .junk, .junk, .junk, .junk, .junk, .junk, .junk, .junk, .junk, .junk, .junk, .junk, .junk, .junk, .junk, .junk, .junk, .junk, .junk, .junk, .junk, .junk, .junk, .junk, .junk, .junk, .junk, .junk, .junk, .junk, .junk, .junk, .junk, .junk, .junk, .junk, .junk, .junk, .junk, .junk, .junk, .junk, .junk, .junk, .junk, .junk, .junk, .junk, .junk, .junk, .junk, .junk, .junk, .junk, .junk, .junk, .junk, .junk, .junk, .junk, .junk, .junk, .junk, .junk, .junk, .junk, .junk, .junk, .junk, .junk, .junk, .junk, .junk, .junk, .junk, .junk, .junk, .junk, .junk, .junk, .junk, .junk, .junk, .junk, .junk, .junk, .junk, .junk, .junk, .junk, .junk, .junk, .junk, .junk, .junk, .junk], [(Blk.d 1 [(D.list u1_2 u1_3 u1_4)]), (Blk.d 20 u1_5), (Blk.d 1 [(D.list 0 (some 0) [])]), (Blk.a 1 [(AV.sl 4 0 u1_6 none 20)]), (Blk.d u1_7 u1_8), (Blk.d 20 u1_9)]⟩
  (contK Tryz.prog Zw.sp ⟨0, [], false, []⟩ (inlK Tryz.prog Zw m 4) m Zh (endK Tryz.prog Tryz.f49 (fun v L => viewK L 8 v some)) [.code (subc [1, 1, 1, 0, 1, 0, 0, 1, 0, 0, 1, 1, 1, 1] (bodyOf Tryz.f49)), .block 1, .code (subc [1, 1, 1, 0, 1, 0, 0, 1, 1] (bodyOf Tryz.f49)), .loop (bm 476 114) 5 (subc [1, 1, 1, 0, 1, 0, 0] (bodyOf Tryz.f49)) n0, .block 0, .code (subc [1, 1, 1, 1] (bodyOf Tryz.f49))]))
noncomputable def Zbd (m n0 : Nat) (u2_0 : Int) (u2_1 : Int) (u2_2 : Nat) (u2_3 : Option Nat) (u2_4 : List D) (u2_5 : List D) (u2_6 : Nat) (u2_7 : Nat) (u2_8 : List D) (u2_9 : List D) : Option D :=
 cutK m (codeK Tryz.prog Zw.sp ⟨0, [], false, []⟩ (inlK Tryz.prog Zw m 4) m Zh (subc [1, 1, 1, 0, 1, 0, 0, 1, 0, 0, 1, 1, 1, 1] (bodyOf Tryz.f49)) ⟨[.junk, .junk, (AV.ptr 0 0), (AV.ptr 1 0), (AV.ptr 2 0), .junk, (AV.ptr 3 0), (AV.d (D.v (.int .i64 u2_0))), (AV.d (D.v (.int .i64 u2_1))), (AV.ptr 5 0), .junk, .junk, .junk, .junk, .junk, .junk, .junk, .junk, .junk, .junk, .junk, .junk, .junk, .junk, .junk, .junk, .junk, .junk, .junk, .junk, .junk, .junk, .junk, .junk, .junk, .junk, .junk, .junk, .junk, .junk, .junk, .junk, .junk, .junk, .junk, .junk, .junk, .junk, .junk, .junk, .junk, .junk, .junk, .junk, .junk, .junk, .junk, .junk, .junk, .junk, .junk, .junk, .junk, .junk, .junk, .junk, .junk, .junk, .junk, .junk, .junk, .junk, .junk, .junk, .junk, .junk, .junk, .junk, .junk, .junk, .junk, .junk, .junk, .junk, .junk, .junk, .junk, .junk, .junk, .junk, .junk, .junk, .junk, .junk, .junk, .junk, .junk, .junk, .junk, .junk, .junk, .junk, .junk, .junk, .junk, .junk, .junk, .junk, .junk, .junk, .junk, .junk, .junk, .junk], [(Blk.d 1 [(D.list u2_2 u2_3 u2_4)]), (Blk.d 20 u2_5), (Blk.d 1 [(D.list 0 (some 0) [])]), (Blk.a 1 [(AV.sl 4 0 u2_6 none 20)]), (Blk.d u2_7 u2_8), (Blk.d 20 u2_9)]⟩
  (contK Tryz.prog Zw.sp ⟨0, [], false, []⟩ (inlK Tryz.prog Zw m 4) m Zh (endK Tryz.prog Tryz.f49 (fun v L => viewK L 8 v some)) [.block 1, .code (subc [1, 1, 1, 0, 1, 0, 0, 1, 1] (bodyOf Tryz.f49)), .loop (bm 476 114) 5 (subc [1, 1, 1, 0, 1, 0, 0] (bodyOf Tryz.f49)) n0, .block 0, .code (subc [1, 1, 1, 1] (bodyOf Tryz.f49))]))
theorem Ztw (m n0 : Nat) (u2_0 : Int) (u2_1 : Int) (u2_2 : Nat) (u2_3 : Option Nat) (u2_4 : List D) (u2_5 : List D) (u2_6 : Nat) (u2_7 : Nat) (u2_8 : List D) (u2_9 : List D) : Zbd m n0 u2_0 u2_1 u2_2 u2_3 u2_4 u2_5 u2_6 u2_7 u2_8 u2_9 =
 (if (List.length u2_9) = 20 then
 if ownB ⟨0, [], false, []⟩ 4 = true ∧ u2_7 = (u2_6 * 20) ∧ fitsRow (u2_6 + 1) 128 ∧ (List.length u2_9) = 20 then
 Zjw m n0 u2_0 (IntKind.wrap .i64 (u2_1 + (1 : Int))) u2_2 u2_3 u2_4 u2_5 (u2_6 + 1) ((u2_6 + 1) * 20) (u2_8 ++ u2_9)
 else none
 else none) := (cutK_eq m _).trans (by kernel_rfl)
theorem Ztx (m n0 : Nat) (u1_0 : Int) (u1_1 : Int) (u1_2 : Nat) (u1_3 : Option Nat) (u1_4 : List D) (u1_5 : List D) (u1_6 : Nat) (u1_7 : Nat) (u1_8 : List D) (u1_9 : List D) : Zpx m n0 u1_0 u1_1 u1_2 u1_3 u1_4 u1_5 u1_6 u1_7 u1_8 u1_9 =
 (if (List.length u1_5) = 20 then
 if ownB ⟨0, [], false, []⟩ 4 = true ∧ u1_7 = (u1_6 * 20) ∧ fitsRow (u1_6 + 1) 128 ∧ (List.length u1_5) = 20 then
 Zbd m n0 u1_0 u1_1 u1_2 u1_3 u1_4 u1_5 (u1_6 + 1) ((u1_6 + 1) * 20) (u1_8 ++ u1_5) u1_9
 else none
 else none) := (cutK_eq m _).trans (by kernel_rfl)
theorem Zty (m n0 : Nat) (u0_0 : Int) (u0_1 : Int) (u0_2 : Int) (u0_3 : Nat) (u0_4 : Option Nat) (u0_5 : List D) (u0_6 : List D) (u0_7 : Nat) (u0_8 : Nat) (u0_9 : List D) (u0_10 : List D) : Z5o m n0 u0_0 u0_1 u0_2 u0_3 u0_4 u0_5 u0_6 u0_7 u0_8 u0_9 u0_10 =
 (cond (decide (u0_0 < (0 : Int)))
 (cond (u0_2 == (1 : Int))
 (Zpx m n0 ((u0_7 : Nat) : Int) u0_1 u0_3 u0_4 u0_5 u0_6 u0_7 u0_8 u0_9 u0_10)
 (Zbd m n0 u0_0 u0_1 u0_3 u0_4 u0_5 u0_6 u0_7 u0_8 u0_9 u0_10))
 (Zbd m n0 u0_0 u0_1 u0_3 u0_4 u0_5 u0_6 u0_7 u0_8 u0_9 u0_10)) := (cutK_eq m _).trans (by kernel_rfl)
noncomputable def Zks (m : Nat) (u3_0 : Int) (u3_1 : Nat) (u3_2 : Option Nat) (u3_3 : List D) (u3_4 : List D) (u3_5 : Nat) (u3_6 : Nat) (u3_7 : List D) : Option D :=
 cutK m (codeK Tryz.prog Zw.sp ⟨0, [], false, []⟩ (inlK Tryz.prog Zw m 4) m Zh (subc [1, 1, 1, 1, 1] (bodyOf Tryz.f49)) ⟨[.junk, .junk, .junk, .junk, (AV.ptr 2 0), .junk, (AV.ptr 3 0), (AV.d (D.v (.int .i64 u3_0))), .junk, .junk, .junk, .junk, .junk, .junk, .junk, .junk, .junk, .junk, .junk, .junk, .junk, .junk, .junk, .junk, .junk, .junk, .junk, .junk, .junk, .junk, .junk, .junk, .junk, .junk, .junk, .junk, .junk, .junk, .junk, .junk, .junk, .junk, .junk, .junk, .junk, .junk, .junk, .junk, .junk, .junk, .junk, .junk, .junk, .junk, .junk, .junk, .junk, .junk, .junk, .junk, .junk, .junk, .junk, .junk, .junk, .junk, .junk, .junk, .junk, .junk, .junk, .junk, .junk, .junk, .junk, .junk, .junk, .junk, .junk, .junk, .junk, .junk, .junk, .junk, .junk, .junk, .junk, .junk, .junk, .junk, .junk, .junk, .junk, .junk, .junk, .junk, .junk, .junk, .junk, .junk, .junk, .junk, .junk, .junk, .junk, .junk, .junk, .junk, .junk, .junk, .junk, .junk, .junk, .junk], [(Blk.d 1 [(D.list u3_1 u3_2 u3_3)]), (Blk.d 20 u3_4), (Blk.d 1 [(D.list 0 (some 0) [])]), (Blk.a 1 [(AV.sl 4 0 u3_5 none 20)]), (Blk.d u3_6 u3_7)]⟩
  (contK Tryz.prog Zw.sp ⟨0, [], false, []⟩ (inlK Tryz.prog Zw m 4) m Zh (endK Tryz.prog Tryz.f49 (fun v L => viewK L 8 v some)) []))
noncomputable def Zhc (m n0 : Nat) (y1_0 : Int) (y1_1 : Int) (y1_2 : Nat) (y1_3 : Option Nat) (y1_4 : List D) (y1_5 : List D) (y1_6 : Nat) (y1_7 : Nat) (y1_8 : List D) : Option D :=
 loopIter (bm 2256 114) 0 5 (codeK Tryz.prog Zw.sp ⟨0, [], false, []⟩ (inlK Tryz.prog Zw m 4) m Zh (subc [1, 1, 1, 1, 1, 0, 1, 0, 0] (bodyOf Tryz.f49))) n0 ⟨[.junk, .junk, .junk, .junk, (AV.ptr 2 0), .junk, (AV.ptr 3 0), (AV.d (D.v (.int .i64 y1_0))), .junk, .junk, .junk, (AV.d (D.v (.int .i64 y1_1))), .junk, .junk, .junk, .junk, .junk, .junk, .junk, .junk, .junk, .junk, .junk, .junk, .junk, .junk, .junk, .junk, .junk, .junk, .junk, .junk, .junk, .junk, .junk, .junk, .junk, .junk, .junk, .junk, .junk, .junk, .junk, .junk, .junk, .junk, .junk, .junk, .junk, .junk, .junk, .junk, .junk, .junk, .junk, .junk, .junk, .junk, .junk, .junk, .junk, .junk, .junk, .junk, .junk, .junk, .junk, .junk, .junk, .junk, .junk, .junk, .junk, .junk, .junk, .junk, .junk, .junk, .junk, .junk, .junk, .junk, .junk, .junk, .junk, .junk, .junk, .junk, .junk, .junk, .junk, .junk, .junk, .junk, .junk, .junk, .junk, .junk, .junk, .junk, .junk, .junk, .junk, .junk, .junk, .junk, .junk, .junk, .junk, .junk, .junk, .junk, .junk, .junk], [(Blk.d 1 [(D.list y1_2 y1_3 y1_4)]), (Blk.d 20 y1_5), (Blk.d 1 [(D.list 0 (some 0) [])]), (Blk.a 1 [(AV.sl 4 0 y1_6 none 20)]), (Blk.d y1_7 y1_8)]⟩
  (contK Tryz.prog Zw.sp ⟨0, [], false, []⟩ (inlK Tryz.prog Zw m 4) m Zh (endK Tryz.prog Tryz.f49 (fun v L => viewK L 8 v some)) [.block 2, .code (subc [1, 1, 1, 1, 1, 1] (bodyOf Tryz.f49))])
noncomputable def Zfw (m n0 : Nat) (u4_0 : Int) (u4_1 : Int) (u4_2 : Nat) (u4_3 : Option Nat) (u4_4 : List D) (u4_5 : List D) (u4_6 : Nat) (u4_7 : Nat) (u4_8 : List D) : Option D :=
 cutK m (codeK Tryz.prog Zw.sp ⟨0, [], false, []⟩ (inlK Tryz.prog Zw m 4) m Zh (subc [1, 1, 1, 1, 1, 0, 1, 0, 0, 1, 1] (bodyOf Tryz.f49)) ⟨[.junk, .junk, .junk, .junk, (AV.ptr 2 0), .junk, (AV.ptr 3 0), (AV.d (D.v (.int .i64 u4_0))), .junk, .junk, .junk, (AV.d (D.v (.int .i64 u4_1))), .junk, .junk, .junk, .junk, .junk, .junk, .junk, .junk, .junk, .junk, .junk, .junk, .junk, .junk, .junk, .junk, .junk, .junk, .junk, .junk, .junk, .junk, .junk, .junk, .junk, .junk, .junk, .junk, .junk, .junk, .junk, .junk, .junk, .junk, .junk, .junk, .junk, .junk, .junk, .junk, .junk, .junk, .junk, .junk, .junk, .junk, .junk, .junk, .junk, .junk, .junk, .junk, .junk, .junk, .junk, .junk, .junk, .junk, .junk, .junk, .junk, .junk, .junk, .junk, .junk, .junk, .junk, .junk, .junk, .junk, .junk, .junk, .junk, .junk, .junk, .junk, .junk, .junk, .junk, .junk, .junk, .junk, .junk, .junk, .junk, .junk, .junk, .junk, .junk, .junk, .junk, .junk, .junk, .junk, .junk, .junk, .junk, .junk, .junk, .junk, .junk, .junk], [(Blk.d 1 [(D.list u4_2 u4_3 u4_4)]), (Blk.d 20 u4_5), (Blk.d 1 [(D.list 0 (some 0) [])]), (Blk.a 1 [(AV.sl 4 0 u4_6 none 20)]), (Blk.d u4_7 u4_8)]⟩
  (contK Tryz.prog Zw.sp ⟨0, [], false, []⟩ (inlK Tryz.prog Zw m 4) m Zh (endK Tryz.prog Tryz.f49 (fun v L => viewK L 8 v some)) [.loop (bm 2256 114) 5 (subc [1, 1, 1, 1, 1, 0, 1, 0, 0] (bodyOf Tryz.f49)) n0, .block 2, .code (subc [1, 1, 1, 1, 1, 1] (bodyOf Tryz.f49))]))
theorem Zgz (m n0 : Nat) (u4_0 : Int) (u4_1 : Int) (u4_2 : Nat) (u4_3 : Option Nat) (u4_4 : List D) (u4_5 : List D) (u4_6 : Nat) (u4_7 : Nat) (u4_8 : List D) : Zfw m n0 u4_0 u4_1 u4_2 u4_3 u4_4 u4_5 u4_6 u4_7 u4_8 =
 (Zhc m n0 u4_0 (IntKind.wrap .i64 (u4_1 + (1 : Int))) u4_2 u4_3 u4_4 u4_5 u4_6 u4_7 u4_8) := (cutK_eq m _).trans (by kernel_rfl)
theorem Zv9 (m n0 : Nat) (y1_0 : Int) (y1_1 : Int) (y1_2 : Nat) (y1_3 : Option Nat) (y1_4 : List D) (y1_5 : List D) (y1_6 : Nat) (y1_7 : Nat) (y1_8 : List D) : Zhc m (n0 + 1) y1_0 y1_1 y1_2 y1_3 y1_4 y1_5 y1_6 y1_7 y1_8 =
 (cond (decide (y1_1 < ((y1_6 : Nat) : Int)))
 (cond (y1_1 != y1_0)
 (if 0 ≤ y1_1 ∧ y1_1 < ((y1_6 : Nat) : Int) then
 (rdI .i64 y1_8[((0 + ((Int.toNat y1_1) * 20)) + 0)]?).bind fun x23 =>
 cond (decide (x23 ≥ y1_0))
 (if 0 ≤ y1_1 ∧ y1_1 < ((y1_6 : Nat) : Int) then
 (rdI .i64 y1_8[((0 + ((Int.toNat y1_1) * 20)) + 0)]?).bind fun x24 =>
 if 0 ≤ y1_1 ∧ y1_1 < ((y1_6 : Nat) : Int) then
 if 1 = 1 ∧ ((0 + ((Int.toNat y1_1) * 20)) + 0) < y1_7 then
 Zfw m n0 y1_0 y1_1 y1_2 y1_3 y1_4 y1_5 y1_6 y1_7 (List.set y1_8 ((0 + ((Int.toNat y1_1) * 20)) + 0) (D.v (.int .i64 (IntKind.wrap .i64 (x24 + (1 : Int))))))
 else none
 else none
 else none)
 (Zfw m n0 y1_0 y1_1 y1_2 y1_3 y1_4 y1_5 y1_6 y1_7 y1_8)
 else none)
 (Zfw m n0 y1_0 y1_1 y1_2 y1_3 y1_4 y1_5 y1_6 y1_7 y1_8))
 (if (0 + (y1_6 * 20)) ≤ y1_7 then
 some (D.tup [(D.agg [(D.list y1_6 none (cutL y1_7 y1_8 0 (y1_6 * 20)))]), (D.v (.int .i64 y1_0))])
 else none)) := by kernel_rfl
theorem Zn6 (m : Nat) (u3_0 : Int) (u3_1 : Nat) (u3_2 : Option Nat) (u3_3 : List D) (u3_4 : List D) (u3_5 : Nat) (u3_6 : Nat) (u3_7 : List D) : Zks m u3_0 u3_1 u3_2 u3_3 u3_4 u3_5 u3_6 u3_7 =
 (Zhc m m u3_0 (0 : Int) u3_1 u3_2 u3_3 u3_4 u3_5 u3_6 u3_7) := (cutK_eq m _).trans (by kernel_rfl)
theorem Zwg (m n0 : Nat) (y0_0 : Int) (y0_1 : Int) (y0_2 : Nat) (y0_3 : Option Nat) (y0_4 : List D) (y0_5 : List D) (y0_6 : Nat) (y0_7 : Nat) (y0_8 : List D) : Zjw m (n0 + 1) y0_0 y0_1 y0_2 y0_3 y0_4 y0_5 y0_6 y0_7 y0_8 =
 (cond (decide (y0_1 < ((y0_2 : Nat) : Int)))
 (if 0 ≤ y0_1 ∧ y0_1 < ((y0_2 : Nat) : Int) then
 if (((Int.toNat y0_1) * 20) + 20) ≤ (List.length y0_4) then
 if (List.length ((List.drop ((Int.toNat y0_1) * 20) y0_4).take 20)) = 20 then
 cond (decide (y0_1 > (0 : Int)))
 ((rdI .i64 ((List.drop ((Int.toNat y0_1) * 20) y0_4).take 20)[0]?).bind fun x13 =>
 (rdI .i64 y0_5[0]?).bind fun x14 =>
 cond (decide (x13 > x14))
 (Z5o m n0 y0_0 y0_1 (1 : Int) y0_2 y0_3 y0_4 y0_5 y0_6 y0_7 y0_8 ((List.drop ((Int.toNat y0_1) * 20) y0_4).take 20))
 ((rdI .i64 ((List.drop ((Int.toNat y0_1) * 20) y0_4).take 20)[0]?).bind fun x15 =>
 (rdI .i64 y0_5[0]?).bind fun x16 =>
 cond (x15 == x16)
 ((Z3q [(D.agg ((List.drop 1 ((List.drop ((Int.toNat y0_1) * 20) y0_4).take 20)).take 17)), (D.agg ((List.drop 1 y0_5).take 17))]).bind fun d17 =>
 (rdI .i64 (some d17)).bind fun x18 =>
 cond (decide (x18 > (0 : Int)))
 (Z5o m n0 y0_0 y0_1 (1 : Int) y0_2 y0_3 y0_4 y0_5 y0_6 y0_7 y0_8 ((List.drop ((Int.toNat y0_1) * 20) y0_4).take 20))
 (Z5o m n0 y0_0 y0_1 (0 : Int) y0_2 y0_3 y0_4 y0_5 y0_6 y0_7 y0_8 ((List.drop ((Int.toNat y0_1) * 20) y0_4).take 20)))
 (Z5o m n0 y0_0 y0_1 (0 : Int) y0_2 y0_3 y0_4 y0_5 y0_6 y0_7 y0_8 ((List.drop ((Int.toNat y0_1) * 20) y0_4).take 20))))
 (Z5o m n0 y0_0 y0_1 (0 : Int) y0_2 y0_3 y0_4 y0_5 y0_6 y0_7 y0_8 ((List.drop ((Int.toNat y0_1) * 20) y0_4).take 20))
 else none
 else none
 else none)
 (cond (decide (y0_0 < (0 : Int)))
 (if (List.length y0_5) = 20 then
 if ownB ⟨0, [], false, []⟩ 4 = true ∧ y0_7 = (y0_6 * 20) ∧ fitsRow (y0_6 + 1) 128 ∧ (List.length y0_5) = 20 then
 Zks m ((y0_6 : Nat) : Int) y0_2 y0_3 y0_4 y0_5 (y0_6 + 1) ((y0_6 + 1) * 20) (y0_8 ++ y0_5)
 else none
 else none)
 (Zks m y0_0 y0_2 y0_3 y0_4 y0_5 y0_6 y0_7 y0_8))) := by kernel_rfl
noncomputable def Zns (m : Nat) (a0_0n : Nat) (a0_0c : Option Nat) (a0_0 : List D) (a1 : List D) : Option D :=
 if (List.length a1) = 20 then
 Zjw m m (-1 : Int) (0 : Int) a0_0n a0_0c a0_0 a1 0 0 []
 else none
theorem Zxy (m : Nat) (a0_0n : Nat) (a0_0c : Option Nat) (a0_0 : List D) (a1 : List D) : funD Tryz.prog Zw m 4 Zh Tryz.f49 [(D.agg [(D.list a0_0n a0_0c a0_0)]), (D.agg a1)] = Zns m a0_0n a0_0c a0_0 a1 := by kernel_rfl
theorem Zzy : Enters Tryz.prog 49 := ⟨Tryz.f49, Tryz.func49, by kernel_rfl, by kernel_rfl⟩
theorem Zzz {ds : List D} {d : D} (h : funD Tryz.prog Zw M 4 Zh Tryz.f49 ds = some d) : DataSem Tryz.prog 49 ds d := data_sound (H := Zw) (SpOk.cons Ziy SpOk.nil) mixed InlOk.nil Tryz.func49 Zzy h
noncomputable def Zio : List D → Option D
  | [.agg [.list a0_0n a0_0c a0_0], .agg a1] => Zns M a0_0n a0_0c a0_0 a1
  | _ => none
theorem Z100 : ∀ ds d, Zio ds = some d → DataSem Tryz.prog 49 ds d := by
  intro ds d h
  unfold Zio at h
  split at h
  · exact Zzz ((Zxy M _ _ _ _).trans h)
  · cases h

-- ('str', '"(vidimus/vidimuslaw26.T).Of"')
def Z10 : FnH := ⟨[(3, ⟨(bm 30 64), [], (some 3)⟩)], [(5, ⟨(bm 30 64), [], (some 3)⟩), (8, ⟨(bm 62 64), [], (some 4)⟩), (4, ⟨(bm 30 64), [], (some 3)⟩)]⟩
noncomputable def Z1u : Hints := ⟨[(38, Z4v), (48, Zfv), (49, Zio), (72, Zim), (73, Zd7)], [], []⟩
noncomputable def Zhd (m n0 : Nat) (y0_0 : Int) (y0_1 : Nat) (y0_2 : Option Nat) (y0_3 : List D) (y0_4 : List D) : Option D :=
 loopIter (bm 30 64) 0 3 (codeK Tryz.prog Z1u.sp ⟨0, [], false, []⟩ (inlK Tryz.prog Z1u m 4) m Z10 (subc [1, 1, 0, 1, 0, 0] (bodyOf Tryz.f24))) n0 ⟨[.junk, (AV.ptr 0 0), (AV.ptr 1 0), (AV.ptr 2 0), (AV.d (D.v (.int .i64 y0_0))), .junk, .junk, .junk, .junk, .junk, .junk, .junk, .junk, .junk, .junk, .junk, .junk, .junk, .junk, .junk, .junk, .junk, .junk, .junk, .junk, .junk, .junk, .junk, .junk, .junk, .junk, .junk, .junk, .junk, .junk, .junk, .junk, .junk, .junk, .junk, .junk, .junk, .junk, .junk, .junk, .junk, .junk, .junk, .junk, .junk, .junk, .junk, .junk, .junk, .junk, .junk, .junk, .junk, .junk, .junk, .junk, .junk, .junk, .junk], [(Blk.d 1 [(D.list y0_1 y0_2 y0_3)]), (Blk.d 1 [(D.list 0 (some 0) [])]), (Blk.d 1 y0_4)]⟩
  (contK Tryz.prog Z1u.sp ⟨0, [], false, []⟩ (inlK Tryz.prog Z1u m 4) m Z10 (endK Tryz.prog Tryz.f24 (fun v L => viewK L 8 v some)) [.block 0, .code (subc [1, 1, 1] (bodyOf Tryz.f24))])
noncomputable def Zpy (m n0 : Nat) (u0_0 : Int) (u0_1 : Nat) (u0_2 : Option Nat) (u0_3 : List D) (u0_4 : List D) : Option D :=
 cutK m (codeK Tryz.prog Z1u.sp ⟨0, [], false, []⟩ (inlK Tryz.prog Z1u m 4) m Z10 (subc [1, 1, 0, 1, 0, 0, 1] (bodyOf Tryz.f24)) ⟨[.junk, (AV.ptr 0 0), (AV.ptr 1 0), (AV.ptr 2 0), (AV.d (D.v (.int .i64 u0_0))), .junk, .junk, .junk, .junk, .junk, .junk, .junk, .junk, .junk, .junk, .junk, .junk, .junk, .junk, .junk, .junk, .junk, .junk, .junk, .junk, .junk, .junk, .junk, .junk, .junk, .junk, .junk, .junk, .junk, .junk, .junk, .junk, .junk, .junk, .junk, .junk, .junk, .junk, .junk, .junk, .junk, .junk, .junk, .junk, .junk, .junk, .junk, .junk, .junk, .junk, .junk, .junk, .junk, .junk, .junk, .junk, .junk, .junk, .junk], [(Blk.d 1 [(D.list u0_1 u0_2 u0_3)]), (Blk.d 1 [(D.list 0 (some 0) [])]), (Blk.d 1 u0_4)]⟩
  (contK Tryz.prog Z1u.sp ⟨0, [], false, []⟩ (inlK Tryz.prog Z1u m 4) m Z10 (endK Tryz.prog Tryz.f24 (fun v L => viewK L 8 v some)) [.loop (bm 30 64) 3 (subc [1, 1, 0, 1, 0, 0] (bodyOf Tryz.f24)) n0, .block 0, .code (subc [1, 1, 1] (bodyOf Tryz.f24))]))
noncomputable def Zfx (m n0 : Nat) (u1_0 : Int) (u1_1 : Nat) (u1_2 : Option Nat) (u1_3 : List D) (u1_4 : List D) (u1_5 : List D) : Option D :=
 cutK m (codeK Tryz.prog Z1u.sp ⟨0, [], false, []⟩ (inlK Tryz.prog Z1u m 4) m Z10 (subc [1, 1, 0, 1, 0, 0, 1, 0, 0, 1, 1] (bodyOf Tryz.f24)) ⟨[.junk, (AV.ptr 0 0), (AV.ptr 1 0), (AV.ptr 2 0), (AV.d (D.v (.int .i64 u1_0))), (AV.ptr 3 0), .junk, .junk, .junk, .junk, .junk, .junk, .junk, .junk, .junk, .junk, .junk, .junk, .junk, .junk, .junk, .junk, .junk, .junk, .junk, .junk, .junk, .junk, .junk, .junk, .junk, .junk, .junk, .junk, .junk, .junk, .junk, .junk, .junk, .junk, .junk, .junk, .junk, .junk, .junk, .junk, .junk, .junk, .junk, .junk, .junk, .junk, .junk, .junk, .junk, .junk, .junk, .junk, .junk, .junk, .junk, .junk, .junk, .junk], [(Blk.d 1 [(D.list u1_1 u1_2 u1_3)]), (Blk.d 1 [(D.list 0 (some 0) [])]), (Blk.d 1 u1_4), (Blk.d 20 u1_5)]⟩
  (contK Tryz.prog Z1u.sp ⟨0, [], false, []⟩ (inlK Tryz.prog Z1u m 4) m Z10 (endK Tryz.prog Tryz.f24 (fun v L => viewK L 8 v some)) [.block 1, .code (subc [1, 1, 0, 1, 0, 0, 1, 1] (bodyOf Tryz.f24)), .loop (bm 30 64) 3 (subc [1, 1, 0, 1, 0, 0] (bodyOf Tryz.f24)) n0, .block 0, .code (subc [1, 1, 1] (bodyOf Tryz.f24))]))
noncomputable def Zkt (m n0 : Nat) (u2_0 : Int) (u2_1 : Nat) (u2_2 : Option Nat) (u2_3 : List D) (u2_4 : List D) : Option D :=
 cutK m (codeK Tryz.prog Z1u.sp ⟨0, [], false, []⟩ (inlK Tryz.prog Z1u m 4) m Z10 (subc [1, 1, 0, 1, 0, 0, 1, 1] (bodyOf Tryz.f24)) ⟨[.junk, (AV.ptr 0 0), (AV.ptr 1 0), (AV.ptr 2 0), (AV.d (D.v (.int .i64 u2_0))), .junk, .junk, .junk, .junk, .junk, .junk, .junk, .junk, .junk, .junk, .junk, .junk, .junk, .junk, .junk, .junk, .junk, .junk, .junk, .junk, .junk, .junk, .junk, .junk, .junk, .junk, .junk, .junk, .junk, .junk, .junk, .junk, .junk, .junk, .junk, .junk, .junk, .junk, .junk, .junk, .junk, .junk, .junk, .junk, .junk, .junk, .junk, .junk, .junk, .junk, .junk, .junk, .junk, .junk, .junk, .junk, .junk, .junk, .junk], [(Blk.d 1 [(D.list u2_1 u2_2 u2_3)]), (Blk.d 1 [(D.list 0 (some 0) [])]), (Blk.d 1 u2_4)]⟩
  (contK Tryz.prog Z1u.sp ⟨0, [], false, []⟩ (inlK Tryz.prog Z1u m 4) m Z10 (endK Tryz.prog Tryz.f24 (fun v L => viewK L 8 v some)) [.loop (bm 30 64) 3 (subc [1, 1, 0, 1, 0, 0] (bodyOf Tryz.f24)) n0, .block 0, .code (subc [1, 1, 1] (bodyOf Tryz.f24))]))
theorem Zn7 (m n0 : Nat) (u2_0 : Int) (u2_1 : Nat) (u2_2 : Option Nat) (u2_3 : List D) (u2_4 : List D) : Zkt m n0 u2_0 u2_1 u2_2 u2_3 u2_4 =
 (Zhd m n0 (IntKind.wrap .i64 (u2_0 + (1 : Int))) u2_1 u2_2 u2_3 u2_4) := (cutK_eq m _).trans (by kernel_rfl)
theorem Ztz (m n0 : Nat) (u1_0 : Int) (u1_1 : Nat) (u1_2 : Option Nat) (u1_3 : List D) (u1_4 : List D) (u1_5 : List D) : Zfx m n0 u1_0 u1_1 u1_2 u1_3 u1_4 u1_5 =
 ((Zfv [(D.agg u1_4), (D.agg u1_5)]).bind fun d50 =>
 (rdI .i64 (some d50)).bind fun x51 =>
 cond (x51 == (0 : Int))
 ((Zio [(D.agg u1_4), (D.agg u1_5)]).bind fun d52 =>
 (rdT d52).bind fun r53 =>
 if List.length r53 = 2 then
 (rdA r53[0]?).bind fun c54 =>
 (rdI .i64 r53[1]?).bind fun x55 =>
 if (List.length c54) = 1 then
 Zkt m n0 u1_0 u1_1 u1_2 u1_3 c54
 else none
 else none)
 (Zkt m n0 u1_0 u1_1 u1_2 u1_3 u1_4)) := (cutK_eq m _).trans (by kernel_rfl)
theorem Zu0 (m n0 : Nat) (u0_0 : Int) (u0_1 : Nat) (u0_2 : Option Nat) (u0_3 : List D) (u0_4 : List D) : Zpy m n0 u0_0 u0_1 u0_2 u0_3 u0_4 =
 (if 0 ≤ u0_0 ∧ u0_0 < ((u0_1 : Nat) : Int) then
 (rdI .u8 u0_3[(((Int.toNat u0_0) * 4) + 1)]?).bind fun x39 =>
 (Z4v [(D.v (.int .u8 x39))]).bind fun d40 =>
 (rdA (some d40)).bind fun c41 =>
 if 0 ≤ u0_0 ∧ u0_0 < ((u0_1 : Nat) : Int) then
 (rdI .u8 u0_3[(((Int.toNat u0_0) * 4) + 2)]?).bind fun x42 =>
 (Zim [(D.v (.int .u8 x42))]).bind fun d43 =>
 (rdL (some d43)).bind fun q44 =>
 if 0 ≤ u0_0 ∧ u0_0 < ((u0_1 : Nat) : Int) then
 (rdI .u8 u0_3[(((Int.toNat u0_0) * 4) + 3)]?).bind fun x45 =>
 (Zd7 [(D.v (.int .u8 x45))]).bind fun d46 =>
 (rdL (some d46)).bind fun q47 =>
 if (List.length c41) = 17 then
 if (List.length (List.set (List.set (putL 20 [(D.v (.int .i64 (-1 : Int))), (D.v (.int .u8 (0 : Int))), zU, zU, zU, zU, zU, zU, zU, zU, zU, zU, zU, zU, zU, zU, zU, zU, (D.list 0 (some 0) []), (D.list 0 (some 0) [])] 1 17 c41) 18 (D.list q44.n q44.cap q44.cs)) 19 (D.list q47.n q47.cap q47.cs))) = 20 then
 cond (decide (u0_0 > (0 : Int)))
 (if 0 ≤ u0_0 ∧ u0_0 < ((u0_1 : Nat) : Int) then
 (rdI .u8 u0_3[(((Int.toNat u0_0) * 4) + 0)]?).bind fun x48 =>
 (rdL u0_4[0]?).bind fun q49 =>
 if ((q49.n : Nat) : Int) = 0 then none else
 Zfx m n0 u0_0 u0_1 u0_2 u0_3 u0_4 (List.set (List.set (List.set (putL 20 [(D.v (.int .i64 (-1 : Int))), (D.v (.int .u8 (0 : Int))), zU, zU, zU, zU, zU, zU, zU, zU, zU, zU, zU, zU, zU, zU, zU, zU, (D.list 0 (some 0) []), (D.list 0 (some 0) [])] 1 17 c41) 18 (D.list q44.n q44.cap q44.cs)) 19 (D.list q47.n q47.cap q47.cs)) 0 (D.v (.int .i64 (Int.tmod (IntKind.wrap .i64 x48) ((q49.n : Nat) : Int)))))
 else none)
 (Zfx m n0 u0_0 u0_1 u0_2 u0_3 u0_4 (List.set (List.set (putL 20 [(D.v (.int .i64 (-1 : Int))), (D.v (.int .u8 (0 : Int))), zU, zU, zU, zU, zU, zU, zU, zU, zU, zU, zU, zU, zU, zU, zU, zU, (D.list 0 (some 0) []), (D.list 0 (some 0) [])] 1 17 c41) 18 (D.list q44.n q44.cap q44.cs)) 19 (D.list q47.n q47.cap q47.cs)))
 else none
 else none
 else none
 else none
 else none) := (cutK_eq m _).trans (by kernel_rfl)
theorem Zva (m n0 : Nat) (y0_0 : Int) (y0_1 : Nat) (y0_2 : Option Nat) (y0_3 : List D) (y0_4 : List D) : Zhd m (n0 + 1) y0_0 y0_1 y0_2 y0_3 y0_4 =
 (cond (decide (y0_0 < ((y0_1 : Nat) : Int)))
 (cond (decide (y0_0 < (25 : Int)))
 (Zpy m n0 y0_0 y0_1 y0_2 y0_3 y0_4)
 (if (List.length y0_4) = 1 then
 some (D.agg y0_4)
 else none))
 (if (List.length y0_4) = 1 then
 some (D.agg y0_4)
 else none)) := by kernel_rfl
noncomputable def Zuh (m : Nat) (a0_0n : Nat) (a0_0c : Option Nat) (a0_0 : List D) : Option D :=
 Zhd m m (0 : Int) a0_0n a0_0c a0_0 [(D.list 0 (some 0) [])]
theorem Zwh (m : Nat) (a0_0n : Nat) (a0_0c : Option Nat) (a0_0 : List D) : funD Tryz.prog Z1u m 4 Z10 Tryz.f24 [(D.agg [(D.list a0_0n a0_0c a0_0)])] = Zuh m a0_0n a0_0c a0_0 := by kernel_rfl
theorem Zz3 : Enters Tryz.prog 24 := ⟨Tryz.f24, Tryz.func24, by kernel_rfl, by kernel_rfl⟩
theorem Zz4 {ds : List D} {d : D} (h : funD Tryz.prog Z1u M 4 Z10 Tryz.f24 ds = some d) : DataSem Tryz.prog 24 ds d := data_sound (H := Z1u) (SpOk.cons Zkp (SpOk.cons Zz2 (SpOk.cons Z100 (SpOk.cons Zzx (SpOk.cons Zxq SpOk.nil))))) mixed InlOk.nil Tryz.func24 Zz3 h
noncomputable def Z5b : List D → Option D
  | [.agg [.list a0_0n a0_0c a0_0]] => Zuh M a0_0n a0_0c a0_0
  | _ => none
theorem Zz5 : ∀ ds d, Z5b ds = some d → DataSem Tryz.prog 24 ds d := by
  intro ds d h
  unfold Z5b at h
  split at h
  · exact Zz4 ((Zwh M _ _ _).trans h)
  · cases h

end Go.Ev
