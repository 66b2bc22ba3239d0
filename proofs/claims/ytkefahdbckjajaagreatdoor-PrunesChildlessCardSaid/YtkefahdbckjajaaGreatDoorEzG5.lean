/- Functions of the given program in plain form, printed: each with the proof that it is what the evaluator comes to, and that the program function returns what it says. No conditions. -/
import Derived.Test.YtkefahdbckjajaaGreatDoorEzG4
set_option linter.unusedVariables false
set_option maxRecDepth 100000
namespace Go.Ev
open Go Go.Proofs

-- ('str', '"vidimus/vidimusref26.Under"')
def Z2i : FnH := ⟨[(1, ⟨(bm 14 28), [], (some 1)⟩), (3, ⟨(bm 142 28), [], (some 1)⟩)], []⟩
noncomputable def Z45 : Hints := ⟨[], [], []⟩
noncomputable def Z79 (m n0 : Nat) (y0_0 : Int) (y0_1 : Nat) (y0_2 : Option Nat) (y0_3 : List D) (y0_4 : Nat) (y0_5 : Option Nat) (y0_6 : List D) : Option D :=
 loopIter (bm 14 28) 0 1 (codeK Tryz.prog Z45.sp ⟨0, [], false, []⟩ (inlK Tryz.prog Z45 m 4) m Z2i (subc [1, 0, 0, 0] (bodyOf Tryz.f75))) n0 ⟨[.junk, (AV.d (D.v (.int .i64 y0_0))), (AV.d (D.list y0_1 y0_2 y0_3)), (AV.ptr 0 0), .junk, .junk, .junk, .junk, .junk, .junk, .junk, .junk, .junk, .junk, .junk, .junk, .junk, .junk, .junk, .junk, .junk, .junk, .junk, .junk, .junk, .junk, .junk, .junk], [(Blk.d 1 [(D.list y0_4 y0_5 y0_6)])]⟩
  (contK Tryz.prog Z45.sp ⟨0, [], false, []⟩ (inlK Tryz.prog Z45 m 4) m Z2i (endK Tryz.prog Tryz.f75 (fun v L => viewK L 8 v some)) [.block 0, .code (subc [1, 1] (bodyOf Tryz.f75))])
noncomputable def Zg8 (m n0 n1 : Nat) (y1_0 : Int) (y1_1 : Nat) (y1_2 : Option Nat) (y1_3 : List D) (y1_4 : Int) (y1_5 : Nat) (y1_6 : Option Nat) (y1_7 : List D) : Option D :=
 loopIter (bm 142 28) 0 1 (codeK Tryz.prog Z45.sp ⟨0, [], false, []⟩ (inlK Tryz.prog Z45 m 4) m Z2i (subc [1, 0, 0, 0, 1, 0, 0, 1, 0, 0] (bodyOf Tryz.f75))) n1 ⟨[.junk, (AV.d (D.v (.int .i64 y1_0))), (AV.d (D.list y1_1 y1_2 y1_3)), (AV.ptr 0 0), .junk, .junk, .junk, (AV.d (D.v (.int .i64 y1_4))), .junk, .junk, .junk, .junk, .junk, .junk, .junk, .junk, .junk, .junk, .junk, .junk, .junk, .junk, .junk, .junk, .junk, .junk, .junk, .junk], [(Blk.d 1 [(D.list y1_5 y1_6 y1_7)])]⟩
  (contK Tryz.prog Z45.sp ⟨0, [], false, []⟩ (inlK Tryz.prog Z45 m 4) m Z2i (endK Tryz.prog Tryz.f75 (fun v L => viewK L 8 v some)) [.block 2, .code (subc [1, 0, 0, 0, 1, 0, 1] (bodyOf Tryz.f75)), .block 1, .loop (bm 14 28) 1 (subc [1, 0, 0, 0] (bodyOf Tryz.f75)) n0, .block 0, .code (subc [1, 1] (bodyOf Tryz.f75))])
theorem Zu9 (m n0 n1 : Nat) (y1_0 : Int) (y1_1 : Nat) (y1_2 : Option Nat) (y1_3 : List D) (y1_4 : Int) (y1_5 : Nat) (y1_6 : Option Nat) (y1_7 : List D) : Zg8 m n0 (n1 + 1) y1_0 y1_1 y1_2 y1_3 y1_4 y1_5 y1_6 y1_7 =
 (cond (decide (y1_4 < ((y1_1 : Nat) : Int)))
 (if 0 ≤ y1_4 ∧ y1_4 < ((y1_1 : Nat) : Int) then
 (rdI .i64 y1_3[((Int.toNat y1_4) * 1)]?).bind fun x7 =>
 cond (x7 == y1_0)
 (some (D.v (.int .i64 (1 : Int))))
 (Zg8 m n0 n1 y1_0 y1_1 y1_2 y1_3 (IntKind.wrap .i64 (y1_4 + (1 : Int))) y1_5 y1_6 y1_7)
 else none)
 (if 0 ≤ y1_0 ∧ y1_0 < ((y1_5 : Nat) : Int) then
 (rdI .i64 y1_7[(((Int.toNat y1_0) * 20) + 0)]?).bind fun x8 =>
 Z79 m n0 x8 y1_1 y1_2 y1_3 y1_5 y1_6 y1_7
 else none)) := by kernel_rfl
theorem Znb (m n0 : Nat) (y0_0 : Int) (y0_1 : Nat) (y0_2 : Option Nat) (y0_3 : List D) (y0_4 : Nat) (y0_5 : Option Nat) (y0_6 : List D) : Z79 m (n0 + 1) y0_0 y0_1 y0_2 y0_3 y0_4 y0_5 y0_6 =
 (cond (decide (y0_0 ≥ (0 : Int)))
 (Zg8 m n0 m y0_0 y0_1 y0_2 y0_3 (0 : Int) y0_4 y0_5 y0_6)
 (some zI)) := by kernel_rfl
noncomputable def Zjz (m : Nat) (a0_0n : Nat) (a0_0c : Option Nat) (a0_0 : List D) (a1 : Int) (a2n : Nat) (a2c : Option Nat) (a2 : List D) : Option D :=
 Z79 m m a1 a2n a2c a2 a0_0n a0_0c a0_0
theorem Zvi (m : Nat) (a0_0n : Nat) (a0_0c : Option Nat) (a0_0 : List D) (a1 : Int) (a2n : Nat) (a2c : Option Nat) (a2 : List D) : funD Tryz.prog Z45 m 4 Z2i Tryz.f75 [(D.agg [(D.list a0_0n a0_0c a0_0)]), (D.v (.int .i64 a1)), (D.list a2n a2c a2)] = Zjz m a0_0n a0_0c a0_0 a1 a2n a2c a2 := by kernel_rfl
theorem Zy5 : Enters Tryz.prog 75 := ⟨Tryz.f75, Tryz.func75, by kernel_rfl, by kernel_rfl⟩
theorem Zy6 {ds : List D} {d : D} (h : funD Tryz.prog Z45 M 4 Z2i Tryz.f75 ds = some d) : DataSem Tryz.prog 75 ds d := data_sound (H := Z45) SpOk.nil mixed InlOk.nil Tryz.func75 Zy5 h
noncomputable def Z8t : List D → Option D
  | [.agg [.list a0_0n a0_0c a0_0], .v (.int .i64 a1), .list a2n a2c a2] => Zjz M a0_0n a0_0c a0_0 a1 a2n a2c a2
  | _ => none
theorem Zy7 : ∀ ds d, Z8t ds = some d → DataSem Tryz.prog 75 ds d := by
  intro ds d h
  unfold Z8t at h
  split at h
  · exact Zy6 ((Zvi M _ _ _ _ _ _ _).trans h)
  · cases h

-- ('str', '"vidimus/vidimusref26.Delete"')
def Zq : FnH := ⟨[(3, ⟨(bm 118 51), [(1002000, 20)], (some 4)⟩), (9, ⟨(bm 1014 51), [], (some 5)⟩)], [(4, ⟨(bm 118 51), [], (some 6)⟩)]⟩
noncomputable def Z1a : Hints := ⟨[(75, Z8t)], [], []⟩
noncomputable def Z60 (m n0 : Nat) (y0_0 : Nat) (y0_1 : Option Nat) (y0_2 : List D) (y0_3 : Int) (y0_4 : Nat) (y0_5 : Option Nat) (y0_6 : List D) (y0_7 : Nat) (y0_8 : Nat) (y0_9 : List D) : Option D :=
 loopIter (bm 118 51) 0 4 (codeK Tryz.prog Z1a.sp ⟨0, [], false, []⟩ (inlK Tryz.prog Z1a m 4) m Zq (subc [1, 1, 0, 1, 0, 0] (bodyOf Tryz.f28))) n0 ⟨[.junk, (AV.d (D.list y0_0 y0_1 y0_2)), (AV.ptr 0 0), .junk, (AV.ptr 1 0), (AV.ptr 2 0), (AV.d (D.v (.int .i64 y0_3))), .junk, .junk, .junk, .junk, .junk, .junk, .junk, .junk, .junk, .junk, .junk, .junk, .junk, .junk, .junk, .junk, .junk, .junk, .junk, .junk, .junk, .junk, .junk, .junk, .junk, .junk, .junk, .junk, .junk, .junk, .junk, .junk, .junk, .junk, .junk, .junk, .junk, .junk, .junk, .junk, .junk, .junk, .junk, .junk], [(Blk.d 1 [(D.list y0_4 y0_5 y0_6)]), (Blk.d 1 [(D.list 0 (some 0) [])]), (Blk.a 1 [(AV.sl 3 0 y0_7 none 20)]), (Blk.d y0_8 y0_9)]⟩
  (contK Tryz.prog Z1a.sp ⟨0, [], false, []⟩ (inlK Tryz.prog Z1a m 4) m Zq (endK Tryz.prog Tryz.f28 (fun v L => viewK L 8 v some)) [.block 0, .code (subc [1, 1, 1] (bodyOf Tryz.f28))])
noncomputable def Znc (m n0 : Nat) (u0_0 : Nat) (u0_1 : Option Nat) (u0_2 : List D) (u0_3 : Int) (u0_4 : Nat) (u0_5 : Option Nat) (u0_6 : List D) (u0_7 : Nat) (u0_8 : Nat) (u0_9 : List D) : Option D :=
 cutK m (codeK Tryz.prog Z1a.sp ⟨0, [], false, []⟩ (inlK Tryz.prog Z1a m 4) m Zq (subc [1, 1, 0, 1, 0, 0, 1, 1] (bodyOf Tryz.f28)) ⟨[.junk, (AV.d (D.list u0_0 u0_1 u0_2)), (AV.ptr 0 0), .junk, (AV.ptr 1 0), (AV.ptr 2 0), (AV.d (D.v (.int .i64 u0_3))), .junk, .junk, .junk, .junk, .junk, .junk, .junk, .junk, .junk, .junk, .junk, .junk, .junk, .junk, .junk, .junk, .junk, .junk, .junk, .junk, .junk, .junk, .junk, .junk, .junk, .junk, .junk, .junk, .junk, .junk, .junk, .junk, .junk, .junk, .junk, .junk, .junk, .junk, .junk, .junk, .junk, .junk, .junk, .junk], [(Blk.d 1 [(D.list u0_4 u0_5 u0_6)]), (Blk.d 1 [(D.list 0 (some 0) [])]), (Blk.a 1 [(AV.sl 3 0 u0_7 none 20)]), (Blk.d u0_8 u0_9)]⟩
  (contK Tryz.prog Z1a.sp ⟨0, [], false, []⟩ (inlK Tryz.prog Z1a m 4) m Zq (endK Tryz.prog Tryz.f28 (fun v L => viewK L 8 v some)) [.loop (bm 118 51) 4 (subc [1, 1, 0, 1, 0, 0] (bodyOf Tryz.f28)) n0, .block 0, .code (subc [1, 1, 1] (bodyOf Tryz.f28))]))
theorem Zru (m n0 : Nat) (u0_0 : Nat) (u0_1 : Option Nat) (u0_2 : List D) (u0_3 : Int) (u0_4 : Nat) (u0_5 : Option Nat) (u0_6 : List D) (u0_7 : Nat) (u0_8 : Nat) (u0_9 : List D) : Znc m n0 u0_0 u0_1 u0_2 u0_3 u0_4 u0_5 u0_6 u0_7 u0_8 u0_9 =
 (Z60 m n0 u0_0 u0_1 u0_2 (IntKind.wrap .i64 (u0_3 + (1 : Int))) u0_4 u0_5 u0_6 u0_7 u0_8 u0_9) := (cutK_eq m _).trans (by kernel_rfl)
noncomputable def Zdn (m n0 n1 : Nat) (y1_0 : Nat) (y1_1 : Option Nat) (y1_2 : List D) (y1_3 : Int) (y1_4 : Int) (y1_5 : Int) (y1_6 : Nat) (y1_7 : Option Nat) (y1_8 : List D) (y1_9 : Nat) (y1_10 : Nat) (y1_11 : List D) (y1_12 : List D) : Option D :=
 loopIter (bm 1014 51) 0 5 (codeK Tryz.prog Z1a.sp ⟨0, [], false, []⟩ (inlK Tryz.prog Z1a m 4) m Zq (subc [1, 1, 0, 1, 0, 0, 1, 0, 0, 1, 1, 1, 0, 1, 0, 0] (bodyOf Tryz.f28))) n1 ⟨[.junk, (AV.d (D.list y1_0 y1_1 y1_2)), (AV.ptr 0 0), .junk, (AV.ptr 1 0), (AV.ptr 2 0), (AV.d (D.v (.int .i64 y1_3))), (AV.ptr 4 0), (AV.d (D.v (.int .i64 y1_4))), (AV.d (D.v (.int .i64 y1_5))), .junk, .junk, .junk, .junk, .junk, .junk, .junk, .junk, .junk, .junk, .junk, .junk, .junk, .junk, .junk, .junk, .junk, .junk, .junk, .junk, .junk, .junk, .junk, .junk, .junk, .junk, .junk, .junk, .junk, .junk, .junk, .junk, .junk, .junk, .junk, .junk, .junk, .junk, .junk, .junk, .junk], [(Blk.d 1 [(D.list y1_6 y1_7 y1_8)]), (Blk.d 1 [(D.list 0 (some 0) [])]), (Blk.a 1 [(AV.sl 3 0 y1_9 none 20)]), (Blk.d y1_10 y1_11), (Blk.d 20 y1_12)]⟩
  (contK Tryz.prog Z1a.sp ⟨0, [], false, []⟩ (inlK Tryz.prog Z1a m 4) m Zq (endK Tryz.prog Tryz.f28 (fun v L => viewK L 8 v some)) [.block 2, .code (subc [1, 1, 0, 1, 0, 0, 1, 0, 0, 1, 1, 1, 1] (bodyOf Tryz.f28)), .block 1, .code (subc [1, 1, 0, 1, 0, 0, 1, 1] (bodyOf Tryz.f28)), .loop (bm 118 51) 4 (subc [1, 1, 0, 1, 0, 0] (bodyOf Tryz.f28)) n0, .block 0, .code (subc [1, 1, 1] (bodyOf Tryz.f28))])
noncomputable def Zl0 (m n0 : Nat) (u1_0 : Nat) (u1_1 : Option Nat) (u1_2 : List D) (u1_3 : Int) (u1_4 : Nat) (u1_5 : Option Nat) (u1_6 : List D) (u1_7 : Nat) (u1_8 : Nat) (u1_9 : List D) (u1_10 : List D) (u1_11 : List D) : Option D :=
 cutK m (codeK Tryz.prog Z1a.sp ⟨0, [], false, []⟩ (inlK Tryz.prog Z1a m 4) m Zq (subc [1, 1, 0, 1, 0, 0, 1, 1] (bodyOf Tryz.f28)) ⟨[.junk, (AV.d (D.list u1_0 u1_1 u1_2)), (AV.ptr 0 0), .junk, (AV.ptr 1 0), (AV.ptr 2 0), (AV.d (D.v (.int .i64 u1_3))), .junk, .junk, .junk, .junk, .junk, .junk, .junk, .junk, .junk, .junk, .junk, .junk, .junk, .junk, .junk, .junk, .junk, .junk, .junk, .junk, .junk, .junk, .junk, .junk, .junk, .junk, .junk, .junk, .junk, .junk, .junk, .junk, .junk, .junk, .junk, .junk, .junk, .junk, .junk, .junk, .junk, .junk, .junk, .junk], [(Blk.d 1 [(D.list u1_4 u1_5 u1_6)]), (Blk.d 1 [(D.list 0 (some 0) [])]), (Blk.a 1 [(AV.sl 3 0 u1_7 none 20)]), (Blk.d u1_8 u1_9), (Blk.d 20 u1_10), (Blk.d 20 u1_11)]⟩
  (contK Tryz.prog Z1a.sp ⟨0, [], false, []⟩ (inlK Tryz.prog Z1a m 4) m Zq (endK Tryz.prog Tryz.f28 (fun v L => viewK L 8 v some)) [.loop (bm 118 51) 4 (subc [1, 1, 0, 1, 0, 0] (bodyOf Tryz.f28)) n0, .block 0, .code (subc [1, 1, 1] (bodyOf Tryz.f28))]))
theorem Zq6 (m n0 : Nat) (u1_0 : Nat) (u1_1 : Option Nat) (u1_2 : List D) (u1_3 : Int) (u1_4 : Nat) (u1_5 : Option Nat) (u1_6 : List D) (u1_7 : Nat) (u1_8 : Nat) (u1_9 : List D) (u1_10 : List D) (u1_11 : List D) : Zl0 m n0 u1_0 u1_1 u1_2 u1_3 u1_4 u1_5 u1_6 u1_7 u1_8 u1_9 u1_10 u1_11 =
 (Z60 m n0 u1_0 u1_1 u1_2 (IntKind.wrap .i64 (u1_3 + (1 : Int))) u1_4 u1_5 u1_6 u1_7 u1_8 u1_9) := (cutK_eq m _).trans (by kernel_rfl)
theorem Zt3 (m n0 n1 : Nat) (y1_0 : Nat) (y1_1 : Option Nat) (y1_2 : List D) (y1_3 : Int) (y1_4 : Int) (y1_5 : Int) (y1_6 : Nat) (y1_7 : Option Nat) (y1_8 : List D) (y1_9 : Nat) (y1_10 : Nat) (y1_11 : List D) (y1_12 : List D) : Zdn m n0 (n1 + 1) y1_0 y1_1 y1_2 y1_3 y1_4 y1_5 y1_6 y1_7 y1_8 y1_9 y1_10 y1_11 y1_12 =
 ((rdI .i64 y1_12[0]?).bind fun x33 =>
 cond (decide (y1_5 < x33))
 ((Z8t [(D.agg [(D.list y1_6 y1_7 y1_8)]), (D.v (.int .i64 y1_5)), (D.list y1_0 y1_1 y1_2)]).bind fun d34 =>
 (rdI .i64 (some d34)).bind fun x35 =>
 Zdn m n0 n1 y1_0 y1_1 y1_2 y1_3 (IntKind.wrap .i64 (y1_4 + x35)) (IntKind.wrap .i64 (y1_5 + (1 : Int))) y1_6 y1_7 y1_8 y1_9 y1_10 y1_11 y1_12)
 ((rdI .i64 y1_12[0]?).bind fun x36 =>
 if (List.length (List.set y1_12 0 (D.v (.int .i64 (IntKind.wrap .i64 (x36 - y1_4)))))) = 20 then
 if ownB ⟨0, [], false, []⟩ 3 = true ∧ y1_10 = (y1_9 * 20) ∧ fitsRow (y1_9 + 1) 128 ∧ (List.length (List.set y1_12 0 (D.v (.int .i64 (IntKind.wrap .i64 (x36 - y1_4)))))) = 20 then
 Zl0 m n0 y1_0 y1_1 y1_2 y1_3 y1_6 y1_7 y1_8 (y1_9 + 1) ((y1_9 + 1) * 20) (y1_11 ++ (List.set y1_12 0 (D.v (.int .i64 (IntKind.wrap .i64 (x36 - y1_4)))))) (List.set y1_12 0 (D.v (.int .i64 (IntKind.wrap .i64 (x36 - y1_4))))) (List.set y1_12 0 (D.v (.int .i64 (IntKind.wrap .i64 (x36 - y1_4)))))
 else none
 else none)) := by kernel_rfl
theorem Zt4 (m n0 : Nat) (y0_0 : Nat) (y0_1 : Option Nat) (y0_2 : List D) (y0_3 : Int) (y0_4 : Nat) (y0_5 : Option Nat) (y0_6 : List D) (y0_7 : Nat) (y0_8 : Nat) (y0_9 : List D) : Z60 m (n0 + 1) y0_0 y0_1 y0_2 y0_3 y0_4 y0_5 y0_6 y0_7 y0_8 y0_9 =
 (cond (decide (y0_3 < ((y0_4 : Nat) : Int)))
 ((Z8t [(D.agg [(D.list y0_4 y0_5 y0_6)]), (D.v (.int .i64 y0_3)), (D.list y0_0 y0_1 y0_2)]).bind fun d25 =>
 (rdI .i64 (some d25)).bind fun x26 =>
 cond (x26 == (1 : Int))
 (Znc m n0 y0_0 y0_1 y0_2 y0_3 y0_4 y0_5 y0_6 y0_7 y0_8 y0_9)
 (if 0 ≤ y0_3 ∧ y0_3 < ((y0_4 : Nat) : Int) then
 if (((Int.toNat y0_3) * 20) + 20) ≤ (List.length y0_6) then
 if (List.length ((List.drop ((Int.toNat y0_3) * 20) y0_6).take 20)) = 20 then
 Zdn m n0 m y0_0 y0_1 y0_2 y0_3 (0 : Int) (0 : Int) y0_4 y0_5 y0_6 y0_7 y0_8 y0_9 ((List.drop ((Int.toNat y0_3) * 20) y0_6).take 20)
 else none
 else none
 else none))
 (if (0 + (y0_7 * 20)) ≤ y0_8 then
 some (D.agg [(D.list y0_7 none (cutL y0_8 y0_9 0 (y0_7 * 20)))])
 else none)) := by kernel_rfl
noncomputable def Zhj (m : Nat) (a0_0n : Nat) (a0_0c : Option Nat) (a0_0 : List D) (a1n : Nat) (a1c : Option Nat) (a1 : List D) : Option D :=
 Z60 m m a1n a1c a1 (0 : Int) a0_0n a0_0c a0_0 0 0 []
theorem Zua (m : Nat) (a0_0n : Nat) (a0_0c : Option Nat) (a0_0 : List D) (a1n : Nat) (a1c : Option Nat) (a1 : List D) : funD Tryz.prog Z1a m 4 Zq Tryz.f28 [(D.agg [(D.list a0_0n a0_0c a0_0)]), (D.list a1n a1c a1)] = Zhj m a0_0n a0_0c a0_0 a1n a1c a1 := by kernel_rfl
theorem Zwx : Enters Tryz.prog 28 := ⟨Tryz.f28, Tryz.func28, by kernel_rfl, by kernel_rfl⟩
theorem Zwy {ds : List D} {d : D} (h : funD Tryz.prog Z1a M 4 Zq Tryz.f28 ds = some d) : DataSem Tryz.prog 28 ds d := data_sound (H := Z1a) (SpOk.cons Zy7 SpOk.nil) mixed InlOk.nil Tryz.func28 Zwx h
noncomputable def Z46 : List D → Option D
  | [.agg [.list a0_0n a0_0c a0_0], .list a1n a1c a1] => Zhj M a0_0n a0_0c a0_0 a1n a1c a1
  | _ => none
theorem Zwz : ∀ ds d, Z46 ds = some d → DataSem Tryz.prog 28 ds d := by
  intro ds d h
  unfold Z46 at h
  split at h
  · exact Zwy ((Zua M _ _ _ _ _ _).trans h)
  · cases h

-- ('str', '"vidimus/vidimusref26.Line"')
def Z3j : FnH := ⟨[(4, ⟨(bm 35 26), [], (some 0)⟩)], []⟩
noncomputable def Z5q : Hints := ⟨[], [], []⟩
noncomputable def Zc7 (m n0 : Nat) (y0_0 : Nat) (y0_1 : Option Nat) (y0_2 : List D) (y0_3 : Nat) (y0_4 : Option Nat) (y0_5 : List D) (y0_6 : Int) : Option D :=
 loopIter (bm 35 26) 0 0 (codeK Tryz.prog Z5q.sp ⟨0, [], false, []⟩ (inlK Tryz.prog Z5q m 4) m Z3j (subc [1, 1, 0, 1, 0, 0] (bodyOf Tryz.f45))) n0 ⟨[(AV.d (D.list y0_0 y0_1 y0_2)), (AV.d (D.list y0_3 y0_4 y0_5)), .junk, .junk, .junk, (AV.d (D.v (.int .i64 y0_6))), .junk, .junk, .junk, .junk, .junk, .junk, .junk, .junk, .junk, .junk, .junk, .junk, .junk, .junk, .junk, .junk, .junk, .junk, .junk, .junk], []⟩
  (contK Tryz.prog Z5q.sp ⟨0, [], false, []⟩ (inlK Tryz.prog Z5q m 4) m Z3j (endK Tryz.prog Tryz.f45 (fun v L => viewK L 8 v some)) [.block 0, .code (subc [1, 1, 1] (bodyOf Tryz.f45))])
theorem Zrv (m n0 : Nat) (y0_0 : Nat) (y0_1 : Option Nat) (y0_2 : List D) (y0_3 : Nat) (y0_4 : Option Nat) (y0_5 : List D) (y0_6 : Int) : Zc7 m (n0 + 1) y0_0 y0_1 y0_2 y0_3 y0_4 y0_5 y0_6 =
 (cond (decide (y0_6 < ((y0_0 : Nat) : Int)))
 (if 0 ≤ y0_6 ∧ y0_6 < ((y0_0 : Nat) : Int) then
 if (((Int.toNat y0_6) * 17) + 17) ≤ (List.length y0_2) then
 if 0 ≤ y0_6 ∧ y0_6 < ((y0_3 : Nat) : Int) then
 if (((Int.toNat y0_6) * 17) + 17) ≤ (List.length y0_5) then
 (cellsEq [.int, .int, .int, .int, .int, .int, .int, .int, .int, .int, .int, .int, .int, .int, .int, .int, .int] ((List.drop ((Int.toNat y0_6) * 17) y0_2).take 17) ((List.drop ((Int.toNat y0_6) * 17) y0_5).take 17)).bind fun b3 =>
 cond (!b3)
 (some zI)
 (Zc7 m n0 y0_0 y0_1 y0_2 y0_3 y0_4 y0_5 (IntKind.wrap .i64 (y0_6 + (1 : Int))))
 else none
 else none
 else none
 else none)
 (some (D.v (.int .i64 (1 : Int))))) := by kernel_rfl
noncomputable def Zg9 (m : Nat) (a0n : Nat) (a0c : Option Nat) (a0 : List D) (a1n : Nat) (a1c : Option Nat) (a1 : List D) : Option D :=
 cond (((a0n : Nat) : Int) != ((a1n : Nat) : Int))
 (some zI)
 (Zc7 m m a0n a0c a0 a1n a1c a1 (0 : Int))
theorem Zt5 (m : Nat) (a0n : Nat) (a0c : Option Nat) (a0 : List D) (a1n : Nat) (a1c : Option Nat) (a1 : List D) : funD Tryz.prog Z5q m 4 Z3j Tryz.f45 [(D.list a0n a0c a0), (D.list a1n a1c a1)] = Zg9 m a0n a0c a0 a1n a1c a1 := by kernel_rfl
theorem Zvj : Enters Tryz.prog 45 := ⟨Tryz.f45, Tryz.func45, by kernel_rfl, by kernel_rfl⟩
theorem Zvk {ds : List D} {d : D} (h : funD Tryz.prog Z5q M 4 Z3j Tryz.f45 ds = some d) : DataSem Tryz.prog 45 ds d := data_sound (H := Z5q) SpOk.nil mixed InlOk.nil Tryz.func45 Zvj h
noncomputable def Z8q : List D → Option D
  | [.list a0n a0c a0, .list a1n a1c a1] => Zg9 M a0n a0c a0 a1n a1c a1
  | _ => none
theorem Zvl : ∀ ds d, Z8q ds = some d → DataSem Tryz.prog 45 ds d := by
  intro ds d h
  unfold Z8q at h
  split at h
  · exact Zvk ((Zt5 M _ _ _ _ _ _).trans h)
  · cases h

-- ('str', '"vidimus/vidimusref26.Find"')
def Z47 : FnH := ⟨[(4, ⟨(bm 44 89), [], (some 2)⟩)], [(3, ⟨(bm 12 89), [], (some 2)⟩)]⟩
noncomputable def Z84 : Hints := ⟨[], [], []⟩
noncomputable def Zvm (m : Nat) (u0_0 : List D) (u0_1 : List D) : Option D :=
 cutK m (codeK Tryz.prog Z84.sp ⟨0, [], false, []⟩ (inlK Tryz.prog Z84 m 4) m Z47 (subc [1, 1] (bodyOf Tryz.f107)) ⟨[.junk, .junk, (AV.ptr 0 0), (AV.ptr 1 0), .junk, .junk, .junk, .junk, .junk, .junk, .junk, .junk, .junk, .junk, .junk, .junk, .junk, .junk, .junk, .junk, .junk, .junk, .junk, .junk, .junk, .junk, .junk, .junk, .junk, .junk, .junk, .junk, .junk, .junk, .junk, .junk, .junk, .junk, .junk, .junk, .junk, .junk, .junk, .junk, .junk, .junk, .junk, .junk, .junk, .junk, .junk, .junk, .junk, .junk, .junk, .junk, .junk, .junk, .junk, .junk, .junk, .junk, .junk, .junk, .junk, .junk, .junk, .junk, .junk, .junk, .junk, .junk, .junk, .junk, .junk, .junk, .junk, .junk, .junk, .junk, .junk, .junk, .junk, .junk, .junk, .junk, .junk, .junk, .junk], [(Blk.d 27 u0_0), (Blk.d 27 u0_1)]⟩
  (contK Tryz.prog Z84.sp ⟨0, [], false, []⟩ (inlK Tryz.prog Z84 m 4) m Z47 (endK Tryz.prog Tryz.f107 (fun v L => viewK L 8 v some)) []))
noncomputable def Zt6 (m : Nat) (a0 : List D) (a1 : List D) : Option D :=
 if (List.length a0) = 27 then
 if (List.length a1) = 27 then
 (rdI .u8 a0[0]?).bind fun x1 =>
 (rdI .u8 a1[0]?).bind fun x2 =>
 cond (x1 != x2)
 (some (D.v (.bool false)))
 ((rdS a0[1]?).bind fun s3 =>
 (rdS a1[1]?).bind fun s4 =>
 cond (!(ByteArray.toList s3 == ByteArray.toList s4))
 (some (D.v (.bool false)))
 ((rdB a0[2]?).bind fun b5 =>
 (rdB a1[2]?).bind fun b6 =>
 cond (!(b5 == b6))
 (some (D.v (.bool false)))
 ((cellsEq [.int, .str] ((List.drop 3 a0).take 2) ((List.drop 3 a1).take 2)).bind fun b7 =>
 cond (!b7)
 (some (D.v (.bool false)))
 ((rdB a0[6]?).bind fun b8 =>
 (rdB a1[6]?).bind fun b9 =>
 cond (!(b8 == b9))
 (some (D.v (.bool false)))
 ((cellsEq [.int, .str] ((List.drop 7 a0).take 2) ((List.drop 7 a1).take 2)).bind fun b10 =>
 cond (!b10)
 (some (D.v (.bool false)))
 ((cellsEq [.int, .int, .int, .int, .int, .int, .int, .int, .int, .int, .int, .int, .int, .int, .int, .int, .int] ((List.drop 9 a0).take 17) ((List.drop 9 a1).take 17)).bind fun b11 =>
 cond (!b11)
 (some (D.v (.bool false)))
 ((rdL a0[26]?).bind fun q12 =>
 if (List.length q12.cs) = q12.n then
 (bytesOf q12.cs).bind fun l13 =>
 (rdL a1[26]?).bind fun q14 =>
 if (List.length q14.cs) = q14.n then
 (bytesOf q14.cs).bind fun l15 =>
 cond (!(ByteArray.toList (ByteArray.mk (List.toArray l13)) == ByteArray.toList (ByteArray.mk (List.toArray l15))))
 (some (D.v (.bool false)))
 ((rdL a0[5]?).bind fun q16 =>
 (rdL a1[5]?).bind fun q17 =>
 cond (((q16.n : Nat) : Int) != ((q17.n : Nat) : Int))
 (some (D.v (.bool false)))
 (Zvm m a0 a1))
 else none
 else none)))))))
 else none
 else none
theorem Zvn (m : Nat) (a0 : List D) (a1 : List D) : funD Tryz.prog Z84 m 4 Z47 Tryz.f107 [(D.agg a0), (D.agg a1)] = Zt6 m a0 a1 := by kernel_rfl
theorem Zy8 : Enters Tryz.prog 107 := ⟨Tryz.f107, Tryz.func107, by kernel_rfl, by kernel_rfl⟩
theorem Zy9 {ds : List D} {d : D} (h : funD Tryz.prog Z84 M 4 Z47 Tryz.f107 ds = some d) : DataSem Tryz.prog 107 ds d := data_sound (H := Z84) SpOk.nil mixed InlOk.nil Tryz.func107 Zy8 h
noncomputable def Z4l : List D → Option D
  | [.agg a0, .agg a1] => Zt6 M a0 a1
  | _ => none
theorem Zya : ∀ ds d, Z4l ds = some d → DataSem Tryz.prog 107 ds d := by
  intro ds d h
  unfold Z4l at h
  split at h
  · exact Zy9 ((Zvn M _ _).trans h)
  · cases h

-- ('str', '"vidimus/vidimusref16.Same"')
def Z4m : FnH := ⟨[(4, ⟨(bm 35 27), [], (some 0)⟩)], []⟩
noncomputable def Zbl : Hints := ⟨[(107, Z4l)], [], []⟩
noncomputable def Zhk (m n0 : Nat) (y0_0 : Nat) (y0_1 : Option Nat) (y0_2 : List D) (y0_3 : Nat) (y0_4 : Option Nat) (y0_5 : List D) (y0_6 : Int) : Option D :=
 loopIter (bm 35 27) 0 0 (codeK Tryz.prog Zbl.sp ⟨0, [], false, []⟩ (inlK Tryz.prog Zbl m 4) m Z4m (subc [1, 1, 0, 1, 0, 0] (bodyOf Tryz.f76))) n0 ⟨[(AV.d (D.list y0_0 y0_1 y0_2)), (AV.d (D.list y0_3 y0_4 y0_5)), .junk, .junk, .junk, (AV.d (D.v (.int .i64 y0_6))), .junk, .junk, .junk, .junk, .junk, .junk, .junk, .junk, .junk, .junk, .junk, .junk, .junk, .junk, .junk, .junk, .junk, .junk, .junk, .junk, .junk], []⟩
  (contK Tryz.prog Zbl.sp ⟨0, [], false, []⟩ (inlK Tryz.prog Zbl m 4) m Z4m (endK Tryz.prog Tryz.f76 (fun v L => viewK L 8 v some)) [.block 0, .code (subc [1, 1, 1] (bodyOf Tryz.f76))])
theorem Zvo (m n0 : Nat) (y0_0 : Nat) (y0_1 : Option Nat) (y0_2 : List D) (y0_3 : Nat) (y0_4 : Option Nat) (y0_5 : List D) (y0_6 : Int) : Zhk m (n0 + 1) y0_0 y0_1 y0_2 y0_3 y0_4 y0_5 y0_6 =
 (cond (decide (y0_6 < ((y0_0 : Nat) : Int)))
 (if 0 ≤ y0_6 ∧ y0_6 < ((y0_0 : Nat) : Int) then
 if (((Int.toNat y0_6) * 27) + 27) ≤ (List.length y0_2) then
 if 0 ≤ y0_6 ∧ y0_6 < ((y0_3 : Nat) : Int) then
 if (((Int.toNat y0_6) * 27) + 27) ≤ (List.length y0_5) then
 (Z4l [(D.agg ((List.drop ((Int.toNat y0_6) * 27) y0_2).take 27)), (D.agg ((List.drop ((Int.toNat y0_6) * 27) y0_5).take 27))]).bind fun d5 =>
 (rdB (some d5)).bind fun b6 =>
 cond (!b6)
 (some (D.v (.bool false)))
 (Zhk m n0 y0_0 y0_1 y0_2 y0_3 y0_4 y0_5 (IntKind.wrap .i64 (y0_6 + (1 : Int))))
 else none
 else none
 else none
 else none)
 (some (D.v (.bool true)))) := by kernel_rfl
noncomputable def Zm4 (m : Nat) (a0n : Nat) (a0c : Option Nat) (a0 : List D) (a1n : Nat) (a1c : Option Nat) (a1 : List D) : Option D :=
 cond (((a0n : Nat) : Int) != ((a1n : Nat) : Int))
 (some (D.v (.bool false)))
 (Zhk m m a0n a0c a0 a1n a1c a1 (0 : Int))
theorem Zx0 (m : Nat) (a0n : Nat) (a0c : Option Nat) (a0 : List D) (a1n : Nat) (a1c : Option Nat) (a1 : List D) : funD Tryz.prog Zbl m 4 Z4m Tryz.f76 [(D.list a0n a0c a0), (D.list a1n a1c a1)] = Zm4 m a0n a0c a0 a1n a1c a1 := by kernel_rfl
theorem Zza : Enters Tryz.prog 76 := ⟨Tryz.f76, Tryz.func76, by kernel_rfl, by kernel_rfl⟩
theorem Zzb {ds : List D} {d : D} (h : funD Tryz.prog Zbl M 4 Z4m Tryz.f76 ds = some d) : DataSem Tryz.prog 76 ds d := data_sound (H := Zbl) (SpOk.cons Zya SpOk.nil) mixed InlOk.nil Tryz.func76 Zza h
noncomputable def Zga : List D → Option D
  | [.list a0n a0c a0, .list a1n a1c a1] => Zm4 M a0n a0c a0 a1n a1c a1
  | _ => none
theorem Zzc : ∀ ds d, Zga ds = some d → DataSem Tryz.prog 76 ds d := by
  intro ds d h
  unfold Zga at h
  split at h
  · exact Zzb ((Zx0 M _ _ _ _ _ _).trans h)
  · cases h

-- ('str', '"vidimus/vidimusref26.Same"')
def Z2z : FnH := ⟨[(4, ⟨(bm 44 80), [], (some 2)⟩)], [(5, ⟨(bm 44 80), [], (some 2)⟩)]⟩
noncomputable def Z4z : Hints := ⟨[(45, Z8q), (76, Zga)], [], []⟩
noncomputable def Zhl (m n0 : Nat) (y0_0 : Int) (y0_1 : Nat) (y0_2 : Option Nat) (y0_3 : List D) (y0_4 : Nat) (y0_5 : Option Nat) (y0_6 : List D) : Option D :=
 loopIter (bm 44 80) 0 2 (codeK Tryz.prog Z4z.sp ⟨0, [], false, []⟩ (inlK Tryz.prog Z4z m 4) m Z2z (subc [1, 1, 0, 1, 0, 0] (bodyOf Tryz.f31))) n0 ⟨[.junk, .junk, (AV.ptr 0 0), (AV.ptr 1 0), .junk, (AV.d (D.v (.int .i64 y0_0))), .junk, .junk, .junk, .junk, .junk, .junk, .junk, .junk, .junk, .junk, .junk, .junk, .junk, .junk, .junk, .junk, .junk, .junk, .junk, .junk, .junk, .junk, .junk, .junk, .junk, .junk, .junk, .junk, .junk, .junk, .junk, .junk, .junk, .junk, .junk, .junk, .junk, .junk, .junk, .junk, .junk, .junk, .junk, .junk, .junk, .junk, .junk, .junk, .junk, .junk, .junk, .junk, .junk, .junk, .junk, .junk, .junk, .junk, .junk, .junk, .junk, .junk, .junk, .junk, .junk, .junk, .junk, .junk, .junk, .junk, .junk, .junk, .junk, .junk], [(Blk.d 1 [(D.list y0_1 y0_2 y0_3)]), (Blk.d 1 [(D.list y0_4 y0_5 y0_6)])]⟩
  (contK Tryz.prog Z4z.sp ⟨0, [], false, []⟩ (inlK Tryz.prog Z4z m 4) m Z2z (endK Tryz.prog Tryz.f31 (fun v L => viewK L 8 v some)) [.block 0, .code (subc [1, 1, 1] (bodyOf Tryz.f31))])
noncomputable def Zq7 (m n0 : Nat) (u0_0 : Int) (u0_1 : Nat) (u0_2 : Option Nat) (u0_3 : List D) (u0_4 : Nat) (u0_5 : Option Nat) (u0_6 : List D) : Option D :=
 cutK m (codeK Tryz.prog Z4z.sp ⟨0, [], false, []⟩ (inlK Tryz.prog Z4z m 4) m Z2z (subc [1, 1, 0, 1, 0, 0, 1, 1] (bodyOf Tryz.f31)) ⟨[.junk, .junk, (AV.ptr 0 0), (AV.ptr 1 0), .junk, (AV.d (D.v (.int .i64 u0_0))), .junk, .junk, .junk, .junk, .junk, .junk, .junk, .junk, .junk, .junk, .junk, .junk, .junk, .junk, .junk, .junk, .junk, .junk, .junk, .junk, .junk, .junk, .junk, .junk, .junk, .junk, .junk, .junk, .junk, .junk, .junk, .junk, .junk, .junk, .junk, .junk, .junk, .junk, .junk, .junk, .junk, .junk, .junk, .junk, .junk, .junk, .junk, .junk, .junk, .junk, .junk, .junk, .junk, .junk, .junk, .junk, .junk, .junk, .junk, .junk, .junk, .junk, .junk, .junk, .junk, .junk, .junk, .junk, .junk, .junk, .junk, .junk, .junk, .junk], [(Blk.d 1 [(D.list u0_1 u0_2 u0_3)]), (Blk.d 1 [(D.list u0_4 u0_5 u0_6)])]⟩
  (contK Tryz.prog Z4z.sp ⟨0, [], false, []⟩ (inlK Tryz.prog Z4z m 4) m Z2z (endK Tryz.prog Tryz.f31 (fun v L => viewK L 8 v some)) [.loop (bm 44 80) 2 (subc [1, 1, 0, 1, 0, 0] (bodyOf Tryz.f31)) n0, .block 0, .code (subc [1, 1, 1] (bodyOf Tryz.f31))]))
theorem Zub (m n0 : Nat) (u0_0 : Int) (u0_1 : Nat) (u0_2 : Option Nat) (u0_3 : List D) (u0_4 : Nat) (u0_5 : Option Nat) (u0_6 : List D) : Zq7 m n0 u0_0 u0_1 u0_2 u0_3 u0_4 u0_5 u0_6 =
 (Zhl m n0 (IntKind.wrap .i64 (u0_0 + (1 : Int))) u0_1 u0_2 u0_3 u0_4 u0_5 u0_6) := (cutK_eq m _).trans (by kernel_rfl)
theorem Zvp (m n0 : Nat) (y0_0 : Int) (y0_1 : Nat) (y0_2 : Option Nat) (y0_3 : List D) (y0_4 : Nat) (y0_5 : Option Nat) (y0_6 : List D) : Zhl m (n0 + 1) y0_0 y0_1 y0_2 y0_3 y0_4 y0_5 y0_6 =
 (cond (decide (y0_0 < ((y0_1 : Nat) : Int)))
 (if 0 ≤ y0_0 ∧ y0_0 < ((y0_1 : Nat) : Int) then
 (rdI .i64 y0_3[(((Int.toNat y0_0) * 20) + 0)]?).bind fun x23 =>
 if 0 ≤ y0_0 ∧ y0_0 < ((y0_4 : Nat) : Int) then
 (rdI .i64 y0_6[(((Int.toNat y0_0) * 20) + 0)]?).bind fun x24 =>
 cond (x23 != x24)
 (some zI)
 (if 0 ≤ y0_0 ∧ y0_0 < ((y0_1 : Nat) : Int) then
 if ((((Int.toNat y0_0) * 20) + 1) + 17) ≤ (List.length y0_3) then
 if 0 ≤ y0_0 ∧ y0_0 < ((y0_4 : Nat) : Int) then
 if ((((Int.toNat y0_0) * 20) + 1) + 17) ≤ (List.length y0_6) then
 (cellsEq [.int, .int, .int, .int, .int, .int, .int, .int, .int, .int, .int, .int, .int, .int, .int, .int, .int] ((List.drop (((Int.toNat y0_0) * 20) + 1) y0_3).take 17) ((List.drop (((Int.toNat y0_0) * 20) + 1) y0_6).take 17)).bind fun b25 =>
 cond (!b25)
 (some zI)
 (if 0 ≤ y0_0 ∧ y0_0 < ((y0_1 : Nat) : Int) then
 (rdL y0_3[(((Int.toNat y0_0) * 20) + 18)]?).bind fun q26 =>
 if 0 ≤ y0_0 ∧ y0_0 < ((y0_4 : Nat) : Int) then
 (rdL y0_6[(((Int.toNat y0_0) * 20) + 18)]?).bind fun q27 =>
 (Z8q [(D.list q26.n q26.cap q26.cs), (D.list q27.n q27.cap q27.cs)]).bind fun d28 =>
 (rdI .i64 (some d28)).bind fun x29 =>
 cond (x29 == (0 : Int))
 (some zI)
 (if 0 ≤ y0_0 ∧ y0_0 < ((y0_1 : Nat) : Int) then
 (rdL y0_3[(((Int.toNat y0_0) * 20) + 19)]?).bind fun q30 =>
 if 0 ≤ y0_0 ∧ y0_0 < ((y0_4 : Nat) : Int) then
 (rdL y0_6[(((Int.toNat y0_0) * 20) + 19)]?).bind fun q31 =>
 (Zga [(D.list q30.n q30.cap q30.cs), (D.list q31.n q31.cap q31.cs)]).bind fun d32 =>
 (rdB (some d32)).bind fun b33 =>
 cond (!b33)
 (some zI)
 (Zq7 m n0 y0_0 y0_1 y0_2 y0_3 y0_4 y0_5 y0_6)
 else none
 else none)
 else none
 else none)
 else none
 else none
 else none
 else none)
 else none
 else none)
 (some (D.v (.int .i64 (1 : Int))))) := by kernel_rfl
noncomputable def Zm5 (m : Nat) (a0_0n : Nat) (a0_0c : Option Nat) (a0_0 : List D) (a1_0n : Nat) (a1_0c : Option Nat) (a1_0 : List D) : Option D :=
 cond (((a0_0n : Nat) : Int) != ((a1_0n : Nat) : Int))
 (some zI)
 (Zhl m m (0 : Int) a0_0n a0_0c a0_0 a1_0n a1_0c a1_0)
theorem Zx1 (m : Nat) (a0_0n : Nat) (a0_0c : Option Nat) (a0_0 : List D) (a1_0n : Nat) (a1_0c : Option Nat) (a1_0 : List D) : funD Tryz.prog Z4z m 4 Z2z Tryz.f31 [(D.agg [(D.list a0_0n a0_0c a0_0)]), (D.agg [(D.list a1_0n a1_0c a1_0)])] = Zm5 m a0_0n a0_0c a0_0 a1_0n a1_0c a1_0 := by kernel_rfl
theorem Zzd : Enters Tryz.prog 31 := ⟨Tryz.f31, Tryz.func31, by kernel_rfl, by kernel_rfl⟩
theorem Zze {ds : List D} {d : D} (h : funD Tryz.prog Z4z M 4 Z2z Tryz.f31 ds = some d) : DataSem Tryz.prog 31 ds d := data_sound (H := Z4z) (SpOk.cons Zvl (SpOk.cons Zzc SpOk.nil)) mixed InlOk.nil Tryz.func31 Zzd h
noncomputable def Zgb : List D → Option D
  | [.agg [.list a0_0n a0_0c a0_0], .agg [.list a1_0n a1_0c a1_0]] => Zm5 M a0_0n a0_0c a0_0 a1_0n a1_0c a1_0
  | _ => none
theorem Zzf : ∀ ds d, Zgb ds = some d → DataSem Tryz.prog 31 ds d := by
  intro ds d h
  unfold Zgb at h
  split at h
  · exact Zze ((Zx1 M _ _ _ _ _ _).trans h)
  · cases h

-- ('str', '"vidimus/vidimusref27.Childless"')
def Zo : FnH := ⟨[(3, ⟨(bm 102 31), [(5, 1)], (some 2)⟩)], [(4, ⟨(bm 102 31), [], (some 3)⟩)]⟩
noncomputable def Z18 : Hints := ⟨[(34, Z3c), (44, Z4h)], [], []⟩
noncomputable def Z5r (m n0 : Nat) (y0_0 : Int) (y0_1 : Nat) (y0_2 : Int) (y0_3 : Nat) (y0_4 : Option Nat) (y0_5 : List D) (y0_6 : Nat) (y0_7 : List D) : Option D :=
 loopIter (bm 102 31) 0 2 (codeK Tryz.prog Z18.sp ⟨0, [], false, []⟩ (inlK Tryz.prog Z18 m 4) m Zo (subc [1, 1, 0, 1, 0, 0] (bodyOf Tryz.f22))) n0 ⟨[.junk, (AV.d (D.v (.int .i64 y0_0))), (AV.ptr 0 0), .junk, .junk, (AV.sl 1 0 y0_1 none 1), (AV.d (D.v (.int .i64 y0_2))), .junk, .junk, .junk, .junk, .junk, .junk, .junk, .junk, .junk, .junk, .junk, .junk, .junk, .junk, .junk, .junk, .junk, .junk, .junk, .junk, .junk, .junk, .junk, .junk], [(Blk.d 1 [(D.list y0_3 y0_4 y0_5)]), (Blk.d y0_6 y0_7)]⟩
  (contK Tryz.prog Z18.sp ⟨0, [], false, []⟩ (inlK Tryz.prog Z18 m 4) m Zo (endK Tryz.prog Tryz.f22 (fun v L => viewK L 8 v some)) [.block 0, .code (subc [1, 1, 1] (bodyOf Tryz.f22))])
noncomputable def Zj7 (m n0 : Nat) (u0_0 : Int) (u0_1 : Nat) (u0_2 : Int) (u0_3 : Nat) (u0_4 : Option Nat) (u0_5 : List D) (u0_6 : Nat) (u0_7 : List D) (u0_8 : Int) : Option D :=
 cutK m (codeK Tryz.prog Z18.sp ⟨0, [], false, []⟩ (inlK Tryz.prog Z18 m 4) m Zo (subc [1, 1, 0, 1, 0, 0, 1, 1] (bodyOf Tryz.f22)) ⟨[.junk, (AV.d (D.v (.int .i64 u0_0))), (AV.ptr 0 0), .junk, .junk, (AV.sl 1 0 u0_1 none 1), (AV.d (D.v (.int .i64 u0_2))), .junk, .junk, .junk, .junk, .junk, .junk, .junk, .junk, .junk, .junk, .junk, .junk, .junk, .junk, .junk, .junk, .junk, .junk, .junk, .junk, .junk, .junk, .junk, .junk], [(Blk.d 1 [(D.list u0_3 u0_4 u0_5)]), (Blk.d u0_6 u0_7), (Blk.d 1 [(D.v (.int .i64 u0_8))])]⟩
  (contK Tryz.prog Z18.sp ⟨0, [], false, []⟩ (inlK Tryz.prog Z18 m 4) m Zo (endK Tryz.prog Tryz.f22 (fun v L => viewK L 8 v some)) [.loop (bm 102 31) 2 (subc [1, 1, 0, 1, 0, 0] (bodyOf Tryz.f22)) n0, .block 0, .code (subc [1, 1, 1] (bodyOf Tryz.f22))]))
theorem Zou (m n0 : Nat) (u0_0 : Int) (u0_1 : Nat) (u0_2 : Int) (u0_3 : Nat) (u0_4 : Option Nat) (u0_5 : List D) (u0_6 : Nat) (u0_7 : List D) (u0_8 : Int) : Zj7 m n0 u0_0 u0_1 u0_2 u0_3 u0_4 u0_5 u0_6 u0_7 u0_8 =
 (Z5r m n0 u0_0 u0_1 (IntKind.wrap .i64 (u0_2 + (1 : Int))) u0_3 u0_4 u0_5 u0_6 u0_7) := (cutK_eq m _).trans (by kernel_rfl)
noncomputable def Z97 (m n0 : Nat) (u1_0 : Int) (u1_1 : Nat) (u1_2 : Int) (u1_3 : Nat) (u1_4 : Option Nat) (u1_5 : List D) (u1_6 : Nat) (u1_7 : List D) : Option D :=
 cutK m (codeK Tryz.prog Z18.sp ⟨0, [], false, []⟩ (inlK Tryz.prog Z18 m 4) m Zo (subc [1, 1, 0, 1, 0, 0, 1, 1] (bodyOf Tryz.f22)) ⟨[.junk, (AV.d (D.v (.int .i64 u1_0))), (AV.ptr 0 0), .junk, .junk, (AV.sl 1 0 u1_1 none 1), (AV.d (D.v (.int .i64 u1_2))), .junk, .junk, .junk, .junk, .junk, .junk, .junk, .junk, .junk, .junk, .junk, .junk, .junk, .junk, .junk, .junk, .junk, .junk, .junk, .junk, .junk, .junk, .junk, .junk], [(Blk.d 1 [(D.list u1_3 u1_4 u1_5)]), (Blk.d u1_6 u1_7)]⟩
  (contK Tryz.prog Z18.sp ⟨0, [], false, []⟩ (inlK Tryz.prog Z18 m 4) m Zo (endK Tryz.prog Tryz.f22 (fun v L => viewK L 8 v some)) [.loop (bm 102 31) 2 (subc [1, 1, 0, 1, 0, 0] (bodyOf Tryz.f22)) n0, .block 0, .code (subc [1, 1, 1] (bodyOf Tryz.f22))]))
theorem Zek (m n0 : Nat) (u1_0 : Int) (u1_1 : Nat) (u1_2 : Int) (u1_3 : Nat) (u1_4 : Option Nat) (u1_5 : List D) (u1_6 : Nat) (u1_7 : List D) : Z97 m n0 u1_0 u1_1 u1_2 u1_3 u1_4 u1_5 u1_6 u1_7 =
 (Z5r m n0 u1_0 u1_1 (IntKind.wrap .i64 (u1_2 + (1 : Int))) u1_3 u1_4 u1_5 u1_6 u1_7) := (cutK_eq m _).trans (by kernel_rfl)
theorem Zq8 (m n0 : Nat) (y0_0 : Int) (y0_1 : Nat) (y0_2 : Int) (y0_3 : Nat) (y0_4 : Option Nat) (y0_5 : List D) (y0_6 : Nat) (y0_7 : List D) : Z5r m (n0 + 1) y0_0 y0_1 y0_2 y0_3 y0_4 y0_5 y0_6 y0_7 =
 (cond (decide (y0_2 < ((y0_3 : Nat) : Int)))
 ((Z3c [(D.agg [(D.list y0_3 y0_4 y0_5)]), (D.v (.int .i64 y0_2))]).bind fun d9 =>
 (rdI .i64 (some d9)).bind fun x10 =>
 cond (decide (x10 < y0_0))
 ((Z4h [(D.agg [(D.list y0_3 y0_4 y0_5)]), (D.v (.int .i64 y0_2))]).bind fun d11 =>
 (rdL (some d11)).bind fun q12 =>
 cond (((q12.n : Nat) : Int) == (0 : Int))
 (if ownB ⟨0, [], false, []⟩ 1 = true ∧ y0_6 = (y0_1 * 1) ∧ fitsRow (y0_1 + 1) 8 ∧ 1 = 1 then
 Zj7 m n0 y0_0 (y0_1 + 1) y0_2 y0_3 y0_4 y0_5 ((y0_1 + 1) * 1) (y0_7 ++ [(D.v (.int .i64 y0_2))]) y0_2
 else none)
 (Z97 m n0 y0_0 y0_1 y0_2 y0_3 y0_4 y0_5 y0_6 y0_7))
 (Z97 m n0 y0_0 y0_1 y0_2 y0_3 y0_4 y0_5 y0_6 y0_7))
 (if (0 + (y0_1 * 1)) ≤ y0_6 then
 some (D.list y0_1 none (cutL y0_6 y0_7 0 (y0_1 * 1)))
 else none)) := by kernel_rfl
noncomputable def Zc8 (m : Nat) (a0_0n : Nat) (a0_0c : Option Nat) (a0_0 : List D) (a1 : Int) : Option D :=
 Z5r m m a1 0 (0 : Int) a0_0n a0_0c a0_0 0 []
theorem Zqn (m : Nat) (a0_0n : Nat) (a0_0c : Option Nat) (a0_0 : List D) (a1 : Int) : funD Tryz.prog Z18 m 4 Zo Tryz.f22 [(D.agg [(D.list a0_0n a0_0c a0_0)]), (D.v (.int .i64 a1))] = Zc8 m a0_0n a0_0c a0_0 a1 := by kernel_rfl
theorem Zt7 : Enters Tryz.prog 22 := ⟨Tryz.f22, Tryz.func22, by kernel_rfl, by kernel_rfl⟩
theorem Zt8 {ds : List D} {d : D} (h : funD Tryz.prog Z18 M 4 Zo Tryz.f22 ds = some d) : DataSem Tryz.prog 22 ds d := data_sound (H := Z18) (SpOk.cons Zhb (SpOk.cons Zn5 SpOk.nil)) mixed InlOk.nil Tryz.func22 Zt7 h
noncomputable def Z31 : List D → Option D
  | [.agg [.list a0_0n a0_0c a0_0], .v (.int .i64 a1)] => Zc8 M a0_0n a0_0c a0_0 a1
  | _ => none
theorem Zt9 : ∀ ds d, Z31 ds = some d → DataSem Tryz.prog 22 ds d := by
  intro ds d h
  unfold Z31 at h
  split at h
  · exact Zt8 ((Zqn M _ _ _ _).trans h)
  · cases h

-- ('str', '"vidimus/vidimusref27.Prune"')
def Z5s : FnH := ⟨[(5, ⟨(bm 396 31), [], (some 1)⟩)], []⟩
noncomputable def Zc9 (Z20 : List D → Option D) : Hints := ⟨[(34, Z3c), (44, Z4h), (74, Z20)], [], []⟩
noncomputable def Zgc (Z20 : List D → Option D) (m n0 : Nat) (y0_0 : Int) (y0_1 : Nat) (y0_2 : Option Nat) (y0_3 : List D) (y0_4 : Int) (y0_5 : Nat) (y0_6 : Option Nat) (y0_7 : List D) : Option D :=
 loopIter (bm 396 31) 0 1 (codeK Tryz.prog (Zc9 Z20).sp ⟨0, [], false, []⟩ (inlK Tryz.prog (Zc9 Z20) m 4) m Z5s (subc [1, 1, 1, 0, 1, 0, 0] (bodyOf Tryz.f74))) n0 ⟨[.junk, .junk, (AV.d (D.v (.int .i64 y0_0))), (AV.ptr 0 0), .junk, .junk, .junk, (AV.d (D.list y0_1 y0_2 y0_3)), (AV.d (D.v (.int .i64 y0_4))), .junk, .junk, .junk, .junk, .junk, .junk, .junk, .junk, .junk, .junk, .junk, .junk, .junk, .junk, .junk, .junk, .junk, .junk, .junk, .junk, .junk, .junk], [(Blk.d 1 [(D.list y0_5 y0_6 y0_7)])]⟩
  (contK Tryz.prog (Zc9 Z20).sp ⟨0, [], false, []⟩ (inlK Tryz.prog (Zc9 Z20) m 4) m Z5s (endK Tryz.prog Tryz.f74 (fun v L => viewK L 8 v some)) [.block 0, .code (subc [1, 1, 1, 1] (bodyOf Tryz.f74))])
theorem Zuc (Z20 : List D → Option D) (m n0 : Nat) (y0_0 : Int) (y0_1 : Nat) (y0_2 : Option Nat) (y0_3 : List D) (y0_4 : Int) (y0_5 : Nat) (y0_6 : Option Nat) (y0_7 : List D) : Zgc Z20 m (n0 + 1) y0_0 y0_1 y0_2 y0_3 y0_4 y0_5 y0_6 y0_7 =
 (cond (decide (y0_4 < ((y0_1 : Nat) : Int)))
 (if 0 ≤ y0_4 ∧ y0_4 < ((y0_1 : Nat) : Int) then
 (rdI .i64 y0_3[((Int.toNat y0_4) * 1)]?).bind fun x11 =>
 (Z20 [(D.agg [(D.list y0_5 y0_6 y0_7)]), (D.v (.int .i64 x11)), (D.v (.int .i64 y0_0))]).bind fun d12 =>
 (rdI .i64 (some d12)).bind fun x13 =>
 cond (x13 == (1 : Int))
 (some (D.v (.int .i64 (1 : Int))))
 (Zgc Z20 m n0 y0_0 y0_1 y0_2 y0_3 (IntKind.wrap .i64 (y0_4 + (1 : Int))) y0_5 y0_6 y0_7)
 else none)
 (some zI)) := by kernel_rfl
noncomputable def Zk0 (Z20 : List D → Option D) (m : Nat) (a0_0n : Nat) (a0_0c : Option Nat) (a0_0 : List D) (a1 : Int) (a2 : Int) : Option D :=
 (Z3c [(D.agg [(D.list a0_0n a0_0c a0_0)]), (D.v (.int .i64 a1))]).bind fun d1 =>
 (rdI .i64 (some d1)).bind fun x2 =>
 cond (x2 == a2)
 (some (D.v (.int .i64 (1 : Int))))
 ((Z4h [(D.agg [(D.list a0_0n a0_0c a0_0)]), (D.v (.int .i64 a1))]).bind fun d3 =>
 (rdL (some d3)).bind fun q4 =>
 Zgc Z20 m m a2 q4.n q4.cap q4.cs (0 : Int) a0_0n a0_0c a0_0)
theorem Zvq (Z20 : List D → Option D) (m : Nat) (a0_0n : Nat) (a0_0c : Option Nat) (a0_0 : List D) (a1 : Int) (a2 : Int) : funD Tryz.prog (Zc9 Z20) m 4 Z5s Tryz.f74 [(D.agg [(D.list a0_0n a0_0c a0_0)]), (D.v (.int .i64 a1)), (D.v (.int .i64 a2))] = Zk0 Z20 m a0_0n a0_0c a0_0 a1 a2 := by kernel_rfl
theorem Zyb : Enters Tryz.prog 74 := ⟨Tryz.f74, Tryz.func74, by kernel_rfl, by kernel_rfl⟩
noncomputable def Z48 : Nat → List D → Option D
  | 0, _ => none
  | n + 1, [.agg [.list a0_0n a0_0c a0_0], .v (.int .i64 a1), .v (.int .i64 a2)] => Zk0 (Z48 n) M a0_0n a0_0c a0_0 a1 a2
  | _ + 1, _ => none
theorem Zx2 (n : Nat) : ∀ ds d, Z48 n ds = some d → DataSem Tryz.prog 74 ds d := by
  induction n with
  | zero => intro ds d h; cases h
  | succ n ih =>
    intro ds d h
    unfold Z48 at h
    split at h
    · rename_i hx; cases hx
    · rename_i hx; cases hx; exact data_sound (H := Zc9 (Z48 n)) (SpOk.cons Zhb (SpOk.cons Zn5 (SpOk.cons ih SpOk.nil))) mixed InlOk.nil Tryz.func74 Zyb ((Zvq (Z48 n) M _ _ _ _ _).trans h)
    · cases h
noncomputable def Zmp : List D → Option D := Z48 M
theorem Zyc : ∀ ds d, Zmp ds = some d → DataSem Tryz.prog 74 ds d := Zx2 M

-- ('str', '"vidimus/vidimusref27.Stays"')
def Z1e : FnH := ⟨[(3, ⟨(bm 102 31), [(5, 1)], (some 2)⟩)], [(4, ⟨(bm 102 31), [], (some 3)⟩)]⟩
noncomputable def Z2p : Hints := ⟨[(34, Z3c), (74, Zmp)], [], []⟩
noncomputable def Zbm (m n0 : Nat) (y0_0 : Int) (y0_1 : Nat) (y0_2 : Int) (y0_3 : Nat) (y0_4 : Option Nat) (y0_5 : List D) (y0_6 : Nat) (y0_7 : List D) : Option D :=
 loopIter (bm 102 31) 0 2 (codeK Tryz.prog Z2p.sp ⟨0, [], false, []⟩ (inlK Tryz.prog Z2p m 4) m Z1e (subc [1, 1, 0, 1, 0, 0] (bodyOf Tryz.f26))) n0 ⟨[.junk, (AV.d (D.v (.int .i64 y0_0))), (AV.ptr 0 0), .junk, .junk, (AV.sl 1 0 y0_1 none 1), (AV.d (D.v (.int .i64 y0_2))), .junk, .junk, .junk, .junk, .junk, .junk, .junk, .junk, .junk, .junk, .junk, .junk, .junk, .junk, .junk, .junk, .junk, .junk, .junk, .junk, .junk, .junk, .junk, .junk], [(Blk.d 1 [(D.list y0_3 y0_4 y0_5)]), (Blk.d y0_6 y0_7)]⟩
  (contK Tryz.prog Z2p.sp ⟨0, [], false, []⟩ (inlK Tryz.prog Z2p m 4) m Z1e (endK Tryz.prog Tryz.f26 (fun v L => viewK L 8 v some)) [.block 0, .code (subc [1, 1, 1] (bodyOf Tryz.f26))])
noncomputable def Zj2 (m n0 : Nat) (u0_0 : Int) (u0_1 : Nat) (u0_2 : Int) (u0_3 : Nat) (u0_4 : Option Nat) (u0_5 : List D) (u0_6 : Nat) (u0_7 : List D) (u0_8 : Int) : Option D :=
 cutK m (codeK Tryz.prog Z2p.sp ⟨0, [], false, []⟩ (inlK Tryz.prog Z2p m 4) m Z1e (subc [1, 1, 0, 1, 0, 0, 1, 1] (bodyOf Tryz.f26)) ⟨[.junk, (AV.d (D.v (.int .i64 u0_0))), (AV.ptr 0 0), .junk, .junk, (AV.sl 1 0 u0_1 none 1), (AV.d (D.v (.int .i64 u0_2))), .junk, .junk, .junk, .junk, .junk, .junk, .junk, .junk, .junk, .junk, .junk, .junk, .junk, .junk, .junk, .junk, .junk, .junk, .junk, .junk, .junk, .junk, .junk, .junk], [(Blk.d 1 [(D.list u0_3 u0_4 u0_5)]), (Blk.d u0_6 u0_7), (Blk.d 1 [(D.v (.int .i64 u0_8))])]⟩
  (contK Tryz.prog Z2p.sp ⟨0, [], false, []⟩ (inlK Tryz.prog Z2p m 4) m Z1e (endK Tryz.prog Tryz.f26 (fun v L => viewK L 8 v some)) [.loop (bm 102 31) 2 (subc [1, 1, 0, 1, 0, 0] (bodyOf Tryz.f26)) n0, .block 0, .code (subc [1, 1, 1] (bodyOf Tryz.f26))]))
theorem Zm6 (m n0 : Nat) (u0_0 : Int) (u0_1 : Nat) (u0_2 : Int) (u0_3 : Nat) (u0_4 : Option Nat) (u0_5 : List D) (u0_6 : Nat) (u0_7 : List D) (u0_8 : Int) : Zj2 m n0 u0_0 u0_1 u0_2 u0_3 u0_4 u0_5 u0_6 u0_7 u0_8 =
 (Zbm m n0 u0_0 u0_1 (IntKind.wrap .i64 (u0_2 + (1 : Int))) u0_3 u0_4 u0_5 u0_6 u0_7) := (cutK_eq m _).trans (by kernel_rfl)
noncomputable def Zm7 (m n0 : Nat) (u1_0 : Int) (u1_1 : Nat) (u1_2 : Int) (u1_3 : Nat) (u1_4 : Option Nat) (u1_5 : List D) (u1_6 : Nat) (u1_7 : List D) : Option D :=
 cutK m (codeK Tryz.prog Z2p.sp ⟨0, [], false, []⟩ (inlK Tryz.prog Z2p m 4) m Z1e (subc [1, 1, 0, 1, 0, 0, 1, 1] (bodyOf Tryz.f26)) ⟨[.junk, (AV.d (D.v (.int .i64 u1_0))), (AV.ptr 0 0), .junk, .junk, (AV.sl 1 0 u1_1 none 1), (AV.d (D.v (.int .i64 u1_2))), .junk, .junk, .junk, .junk, .junk, .junk, .junk, .junk, .junk, .junk, .junk, .junk, .junk, .junk, .junk, .junk, .junk, .junk, .junk, .junk, .junk, .junk, .junk, .junk], [(Blk.d 1 [(D.list u1_3 u1_4 u1_5)]), (Blk.d u1_6 u1_7)]⟩
  (contK Tryz.prog Z2p.sp ⟨0, [], false, []⟩ (inlK Tryz.prog Z2p m 4) m Z1e (endK Tryz.prog Tryz.f26 (fun v L => viewK L 8 v some)) [.loop (bm 102 31) 2 (subc [1, 1, 0, 1, 0, 0] (bodyOf Tryz.f26)) n0, .block 0, .code (subc [1, 1, 1] (bodyOf Tryz.f26))]))
theorem Zqo (m n0 : Nat) (u1_0 : Int) (u1_1 : Nat) (u1_2 : Int) (u1_3 : Nat) (u1_4 : Option Nat) (u1_5 : List D) (u1_6 : Nat) (u1_7 : List D) : Zm7 m n0 u1_0 u1_1 u1_2 u1_3 u1_4 u1_5 u1_6 u1_7 =
 (Zbm m n0 u1_0 u1_1 (IntKind.wrap .i64 (u1_2 + (1 : Int))) u1_3 u1_4 u1_5 u1_6 u1_7) := (cutK_eq m _).trans (by kernel_rfl)
theorem Zud (m n0 : Nat) (y0_0 : Int) (y0_1 : Nat) (y0_2 : Int) (y0_3 : Nat) (y0_4 : Option Nat) (y0_5 : List D) (y0_6 : Nat) (y0_7 : List D) : Zbm m (n0 + 1) y0_0 y0_1 y0_2 y0_3 y0_4 y0_5 y0_6 y0_7 =
 (cond (decide (y0_2 < ((y0_3 : Nat) : Int)))
 ((Z3c [(D.agg [(D.list y0_3 y0_4 y0_5)]), (D.v (.int .i64 y0_2))]).bind fun d9 =>
 (rdI .i64 (some d9)).bind fun x10 =>
 cond (decide (x10 ≥ y0_0))
 (if ownB ⟨0, [], false, []⟩ 1 = true ∧ y0_6 = (y0_1 * 1) ∧ fitsRow (y0_1 + 1) 8 ∧ 1 = 1 then
 Zj2 m n0 y0_0 (y0_1 + 1) y0_2 y0_3 y0_4 y0_5 ((y0_1 + 1) * 1) (y0_7 ++ [(D.v (.int .i64 y0_2))]) y0_2
 else none)
 ((Zmp [(D.agg [(D.list y0_3 y0_4 y0_5)]), (D.v (.int .i64 y0_2)), (D.v (.int .i64 y0_0))]).bind fun d11 =>
 (rdI .i64 (some d11)).bind fun x12 =>
 cond (x12 == (1 : Int))
 (if ownB ⟨0, [], false, []⟩ 1 = true ∧ y0_6 = (y0_1 * 1) ∧ fitsRow (y0_1 + 1) 8 ∧ 1 = 1 then
 Zj2 m n0 y0_0 (y0_1 + 1) y0_2 y0_3 y0_4 y0_5 ((y0_1 + 1) * 1) (y0_7 ++ [(D.v (.int .i64 y0_2))]) y0_2
 else none)
 (Zm7 m n0 y0_0 y0_1 y0_2 y0_3 y0_4 y0_5 y0_6 y0_7)))
 (if (0 + (y0_1 * 1)) ≤ y0_6 then
 some (D.list y0_1 none (cutL y0_6 y0_7 0 (y0_1 * 1)))
 else none)) := by kernel_rfl
noncomputable def Zk1 (m : Nat) (a0_0n : Nat) (a0_0c : Option Nat) (a0_0 : List D) (a1 : Int) : Option D :=
 Zbm m m a1 0 (0 : Int) a0_0n a0_0c a0_0 0 []
theorem Zvr (m : Nat) (a0_0n : Nat) (a0_0c : Option Nat) (a0_0 : List D) (a1 : Int) : funD Tryz.prog Z2p m 4 Z1e Tryz.f26 [(D.agg [(D.list a0_0n a0_0c a0_0)]), (D.v (.int .i64 a1))] = Zk1 m a0_0n a0_0c a0_0 a1 := by kernel_rfl
theorem Zyd : Enters Tryz.prog 26 := ⟨Tryz.f26, Tryz.func26, by kernel_rfl, by kernel_rfl⟩
theorem Zye {ds : List D} {d : D} (h : funD Tryz.prog Z2p M 4 Z1e Tryz.f26 ds = some d) : DataSem Tryz.prog 26 ds d := data_sound (H := Z2p) (SpOk.cons Zhb (SpOk.cons Zyc SpOk.nil)) mixed InlOk.nil Tryz.func26 Zyd h
noncomputable def Z4n : List D → Option D
  | [.agg [.list a0_0n a0_0c a0_0], .v (.int .i64 a1)] => Zk1 M a0_0n a0_0c a0_0 a1
  | _ => none
theorem Zyf : ∀ ds d, Z4n ds = some d → DataSem Tryz.prog 26 ds d := by
  intro ds d h
  unfold Z4n at h
  split at h
  · exact Zye ((Zvr M _ _ _ _).trans h)
  · cases h

end Go.Ev
