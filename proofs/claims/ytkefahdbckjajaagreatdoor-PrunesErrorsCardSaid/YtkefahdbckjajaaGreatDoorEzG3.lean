/- Functions of the given program in plain form, printed: each with the proof that it is what the evaluator comes to, and that the program function returns what it says. No conditions. -/
import Derived.Test.YtkefahdbckjajaaGreatDoorEzG7
set_option linter.unusedVariables false
set_option maxRecDepth 100000
namespace Go.Ev
open Go Go.Proofs

-- ('str', '"vidimus/trees.valid"')
def Z3l : FnH := ⟨[(10, ⟨(bm 234881024 37), [], (some 0)⟩)], []⟩
noncomputable def Z7b : Hints := ⟨[(89, Z7r), (109, Z7a), (110, Z4u)], [], []⟩
noncomputable def Zch (m n0 : Nat) (y0_0 : Nat) (y0_1 : Option Nat) (y0_2 : List D) (y0_3 : Int) (y0_4 : Int) : Option D :=
 loopIter (bm 234881024 37) 0 0 (codeK Tryz.prog Z7b.sp ⟨0, [], false, []⟩ (inlK Tryz.prog Z7b m 4) m Z3l (subc [1, 1, 1, 1, 0, 1, 0, 0] (bodyOf Tryz.f84))) n0 ⟨[.junk, .junk, .junk, .junk, .junk, .junk, .junk, .junk, .junk, .junk, .junk, .junk, .junk, .junk, .junk, .junk, .junk, .junk, .junk, .junk, .junk, .junk, .junk, .junk, .junk, (AV.d (D.list y0_0 y0_1 y0_2)), (AV.d (D.v (.int .i64 y0_3))), (AV.d (D.v (.int .i64 y0_4))), .junk, .junk, .junk, .junk, .junk, .junk, .junk, .junk, .junk], []⟩
  (contK Tryz.prog Z7b.sp ⟨0, [], false, []⟩ (inlK Tryz.prog Z7b m 4) m Z3l (endK Tryz.prog Tryz.f84 (fun v L => viewK L 8 v some)) [.block 0, .code (subc [1, 1, 1, 1, 1] (bodyOf Tryz.f84))])
theorem Zqh (m n0 : Nat) (y0_0 : Nat) (y0_1 : Option Nat) (y0_2 : List D) (y0_3 : Int) (y0_4 : Int) : Zch m (n0 + 1) y0_0 y0_1 y0_2 y0_3 y0_4 =
 (cond (decide (y0_4 < y0_3))
 (if 0 ≤ y0_4 ∧ y0_4 < ((y0_0 : Nat) : Int) then
 if (((Int.toNat y0_4) * 27) + 27) ≤ (List.length y0_2) then
 if (List.length ((List.drop ((Int.toNat y0_4) * 27) y0_2).take 27)) = 27 then
 (Z4u [(D.agg ((List.drop ((Int.toNat y0_4) * 27) y0_2).take 27))]).bind fun d12 =>
 (rdI .i64 (some d12)).bind fun x13 =>
 cond (x13 != (0 : Int))
 (some (D.v (.int .i64 x13)))
 (Zch m n0 y0_0 y0_1 y0_2 y0_3 (IntKind.wrap .i64 (y0_4 + (1 : Int))))
 else none
 else none
 else none)
 (some zI)) := by kernel_rfl
noncomputable def Zi2 (m : Nat) (a0 : List D) : Option D :=
 if (List.length a0) = 20 then
 (Z7a [(D.agg ((List.drop 1 a0).take 17))]).bind fun d1 =>
 (rdI .i64 (some d1)).bind fun x2 =>
 cond (x2 != (0 : Int))
 (some (D.v (.int .i64 x2)))
 ((rdL a0[18]?).bind fun q3 =>
 (Z7r [(D.list q3.n q3.cap q3.cs)]).bind fun d4 =>
 (rdI .i64 (some d4)).bind fun x5 =>
 cond (x5 != (0 : Int))
 (some (D.v (.int .i64 x5)))
 ((rdL a0[19]?).bind fun q6 =>
 cond (decide (((q6.n : Nat) : Int) > (8 : Int)))
 (some (D.v (.int .i64 (3 : Int))))
 ((rdL a0[19]?).bind fun q7 =>
 Zch m m q7.n q7.cap q7.cs ((q7.n : Nat) : Int) (0 : Int))))
 else none
theorem Zs7 (m : Nat) (a0 : List D) : funD Tryz.prog Z7b m 4 Z3l Tryz.f84 [(D.agg a0)] = Zi2 m a0 := by kernel_rfl
theorem Zu5 : Enters Tryz.prog 84 := ⟨Tryz.f84, Tryz.func84, by kernel_rfl, by kernel_rfl⟩
theorem Zu6 {ds : List D} {d : D} (h : funD Tryz.prog Z7b M 4 Z3l Tryz.f84 ds = some d) : DataSem Tryz.prog 84 ds d := data_sound (H := Z7b) (SpOk.cons Zs0 (SpOk.cons Zq9 (SpOk.cons Zp0 SpOk.nil))) mixed InlOk.nil Tryz.func84 Zu5 h
noncomputable def Zc7 : List D → Option D
  | [.agg a0] => Zi2 M a0
  | _ => none
theorem Zu7 : ∀ ds d, Zc7 ds = some d → DataSem Tryz.prog 84 ds d := by
  intro ds d h
  unfold Zc7 at h
  split at h
  · exact Zu6 ((Zs7 M _).trans h)
  · cases h

-- ('str', '"vidimus/trees.examine"')
def Z14 : FnH := ⟨[(5, ⟨(bm 1835026 40), [], (some 2)⟩)], []⟩
def Z12 : FnH := ⟨[], [(4, ⟨(bm 135 90), [], (some 1)⟩), (8, ⟨(bm 390 90), [], (some 2)⟩), (10, ⟨(bm 134 90), [], (some 1)⟩), (12, ⟨(bm 6 90), [], (some 0)⟩)]⟩
noncomputable def Ze : Hints := ⟨[(84, Zc7), (85, Z4v)], [(108, Tryz.f108, Z12)], []⟩
noncomputable def Zb5 (m n0 : Nat) (y0_0 : Nat) (y0_1 : Nat) (y0_2 : Option Nat) (y0_3 : List D) (y0_4 : Int) (y0_5 : Int) (y0_6 : Nat) (y0_7 : Option Nat) (y0_8 : List D) (y0_9 : Nat) (y0_10 : List D) : Option D :=
 loopIter (bm 1835026 40) 0 2 (codeK Tryz.prog Ze.sp ⟨0, [], false, []⟩ (inlK Tryz.prog Ze m 4) m Z14 (subc [1, 1, 1, 0, 1, 0, 0] (bodyOf Tryz.f83))) n0 ⟨[.junk, (AV.ptr 0 0), .junk, .junk, (AV.sl 1 0 y0_0 (some y0_0) 1), .junk, .junk, .junk, .junk, .junk, .junk, .junk, .junk, .junk, .junk, .junk, .junk, .junk, (AV.d (D.list y0_1 y0_2 y0_3)), (AV.d (D.v (.int .i64 y0_4))), (AV.d (D.v (.int .i64 y0_5))), .junk, .junk, .junk, .junk, .junk, .junk, .junk, .junk, .junk, .junk, .junk, .junk, .junk, .junk, .junk, .junk, .junk, .junk, .junk], [(Blk.d 1 [(D.list y0_6 y0_7 y0_8)]), (Blk.d y0_9 y0_10)]⟩
  (contK Tryz.prog Ze.sp ⟨0, [], false, []⟩ (inlK Tryz.prog Ze m 4) m Z14 (endK Tryz.prog Tryz.f83 (fun v L => viewK L 8 v some)) [.block 0, .code (subc [1, 1, 1, 1] (bodyOf Tryz.f83))])
noncomputable def Z1s (m n0 : Nat) (y0_0 : Nat) (y0_5 : Int) (y0_1 : Nat) (y0_2 : Option Nat) (y0_3 : List D) (y0_4 : Int) (y0_6 : Nat) (y0_7 : Option Nat) (y0_8 : List D) (u0_0 : Nat) (u0_1 : Option Nat) (u0_2 : List D) (u0_3 : Int) (u0_4 : Nat) (u0_5 : Nat) (u0_6 : Nat) (u0_7 : Option Nat) (u0_8 : List D) (u0_9 : Nat) (u0_10 : List D) (u0_11 : List D) (u0_12 : List D) : Option D :=
 cutK m (codeK Tryz.prog Ze.sp ⟨3, [], true, []⟩ (inlK Tryz.prog Ze m 3) m Z12 (subc [1, 1, 1] (bodyOf Tryz.f108)) ⟨[(AV.d (D.list u0_0 u0_1 u0_2)), (AV.d (D.v (.int .i64 u0_3))), (AV.sl 1 0 u0_4 (some u0_5) 1), .junk, .junk, .junk, .junk, (AV.ptr 3 0), .junk, .junk, .junk, .junk, .junk, .junk, .junk, .junk, .junk, .junk, .junk, .junk, .junk, .junk, .junk, .junk, .junk, .junk, .junk, .junk, .junk, .junk, .junk, .junk, .junk, .junk, .junk, .junk, .junk, .junk, .junk, .junk, .junk, .junk, .junk, .junk, .junk, .junk, .junk, .junk, .junk, .junk, .junk, .junk, .junk, .junk, .junk, .junk, .junk, .junk, .junk, .junk, .junk, .junk, .junk, .junk, .junk, .junk, .junk, .junk, .junk, .junk, .junk, .junk, .junk, .junk, .junk, .junk, .junk, .junk, .junk, .junk, .junk, .junk, .junk, .junk, .junk, .junk, .junk, .junk, .junk, .junk], [(Blk.d 1 [(D.list u0_6 u0_7 u0_8)]), (Blk.d u0_9 u0_10), (Blk.d 20 u0_11), (Blk.d 20 u0_12)]⟩
  (contK Tryz.prog Ze.sp ⟨3, [], true, []⟩ (inlK Tryz.prog Ze m 3) m Z12 (endK Tryz.prog Tryz.f108 (fun v L => opsK Tryz.prog Ze.sp ⟨0, [], false, []⟩ [] (inlK Tryz.prog Ze m 4) (regOps (subc [1, 1, 1, 0, 1, 0, 0, 1, 1, 0, 0, 1, 0, 0] (bodyOf Tryz.f83))) (List.drop 5 (Array.toList (regOps (subc [1, 1, 1, 0, 1, 0, 0, 1, 1, 0, 0, 1, 0, 0] (bodyOf Tryz.f83))))) ⟨setSl [.junk, (AV.ptr 0 0), .junk, .junk, (AV.sl 1 0 y0_0 (some y0_0) 1), (AV.d (D.v (.int .i64 y0_5))), (AV.ptr 2 0), .junk, .junk, .junk, .junk, .junk, .junk, .junk, .junk, .junk, .junk, .junk, (AV.d (D.list y0_1 y0_2 y0_3)), (AV.d (D.v (.int .i64 y0_4))), (AV.d (D.v (.int .i64 y0_5))), (AV.d (D.v (.bool true))), (AV.d (D.v (.int .i64 y0_5))), (AV.lp y0_3 ((Int.toNat y0_5) * 20)), (AV.d (D.agg ((List.drop ((Int.toNat y0_5) * 20) y0_3).take 20))), (AV.ptr 0 0), (AV.d (D.list y0_6 y0_7 y0_8)), (AV.d (D.v (.int .i64 y0_5))), (AV.sl 1 0 y0_0 (some y0_0) 1), .junk, .junk, .junk, .junk, .junk, .junk, .junk, .junk, .junk, .junk, .junk] (some 29) v, L⟩ (fun st => contK Tryz.prog Ze.sp ⟨0, [], false, []⟩ (inlK Tryz.prog Ze m 4) m Z14 (endK Tryz.prog Tryz.f83 (fun v L => viewK L 8 v some)) [.code (subc [1, 1, 1, 0, 1, 0, 0, 1, 1, 0, 0, 1, 0, 1] (bodyOf Tryz.f83)), .code (subc [1, 1, 1, 0, 1, 0, 0, 1, 1, 0, 0, 1, 1] (bodyOf Tryz.f83)), .block 1, .code (subc [1, 1, 1, 0, 1, 0, 0, 1, 1, 1] (bodyOf Tryz.f83)), .loop (bm 1835026 40) 2 (subc [1, 1, 1, 0, 1, 0, 0] (bodyOf Tryz.f83)) n0, .block 0, .code (subc [1, 1, 1, 1] (bodyOf Tryz.f83))] .normal st))) []))
noncomputable def Z47 (m n0 : Nat) (y0_0 : Nat) (y0_5 : Int) (y0_1 : Nat) (y0_2 : Option Nat) (y0_3 : List D) (y0_4 : Int) (y0_6 : Nat) (y0_7 : Option Nat) (y0_8 : List D) (u1_0 : Int) (u1_1 : Nat) (u1_2 : Nat) (u1_3 : Nat) (u1_4 : Option Nat) (u1_5 : List D) (u1_6 : Nat) (u1_7 : List D) (u1_8 : List D) (u1_9 : List D) (u1_10 : List D) : Option D :=
 cutK m (codeK Tryz.prog Ze.sp ⟨3, [], true, []⟩ (inlK Tryz.prog Ze m 3) m Z12 (subc [1, 1, 1, 0, 1, 0, 1, 1] (bodyOf Tryz.f108)) ⟨[.junk, (AV.d (D.v (.int .i64 u1_0))), (AV.sl 1 0 u1_1 (some u1_2) 1), .junk, .junk, .junk, .junk, (AV.ptr 3 0), (AV.ptr 4 0), .junk, .junk, .junk, .junk, .junk, .junk, .junk, .junk, .junk, .junk, .junk, .junk, .junk, .junk, .junk, .junk, .junk, .junk, .junk, .junk, .junk, .junk, .junk, .junk, .junk, .junk, .junk, .junk, .junk, .junk, .junk, .junk, .junk, .junk, .junk, .junk, .junk, .junk, .junk, .junk, .junk, .junk, .junk, .junk, .junk, .junk, .junk, .junk, .junk, .junk, .junk, .junk, .junk, .junk, .junk, .junk, .junk, .junk, .junk, .junk, .junk, .junk, .junk, .junk, .junk, .junk, .junk, .junk, .junk, .junk, .junk, .junk, .junk, .junk, .junk, .junk, .junk, .junk, .junk, .junk, .junk], [(Blk.d 1 [(D.list u1_3 u1_4 u1_5)]), (Blk.d u1_6 u1_7), (Blk.d 20 u1_8), (Blk.d 20 u1_9), (Blk.d 20 u1_10)]⟩
  (contK Tryz.prog Ze.sp ⟨3, [], true, []⟩ (inlK Tryz.prog Ze m 3) m Z12 (endK Tryz.prog Tryz.f108 (fun v L => opsK Tryz.prog Ze.sp ⟨0, [], false, []⟩ [] (inlK Tryz.prog Ze m 4) (regOps (subc [1, 1, 1, 0, 1, 0, 0, 1, 1, 0, 0, 1, 0, 0] (bodyOf Tryz.f83))) (List.drop 5 (Array.toList (regOps (subc [1, 1, 1, 0, 1, 0, 0, 1, 1, 0, 0, 1, 0, 0] (bodyOf Tryz.f83))))) ⟨setSl [.junk, (AV.ptr 0 0), .junk, .junk, (AV.sl 1 0 y0_0 (some y0_0) 1), (AV.d (D.v (.int .i64 y0_5))), (AV.ptr 2 0), .junk, .junk, .junk, .junk, .junk, .junk, .junk, .junk, .junk, .junk, .junk, (AV.d (D.list y0_1 y0_2 y0_3)), (AV.d (D.v (.int .i64 y0_4))), (AV.d (D.v (.int .i64 y0_5))), (AV.d (D.v (.bool true))), (AV.d (D.v (.int .i64 y0_5))), (AV.lp y0_3 ((Int.toNat y0_5) * 20)), (AV.d (D.agg ((List.drop ((Int.toNat y0_5) * 20) y0_3).take 20))), (AV.ptr 0 0), (AV.d (D.list y0_6 y0_7 y0_8)), (AV.d (D.v (.int .i64 y0_5))), (AV.sl 1 0 y0_0 (some y0_0) 1), .junk, .junk, .junk, .junk, .junk, .junk, .junk, .junk, .junk, .junk, .junk] (some 29) v, L⟩ (fun st => contK Tryz.prog Ze.sp ⟨0, [], false, []⟩ (inlK Tryz.prog Ze m 4) m Z14 (endK Tryz.prog Tryz.f83 (fun v L => viewK L 8 v some)) [.code (subc [1, 1, 1, 0, 1, 0, 0, 1, 1, 0, 0, 1, 0, 1] (bodyOf Tryz.f83)), .code (subc [1, 1, 1, 0, 1, 0, 0, 1, 1, 0, 0, 1, 1] (bodyOf Tryz.f83)), .block 1, .code (subc [1, 1, 1, 0, 1, 0, 0, 1, 1, 1] (bodyOf Tryz.f83)), .loop (bm 1835026 40) 2 (subc [1, 1, 1, 0, 1, 0, 0] (bodyOf Tryz.f83)) n0, .block 0, .code (subc [1, 1, 1, 1] (bodyOf Tryz.f83))] .normal st))) [.code (subc [1, 1, 1, 1] (bodyOf Tryz.f108))]))
noncomputable def Z2a (m n0 : Nat) (y0_0 : Nat) (y0_5 : Int) (y0_1 : Nat) (y0_2 : Option Nat) (y0_3 : List D) (y0_4 : Int) (y0_6 : Nat) (y0_7 : Option Nat) (y0_8 : List D) (u2_0 : Int) (u2_1 : Nat) (u2_2 : Nat) (u2_3 : Nat) (u2_4 : Option Nat) (u2_5 : List D) (u2_6 : Nat) (u2_7 : List D) (u2_8 : List D) (u2_9 : List D) : Option D :=
 cutK m (codeK Tryz.prog Ze.sp ⟨3, [], true, []⟩ (inlK Tryz.prog Ze m 3) m Z12 (subc [1, 1, 1, 1] (bodyOf Tryz.f108)) ⟨[.junk, (AV.d (D.v (.int .i64 u2_0))), (AV.sl 1 0 u2_1 (some u2_2) 1), .junk, .junk, .junk, .junk, (AV.ptr 3 0), .junk, .junk, .junk, .junk, .junk, .junk, .junk, .junk, .junk, .junk, .junk, .junk, .junk, .junk, .junk, .junk, .junk, .junk, .junk, .junk, .junk, .junk, .junk, .junk, .junk, .junk, .junk, .junk, .junk, .junk, .junk, .junk, .junk, .junk, .junk, .junk, .junk, .junk, .junk, .junk, .junk, .junk, .junk, .junk, .junk, .junk, .junk, .junk, .junk, .junk, .junk, .junk, .junk, .junk, .junk, .junk, .junk, .junk, .junk, .junk, .junk, .junk, .junk, .junk, .junk, .junk, .junk, .junk, .junk, .junk, .junk, .junk, .junk, .junk, .junk, .junk, .junk, .junk, .junk, .junk, .junk, .junk], [(Blk.d 1 [(D.list u2_3 u2_4 u2_5)]), (Blk.d u2_6 u2_7), (Blk.d 20 u2_8), (Blk.d 20 u2_9)]⟩
  (contK Tryz.prog Ze.sp ⟨3, [], true, []⟩ (inlK Tryz.prog Ze m 3) m Z12 (endK Tryz.prog Tryz.f108 (fun v L => opsK Tryz.prog Ze.sp ⟨0, [], false, []⟩ [] (inlK Tryz.prog Ze m 4) (regOps (subc [1, 1, 1, 0, 1, 0, 0, 1, 1, 0, 0, 1, 0, 0] (bodyOf Tryz.f83))) (List.drop 5 (Array.toList (regOps (subc [1, 1, 1, 0, 1, 0, 0, 1, 1, 0, 0, 1, 0, 0] (bodyOf Tryz.f83))))) ⟨setSl [.junk, (AV.ptr 0 0), .junk, .junk, (AV.sl 1 0 y0_0 (some y0_0) 1), (AV.d (D.v (.int .i64 y0_5))), (AV.ptr 2 0), .junk, .junk, .junk, .junk, .junk, .junk, .junk, .junk, .junk, .junk, .junk, (AV.d (D.list y0_1 y0_2 y0_3)), (AV.d (D.v (.int .i64 y0_4))), (AV.d (D.v (.int .i64 y0_5))), (AV.d (D.v (.bool true))), (AV.d (D.v (.int .i64 y0_5))), (AV.lp y0_3 ((Int.toNat y0_5) * 20)), (AV.d (D.agg ((List.drop ((Int.toNat y0_5) * 20) y0_3).take 20))), (AV.ptr 0 0), (AV.d (D.list y0_6 y0_7 y0_8)), (AV.d (D.v (.int .i64 y0_5))), (AV.sl 1 0 y0_0 (some y0_0) 1), .junk, .junk, .junk, .junk, .junk, .junk, .junk, .junk, .junk, .junk, .junk] (some 29) v, L⟩ (fun st => contK Tryz.prog Ze.sp ⟨0, [], false, []⟩ (inlK Tryz.prog Ze m 4) m Z14 (endK Tryz.prog Tryz.f83 (fun v L => viewK L 8 v some)) [.code (subc [1, 1, 1, 0, 1, 0, 0, 1, 1, 0, 0, 1, 0, 1] (bodyOf Tryz.f83)), .code (subc [1, 1, 1, 0, 1, 0, 0, 1, 1, 0, 0, 1, 1] (bodyOf Tryz.f83)), .block 1, .code (subc [1, 1, 1, 0, 1, 0, 0, 1, 1, 1] (bodyOf Tryz.f83)), .loop (bm 1835026 40) 2 (subc [1, 1, 1, 0, 1, 0, 0] (bodyOf Tryz.f83)) n0, .block 0, .code (subc [1, 1, 1, 1] (bodyOf Tryz.f83))] .normal st))) []))
noncomputable def Z34 (m n0 : Nat) (y0_0 : Nat) (y0_5 : Int) (y0_1 : Nat) (y0_2 : Option Nat) (y0_3 : List D) (y0_4 : Int) (y0_6 : Nat) (y0_7 : Option Nat) (y0_8 : List D) (u3_0 : Int) (u3_1 : Nat) (u3_2 : Nat) (u3_3 : Nat) (u3_4 : Option Nat) (u3_5 : List D) (u3_6 : Nat) (u3_7 : List D) (u3_8 : List D) : Option D :=
 cutK m (codeK Tryz.prog Ze.sp ⟨3, [], true, []⟩ (inlK Tryz.prog Ze m 3) m Z12 (subc [1, 1, 1, 1, 1] (bodyOf Tryz.f108)) ⟨[.junk, (AV.d (D.v (.int .i64 u3_0))), (AV.sl 1 0 u3_1 (some u3_2) 1), .junk, .junk, .junk, .junk, .junk, .junk, .junk, .junk, .junk, .junk, .junk, .junk, .junk, .junk, .junk, .junk, .junk, .junk, .junk, .junk, .junk, .junk, .junk, .junk, .junk, .junk, .junk, .junk, .junk, .junk, .junk, .junk, .junk, .junk, .junk, .junk, .junk, .junk, .junk, .junk, .junk, .junk, .junk, .junk, .junk, .junk, .junk, .junk, .junk, .junk, .junk, .junk, .junk, .junk, .junk, .junk, .junk, .junk, .junk, .junk, .junk, .junk, .junk, .junk, .junk, .junk, .junk, .junk, .junk, .junk, .junk, .junk, .junk, .junk, .junk, .junk, .junk, .junk, .junk, .junk, .junk, .junk, .junk, .junk, .junk, .junk, .junk], [(Blk.d 1 [(D.list u3_3 u3_4 u3_5)]), (Blk.d u3_6 u3_7), (Blk.d 20 u3_8)]⟩
  (contK Tryz.prog Ze.sp ⟨3, [], true, []⟩ (inlK Tryz.prog Ze m 3) m Z12 (endK Tryz.prog Tryz.f108 (fun v L => opsK Tryz.prog Ze.sp ⟨0, [], false, []⟩ [] (inlK Tryz.prog Ze m 4) (regOps (subc [1, 1, 1, 0, 1, 0, 0, 1, 1, 0, 0, 1, 0, 0] (bodyOf Tryz.f83))) (List.drop 5 (Array.toList (regOps (subc [1, 1, 1, 0, 1, 0, 0, 1, 1, 0, 0, 1, 0, 0] (bodyOf Tryz.f83))))) ⟨setSl [.junk, (AV.ptr 0 0), .junk, .junk, (AV.sl 1 0 y0_0 (some y0_0) 1), (AV.d (D.v (.int .i64 y0_5))), (AV.ptr 2 0), .junk, .junk, .junk, .junk, .junk, .junk, .junk, .junk, .junk, .junk, .junk, (AV.d (D.list y0_1 y0_2 y0_3)), (AV.d (D.v (.int .i64 y0_4))), (AV.d (D.v (.int .i64 y0_5))), (AV.d (D.v (.bool true))), (AV.d (D.v (.int .i64 y0_5))), (AV.lp y0_3 ((Int.toNat y0_5) * 20)), (AV.d (D.agg ((List.drop ((Int.toNat y0_5) * 20) y0_3).take 20))), (AV.ptr 0 0), (AV.d (D.list y0_6 y0_7 y0_8)), (AV.d (D.v (.int .i64 y0_5))), (AV.sl 1 0 y0_0 (some y0_0) 1), .junk, .junk, .junk, .junk, .junk, .junk, .junk, .junk, .junk, .junk, .junk] (some 29) v, L⟩ (fun st => contK Tryz.prog Ze.sp ⟨0, [], false, []⟩ (inlK Tryz.prog Ze m 4) m Z14 (endK Tryz.prog Tryz.f83 (fun v L => viewK L 8 v some)) [.code (subc [1, 1, 1, 0, 1, 0, 0, 1, 1, 0, 0, 1, 0, 1] (bodyOf Tryz.f83)), .code (subc [1, 1, 1, 0, 1, 0, 0, 1, 1, 0, 0, 1, 1] (bodyOf Tryz.f83)), .block 1, .code (subc [1, 1, 1, 0, 1, 0, 0, 1, 1, 1] (bodyOf Tryz.f83)), .loop (bm 1835026 40) 2 (subc [1, 1, 1, 0, 1, 0, 0] (bodyOf Tryz.f83)) n0, .block 0, .code (subc [1, 1, 1, 1] (bodyOf Tryz.f83))] .normal st))) []))
theorem Zer (m n0 : Nat) (y0_0 : Nat) (y0_5 : Int) (y0_1 : Nat) (y0_2 : Option Nat) (y0_3 : List D) (y0_4 : Int) (y0_6 : Nat) (y0_7 : Option Nat) (y0_8 : List D) (u3_0 : Int) (u3_1 : Nat) (u3_2 : Nat) (u3_3 : Nat) (u3_4 : Option Nat) (u3_5 : List D) (u3_6 : Nat) (u3_7 : List D) (u3_8 : List D) : Z34 m n0 y0_0 y0_5 y0_1 y0_2 y0_3 y0_4 y0_6 y0_7 y0_8 u3_0 u3_1 u3_2 u3_3 u3_4 u3_5 u3_6 u3_7 u3_8 =
 (if 0 ≤ u3_0 ∧ u3_0 < ((u3_1 : Nat) : Int) then
 (rdI .i64 u3_7[(0 + ((Int.toNat u3_0) * 1))]?).bind fun x71 =>
 cond (decide (x71 > (64 : Int)))
 (some (D.tup [(D.list 0 (some 0) []), (D.v (.int .i64 (12 : Int)))]))
 ((Zc7 [(D.agg u3_8)]).bind fun d72 =>
 (rdI .i64 (some d72)).bind fun x73 =>
 cond (x73 != (0 : Int))
 (some (D.tup [(D.list 0 (some 0) []), (D.v (.int .i64 x73))]))
 (Zb5 m n0 y0_0 y0_1 y0_2 y0_3 y0_4 (IntKind.wrap .i64 (y0_5 + (1 : Int))) u3_3 u3_4 u3_5 u3_6 u3_7))
 else none) := (cutK_eq m _).trans (by kernel_rfl)
theorem Zes (m n0 : Nat) (y0_0 : Nat) (y0_5 : Int) (y0_1 : Nat) (y0_2 : Option Nat) (y0_3 : List D) (y0_4 : Int) (y0_6 : Nat) (y0_7 : Option Nat) (y0_8 : List D) (u2_0 : Int) (u2_1 : Nat) (u2_2 : Nat) (u2_3 : Nat) (u2_4 : Option Nat) (u2_5 : List D) (u2_6 : Nat) (u2_7 : List D) (u2_8 : List D) (u2_9 : List D) : Z2a m n0 y0_0 y0_5 y0_1 y0_2 y0_3 y0_4 y0_6 y0_7 y0_8 u2_0 u2_1 u2_2 u2_3 u2_4 u2_5 u2_6 u2_7 u2_8 u2_9 =
 (cond (decide (u2_0 > (0 : Int)))
 ((rdI .i64 u2_9[0]?).bind fun x69 =>
 if 0 ≤ x69 ∧ x69 < ((u2_1 : Nat) : Int) then
 (rdI .i64 u2_7[(0 + ((Int.toNat x69) * 1))]?).bind fun x70 =>
 if 0 ≤ u2_0 ∧ u2_0 < ((u2_1 : Nat) : Int) then
 if 1 = 1 ∧ (0 + ((Int.toNat u2_0) * 1)) < u2_6 then
 Z34 m n0 y0_0 y0_5 y0_1 y0_2 y0_3 y0_4 y0_6 y0_7 y0_8 u2_0 u2_1 u2_2 u2_3 u2_4 u2_5 u2_6 (List.set u2_7 (0 + ((Int.toNat u2_0) * 1)) (D.v (.int .i64 (IntKind.wrap .i64 (x70 + (1 : Int)))))) u2_8
 else none
 else none
 else none)
 (Z34 m n0 y0_0 y0_5 y0_1 y0_2 y0_3 y0_4 y0_6 y0_7 y0_8 u2_0 u2_1 u2_2 u2_3 u2_4 u2_5 u2_6 u2_7 u2_8)) := (cutK_eq m _).trans (by kernel_rfl)
theorem Z5m (m n0 : Nat) (y0_0 : Nat) (y0_5 : Int) (y0_1 : Nat) (y0_2 : Option Nat) (y0_3 : List D) (y0_4 : Int) (y0_6 : Nat) (y0_7 : Option Nat) (y0_8 : List D) (u1_0 : Int) (u1_1 : Nat) (u1_2 : Nat) (u1_3 : Nat) (u1_4 : Option Nat) (u1_5 : List D) (u1_6 : Nat) (u1_7 : List D) (u1_8 : List D) (u1_9 : List D) (u1_10 : List D) : Z47 m n0 y0_0 y0_5 y0_1 y0_2 y0_3 y0_4 y0_6 y0_7 y0_8 u1_0 u1_1 u1_2 u1_3 u1_4 u1_5 u1_6 u1_7 u1_8 u1_9 u1_10 =
 ((rdI .i64 u1_10[0]?).bind fun x66 =>
 (rdI .i64 u1_9[0]?).bind fun x67 =>
 cond (x66 == x67)
 ((cellsEq [.int, .int, .int, .int, .int, .int, .int, .int, .int, .int, .int, .int, .int, .int, .int, .int, .int] ((List.drop 1 u1_10).take 17) ((List.drop 1 u1_9).take 17)).bind fun b68 =>
 cond b68
 (some (D.tup [(D.list 0 (some 0) []), (D.v (.int .i64 (14 : Int)))]))
 (Z2a m n0 y0_0 y0_5 y0_1 y0_2 y0_3 y0_4 y0_6 y0_7 y0_8 u1_0 u1_1 u1_2 u1_3 u1_4 u1_5 u1_6 u1_7 u1_8 u1_9))
 (Z2a m n0 y0_0 y0_5 y0_1 y0_2 y0_3 y0_4 y0_6 y0_7 y0_8 u1_0 u1_1 u1_2 u1_3 u1_4 u1_5 u1_6 u1_7 u1_8 u1_9)) := (cutK_eq m _).trans (by kernel_rfl)
theorem Zf5 (m n0 : Nat) (y0_0 : Nat) (y0_5 : Int) (y0_1 : Nat) (y0_2 : Option Nat) (y0_3 : List D) (y0_4 : Int) (y0_6 : Nat) (y0_7 : Option Nat) (y0_8 : List D) (u0_0 : Nat) (u0_1 : Option Nat) (u0_2 : List D) (u0_3 : Int) (u0_4 : Nat) (u0_5 : Nat) (u0_6 : Nat) (u0_7 : Option Nat) (u0_8 : List D) (u0_9 : Nat) (u0_10 : List D) (u0_11 : List D) (u0_12 : List D) : Z1s m n0 y0_0 y0_5 y0_1 y0_2 y0_3 y0_4 y0_6 y0_7 y0_8 u0_0 u0_1 u0_2 u0_3 u0_4 u0_5 u0_6 u0_7 u0_8 u0_9 u0_10 u0_11 u0_12 =
 (cond (decide (u0_3 > (1 : Int)))
 (if 0 ≤ (IntKind.wrap .i64 (u0_3 - (1 : Int))) ∧ (IntKind.wrap .i64 (u0_3 - (1 : Int))) < ((u0_0 : Nat) : Int) then
 if (((Int.toNat (IntKind.wrap .i64 (u0_3 - (1 : Int)))) * 20) + 20) ≤ (List.length u0_2) then
 if (List.length ((List.drop ((Int.toNat (IntKind.wrap .i64 (u0_3 - (1 : Int)))) * 20) u0_2).take 20)) = 20 then
 (rdI .i64 ((List.drop ((Int.toNat (IntKind.wrap .i64 (u0_3 - (1 : Int)))) * 20) u0_2).take 20)[0]?).bind fun x60 =>
 (rdI .i64 u0_12[0]?).bind fun x61 =>
 cond (decide (x60 > x61))
 (some (D.tup [(D.list 0 (some 0) []), (D.v (.int .i64 (13 : Int)))]))
 ((rdI .i64 ((List.drop ((Int.toNat (IntKind.wrap .i64 (u0_3 - (1 : Int)))) * 20) u0_2).take 20)[0]?).bind fun x62 =>
 (rdI .i64 u0_12[0]?).bind fun x63 =>
 cond (x62 == x63)
 ((Z4v [(D.agg ((List.drop 1 ((List.drop ((Int.toNat (IntKind.wrap .i64 (u0_3 - (1 : Int)))) * 20) u0_2).take 20)).take 17)), (D.agg ((List.drop 1 u0_12).take 17))]).bind fun d64 =>
 (rdI .i64 (some d64)).bind fun x65 =>
 cond (decide (x65 > (0 : Int)))
 (some (D.tup [(D.list 0 (some 0) []), (D.v (.int .i64 (13 : Int)))]))
 (Z47 m n0 y0_0 y0_5 y0_1 y0_2 y0_3 y0_4 y0_6 y0_7 y0_8 u0_3 u0_4 u0_5 u0_6 u0_7 u0_8 u0_9 u0_10 u0_11 u0_12 ((List.drop ((Int.toNat (IntKind.wrap .i64 (u0_3 - (1 : Int)))) * 20) u0_2).take 20)))
 (Z47 m n0 y0_0 y0_5 y0_1 y0_2 y0_3 y0_4 y0_6 y0_7 y0_8 u0_3 u0_4 u0_5 u0_6 u0_7 u0_8 u0_9 u0_10 u0_11 u0_12 ((List.drop ((Int.toNat (IntKind.wrap .i64 (u0_3 - (1 : Int)))) * 20) u0_2).take 20)))
 else none
 else none
 else none)
 (Z2a m n0 y0_0 y0_5 y0_1 y0_2 y0_3 y0_4 y0_6 y0_7 y0_8 u0_3 u0_4 u0_5 u0_6 u0_7 u0_8 u0_9 u0_10 u0_11 u0_12)) := (cutK_eq m _).trans (by kernel_rfl)
theorem Zpa (m n0 : Nat) (y0_0 : Nat) (y0_1 : Nat) (y0_2 : Option Nat) (y0_3 : List D) (y0_4 : Int) (y0_5 : Int) (y0_6 : Nat) (y0_7 : Option Nat) (y0_8 : List D) (y0_9 : Nat) (y0_10 : List D) : Zb5 m (n0 + 1) y0_0 y0_1 y0_2 y0_3 y0_4 y0_5 y0_6 y0_7 y0_8 y0_9 y0_10 =
 (cond (decide (y0_5 < y0_4))
 (if 0 ≤ y0_5 ∧ y0_5 < ((y0_1 : Nat) : Int) then
 if (((Int.toNat y0_5) * 20) + 20) ≤ (List.length y0_3) then
 if (List.length ((List.drop ((Int.toNat y0_5) * 20) y0_3).take 20)) = 20 then
 if 0 ≤ y0_5 ∧ y0_5 < ((y0_6 : Nat) : Int) then
 if (((Int.toNat y0_5) * 20) + 20) ≤ (List.length y0_8) then
 if (List.length ((List.drop ((Int.toNat y0_5) * 20) y0_8).take 20)) = 20 then
 cond (y0_5 == (0 : Int))
 ((rdI .i64 ((List.drop ((Int.toNat y0_5) * 20) y0_8).take 20)[0]?).bind fun x57 =>
 cond (x57 != (-1 : Int))
 (some (D.tup [(D.list 0 (some 0) []), (D.v (.int .i64 (1 : Int)))]))
 (cond (decide (y0_5 > (0 : Int)))
 ((rdI .i64 ((List.drop ((Int.toNat y0_5) * 20) y0_8).take 20)[0]?).bind fun x58 =>
 cond (decide (x58 < (0 : Int)))
 (some (D.tup [(D.list 0 (some 0) []), (D.v (.int .i64 (1 : Int)))]))
 ((rdI .i64 ((List.drop ((Int.toNat y0_5) * 20) y0_8).take 20)[0]?).bind fun x59 =>
 cond (decide (x59 ≥ y0_5))
 (some (D.tup [(D.list 0 (some 0) []), (D.v (.int .i64 (1 : Int)))]))
 (Z1s m n0 y0_0 y0_5 y0_1 y0_2 y0_3 y0_4 y0_6 y0_7 y0_8 y0_6 y0_7 y0_8 y0_5 y0_0 y0_0 y0_6 y0_7 y0_8 y0_9 y0_10 ((List.drop ((Int.toNat y0_5) * 20) y0_3).take 20) ((List.drop ((Int.toNat y0_5) * 20) y0_8).take 20))))
 (Z1s m n0 y0_0 y0_5 y0_1 y0_2 y0_3 y0_4 y0_6 y0_7 y0_8 y0_6 y0_7 y0_8 y0_5 y0_0 y0_0 y0_6 y0_7 y0_8 y0_9 y0_10 ((List.drop ((Int.toNat y0_5) * 20) y0_3).take 20) ((List.drop ((Int.toNat y0_5) * 20) y0_8).take 20))))
 (cond (decide (y0_5 > (0 : Int)))
 ((rdI .i64 ((List.drop ((Int.toNat y0_5) * 20) y0_8).take 20)[0]?).bind fun x74 =>
 cond (decide (x74 < (0 : Int)))
 (some (D.tup [(D.list 0 (some 0) []), (D.v (.int .i64 (1 : Int)))]))
 ((rdI .i64 ((List.drop ((Int.toNat y0_5) * 20) y0_8).take 20)[0]?).bind fun x75 =>
 cond (decide (x75 ≥ y0_5))
 (some (D.tup [(D.list 0 (some 0) []), (D.v (.int .i64 (1 : Int)))]))
 (Z1s m n0 y0_0 y0_5 y0_1 y0_2 y0_3 y0_4 y0_6 y0_7 y0_8 y0_6 y0_7 y0_8 y0_5 y0_0 y0_0 y0_6 y0_7 y0_8 y0_9 y0_10 ((List.drop ((Int.toNat y0_5) * 20) y0_3).take 20) ((List.drop ((Int.toNat y0_5) * 20) y0_8).take 20))))
 (Z1s m n0 y0_0 y0_5 y0_1 y0_2 y0_3 y0_4 y0_6 y0_7 y0_8 y0_6 y0_7 y0_8 y0_5 y0_0 y0_0 y0_6 y0_7 y0_8 y0_9 y0_10 ((List.drop ((Int.toNat y0_5) * 20) y0_3).take 20) ((List.drop ((Int.toNat y0_5) * 20) y0_8).take 20)))
 else none
 else none
 else none
 else none
 else none
 else none)
 (if (0 + (y0_0 * 1)) ≤ y0_9 then
 some (D.tup [(D.list y0_0 (some y0_0) (cutL y0_9 y0_10 0 (y0_0 * 1))), zI])
 else none)) := by kernel_rfl
noncomputable def Zet (m : Nat) (a0_0n : Nat) (a0_0c : Option Nat) (a0_0 : List D) : Option D :=
 cond (decide (((a0_0n : Nat) : Int) > (65536 : Int)))
 (some (D.tup [(D.list 0 (some 0) []), (D.v (.int .i64 (3 : Int)))]))
 (if 0 ≤ ((a0_0n : Nat) : Int) ∧ ((a0_0n : Nat) : Int) ≤ ((a0_0n : Nat) : Int) ∧ fitsRow (Int.toNat ((a0_0n : Nat) : Int)) 8 then
 Zb5 m m (Int.toNat ((a0_0n : Nat) : Int)) a0_0n a0_0c a0_0 ((a0_0n : Nat) : Int) (0 : Int) a0_0n a0_0c a0_0 ((Int.toNat ((a0_0n : Nat) : Int)) * 1) (List.flatten (List.replicate (Int.toNat ((a0_0n : Nat) : Int)) [zI]))
 else none)
theorem Zqi (m : Nat) (a0_0n : Nat) (a0_0c : Option Nat) (a0_0 : List D) : funD Tryz.prog Ze m 4 Z14 Tryz.f83 [(D.agg [(D.list a0_0n a0_0c a0_0)])] = Zet m a0_0n a0_0c a0_0 := by kernel_rfl
theorem Zs8 : Enters Tryz.prog 83 := ⟨Tryz.f83, Tryz.func83, by kernel_rfl, by kernel_rfl⟩
theorem Zs9 {ds : List D} {d : D} (h : funD Tryz.prog Ze M 4 Z14 Tryz.f83 ds = some d) : DataSem Tryz.prog 83 ds d := data_sound (H := Ze) (SpOk.cons Zu7 (SpOk.cons Zng SpOk.nil)) mixed (InlOk.cons Tryz.func108 Zti InlOk.nil) Tryz.func83 Zs8 h
noncomputable def Z7u : List D → Option D
  | [.agg [.list a0_0n a0_0c a0_0]] => Zet M a0_0n a0_0c a0_0
  | _ => none
theorem Zsa : ∀ ds d, Z7u ds = some d → DataSem Tryz.prog 83 ds d := by
  intro ds d h
  unfold Z7u at h
  split at h
  · exact Zs9 ((Zqi M _ _ _).trans h)
  · cases h

-- ('str', '"vidimus/trees.Check"')
def Zaj : FnH := ⟨[], []⟩
noncomputable def Zlf : Hints := ⟨[(83, Z7u)], [], []⟩
noncomputable def Zi3 (m : Nat) (a0_0n : Nat) (a0_0c : Option Nat) (a0_0 : List D) : Option D :=
 (Z7u [(D.agg [(D.list a0_0n a0_0c a0_0)])]).bind fun d1 =>
 (rdT d1).bind fun r2 =>
 if List.length r2 = 2 then
 (rdL r2[0]?).bind fun q3 =>
 (rdI .i64 r2[1]?).bind fun x4 =>
 some (D.v (.int .i64 x4))
 else none
theorem Zsb (m : Nat) (a0_0n : Nat) (a0_0c : Option Nat) (a0_0 : List D) : funD Tryz.prog Zlf m 4 Zaj Tryz.f60 [(D.agg [(D.list a0_0n a0_0c a0_0)])] = Zi3 m a0_0n a0_0c a0_0 := by kernel_rfl
theorem Zu8 : Enters Tryz.prog 60 := ⟨Tryz.f60, Tryz.func60, by kernel_rfl, by kernel_rfl⟩
theorem Zu9 {ds : List D} {d : D} (h : funD Tryz.prog Zlf M 4 Zaj Tryz.f60 ds = some d) : DataSem Tryz.prog 60 ds d := data_sound (H := Zlf) (SpOk.cons Zsa SpOk.nil) mixed InlOk.nil Tryz.func60 Zu8 h
noncomputable def Z1x : List D → Option D
  | [.agg [.list a0_0n a0_0c a0_0]] => Zi3 M a0_0n a0_0c a0_0
  | _ => none
theorem Z7y : ∀ ds d, Z1x ds = some d → DataSem Tryz.prog 60 ds d := by
  intro ds d h
  unfold Z1x at h
  split at h
  · exact Zu9 ((Zsb M _ _ _).trans h)
  · cases h

-- ('str', '"vidimus/trees.clone[vidimus/trees.Node]"')
def Z35 : FnH := ⟨[], []⟩
noncomputable def Z6g : Hints := ⟨[], [], []⟩
noncomputable def Z4f (m : Nat) (a0n : Nat) (a0c : Option Nat) (a0 : List D) : Option D :=
 cond (((a0n : Nat) : Int) == (0 : Int))
 (some (D.list 0 (some 0) []))
 (if 0 ≤ ((a0n : Nat) : Int) ∧ ((a0n : Nat) : Int) ≤ ((a0n : Nat) : Int) ∧ fitsRow (Int.toNat ((a0n : Nat) : Int)) 128 then
 if (List.length a0) = (a0n * 20) then
 if (0 + ((Int.toNat ((a0n : Nat) : Int)) * 20)) ≤ ((Int.toNat ((a0n : Nat) : Int)) * 20) ∧ (List.length a0) = (a0n * 20) then
 if (0 + ((Int.toNat ((a0n : Nat) : Int)) * 20)) ≤ ((Int.toNat ((a0n : Nat) : Int)) * 20) then
 some (D.list (Int.toNat ((a0n : Nat) : Int)) (some (Int.toNat ((a0n : Nat) : Int))) (cutL ((Int.toNat ((a0n : Nat) : Int)) * 20) (List.take 0 (List.flatten (List.replicate (Int.toNat ((a0n : Nat) : Int)) [zI, (D.v (.int .u8 (0 : Int))), zU, zU, zU, zU, zU, zU, zU, zU, zU, zU, zU, zU, zU, zU, zU, zU, (D.list 0 (some 0) []), (D.list 0 (some 0) [])])) ++ (List.take ((Nat.min a0n (Int.toNat ((a0n : Nat) : Int))) * 20) a0 ++ List.drop (0 + ((Nat.min a0n (Int.toNat ((a0n : Nat) : Int))) * 20)) (List.flatten (List.replicate (Int.toNat ((a0n : Nat) : Int)) [zI, (D.v (.int .u8 (0 : Int))), zU, zU, zU, zU, zU, zU, zU, zU, zU, zU, zU, zU, zU, zU, zU, zU, (D.list 0 (some 0) []), (D.list 0 (some 0) [])])))) 0 ((Int.toNat ((a0n : Nat) : Int)) * 20)))
 else none
 else none
 else none
 else none)
theorem Ziu (m : Nat) (a0n : Nat) (a0c : Option Nat) (a0 : List D) : funD Tryz.prog Z6g m 4 Z35 Tryz.f88 [(D.list a0n a0c a0)] = Z4f m a0n a0c a0 := by kernel_rfl
theorem Zke : Enters Tryz.prog 88 := ⟨Tryz.f88, Tryz.func88, by kernel_rfl, by kernel_rfl⟩
theorem Zkf {ds : List D} {d : D} (h : funD Tryz.prog Z6g M 4 Z35 Tryz.f88 ds = some d) : DataSem Tryz.prog 88 ds d := data_sound (H := Z6g) SpOk.nil mixed InlOk.nil Tryz.func88 Zke h
noncomputable def Z3a : List D → Option D
  | [.list a0n a0c a0] => Z4f M a0n a0c a0
  | _ => none
theorem Zkg : ∀ ds d, Z3a ds = some d → DataSem Tryz.prog 88 ds d := by
  intro ds d h
  unfold Z3a at h
  split at h
  · exact Zkf ((Ziu M _ _ _).trans h)
  · cases h

-- ('str', '"vidimus/trees.Delete"')
def Zo : FnH := ⟨[(6, ⟨(bm 117440660 97), [], (some 3)⟩), (15, ⟨(bm 3940649673952400 97), [(11, 20)], (some 5)⟩)], [(10, ⟨(bm 117441172 97), [], (some 3)⟩), (19, ⟨(bm 3940649673964688 97), [], (some 6)⟩), (23, ⟨(bm 3940649673960592 97), [], (some 6)⟩)]⟩
noncomputable def Z11 : Hints := ⟨[(60, Z1x), (86, Zai), (88, Z3a)], [], []⟩
noncomputable def Zci (m n0 : Nat) (y0_0 : Nat) (y0_1 : Nat) (y0_2 : Nat) (y0_3 : Option Nat) (y0_4 : List D) (y0_5 : Int) (y0_6 : Int) (y0_7 : Nat) (y0_8 : Option Nat) (y0_9 : List D) (y0_10 : Nat) (y0_11 : List D) : Option D :=
 loopIter (bm 117440660 97) 0 3 (codeK Tryz.prog Z11.sp ⟨0, [], false, []⟩ (inlK Tryz.prog Z11 m 4) m Zo (subc [1, 1, 1, 0, 1, 0, 0] (bodyOf Tryz.f50))) n0 ⟨[.junk, .junk, (AV.ptr 0 0), .junk, (AV.ptr 1 0), .junk, .junk, (AV.sl 2 0 y0_0 (some y0_1) 1), .junk, .junk, .junk, .junk, .junk, .junk, .junk, .junk, .junk, .junk, .junk, .junk, .junk, .junk, .junk, .junk, (AV.d (D.list y0_2 y0_3 y0_4)), (AV.d (D.v (.int .i64 y0_5))), (AV.d (D.v (.int .i64 y0_6))), .junk, .junk, .junk, .junk, .junk, .junk, .junk, .junk, .junk, .junk, .junk, .junk, .junk, .junk, .junk, .junk, .junk, .junk, .junk, .junk, .junk, .junk, .junk, .junk, .junk, .junk, .junk, .junk, .junk, .junk, .junk, .junk, .junk, .junk, .junk, .junk, .junk, .junk, .junk, .junk, .junk, .junk, .junk, .junk, .junk, .junk, .junk, .junk, .junk, .junk, .junk, .junk, .junk, .junk, .junk, .junk, .junk, .junk, .junk, .junk, .junk, .junk, .junk, .junk, .junk, .junk, .junk, .junk, .junk, .junk], [(Blk.d 1 [(D.list y0_7 y0_8 y0_9)]), (Blk.d 1 [(D.list 0 (some 0) [])]), (Blk.d y0_10 y0_11)]⟩
  (contK Tryz.prog Z11.sp ⟨0, [], false, []⟩ (inlK Tryz.prog Z11 m 4) m Zo (endK Tryz.prog Tryz.f50 (fun v L => viewK L 8 v some)) [.block 0, .code (subc [1, 1, 1, 1] (bodyOf Tryz.f50))])
noncomputable def Zk0 (m n0 : Nat) (u0_0 : Nat) (u0_1 : Nat) (u0_2 : Int) (u0_3 : Nat) (u0_4 : Option Nat) (u0_5 : List D) (u0_6 : Int) (u0_7 : Int) (u0_8 : Nat) (u0_9 : Option Nat) (u0_10 : List D) (u0_11 : Nat) (u0_12 : List D) : Option D :=
 cutK m (codeK Tryz.prog Z11.sp ⟨0, [], false, []⟩ (inlK Tryz.prog Z11 m 4) m Zo (subc [1, 1, 1, 0, 1, 0, 0, 1, 1, 0, 0, 1, 1] (bodyOf Tryz.f50)) ⟨[.junk, .junk, (AV.ptr 0 0), .junk, (AV.ptr 1 0), .junk, .junk, (AV.sl 2 0 u0_0 (some u0_1) 1), .junk, (AV.d (D.v (.int .i64 u0_2))), .junk, .junk, .junk, .junk, .junk, .junk, .junk, .junk, .junk, .junk, .junk, .junk, .junk, .junk, (AV.d (D.list u0_3 u0_4 u0_5)), (AV.d (D.v (.int .i64 u0_6))), (AV.d (D.v (.int .i64 u0_7))), .junk, .junk, .junk, .junk, .junk, .junk, .junk, .junk, .junk, .junk, .junk, .junk, .junk, .junk, .junk, .junk, .junk, .junk, .junk, .junk, .junk, .junk, .junk, .junk, .junk, .junk, .junk, .junk, .junk, .junk, .junk, .junk, .junk, .junk, .junk, .junk, .junk, .junk, .junk, .junk, .junk, .junk, .junk, .junk, .junk, .junk, .junk, .junk, .junk, .junk, .junk, .junk, .junk, .junk, .junk, .junk, .junk, .junk, .junk, .junk, .junk, .junk, .junk, .junk, .junk, .junk, .junk, .junk, .junk, .junk], [(Blk.d 1 [(D.list u0_8 u0_9 u0_10)]), (Blk.d 1 [(D.list 0 (some 0) [])]), (Blk.d u0_11 u0_12)]⟩
  (contK Tryz.prog Z11.sp ⟨0, [], false, []⟩ (inlK Tryz.prog Z11 m 4) m Zo (endK Tryz.prog Tryz.f50 (fun v L => viewK L 8 v some)) [.block 1, .code (subc [1, 1, 1, 0, 1, 0, 0, 1, 1, 1] (bodyOf Tryz.f50)), .loop (bm 117440660 97) 3 (subc [1, 1, 1, 0, 1, 0, 0] (bodyOf Tryz.f50)) n0, .block 0, .code (subc [1, 1, 1, 1] (bodyOf Tryz.f50))]))
theorem Zo4 (m n0 : Nat) (u0_0 : Nat) (u0_1 : Nat) (u0_2 : Int) (u0_3 : Nat) (u0_4 : Option Nat) (u0_5 : List D) (u0_6 : Int) (u0_7 : Int) (u0_8 : Nat) (u0_9 : Option Nat) (u0_10 : List D) (u0_11 : Nat) (u0_12 : List D) : Zk0 m n0 u0_0 u0_1 u0_2 u0_3 u0_4 u0_5 u0_6 u0_7 u0_8 u0_9 u0_10 u0_11 u0_12 =
 (if 0 ≤ u0_2 ∧ u0_2 < ((u0_0 : Nat) : Int) then
 if 1 = 1 ∧ (0 + ((Int.toNat u0_2) * 1)) < u0_11 then
 Zci m n0 u0_0 u0_1 u0_3 u0_4 u0_5 u0_6 (IntKind.wrap .i64 (u0_7 + (1 : Int))) u0_8 u0_9 u0_10 u0_11 (List.set u0_12 (0 + ((Int.toNat u0_2) * 1)) (D.v (.bool true)))
 else none
 else none) := (cutK_eq m _).trans (by kernel_rfl)
noncomputable def Z3x (m n0 : Nat) (y1_0 : Nat) (y1_1 : Nat) (y1_2 : Nat) (y1_3 : Nat) (y1_4 : Nat) (y1_5 : Nat) (y1_6 : Option Nat) (y1_7 : List D) (y1_8 : Int) (y1_9 : Int) (y1_10 : Nat) (y1_11 : Option Nat) (y1_12 : List D) (y1_13 : Nat) (y1_14 : List D) (y1_15 : Nat) (y1_16 : List D) (y1_17 : Nat) (y1_18 : List D) : Option D :=
 loopIter (bm 3940649673952400 97) 0 5 (codeK Tryz.prog Z11.sp ⟨0, [], false, []⟩ (inlK Tryz.prog Z11 m 4) m Zo (subc [1, 1, 1, 1, 1, 1, 0, 1, 0, 0] (bodyOf Tryz.f50))) n0 ⟨[.junk, .junk, .junk, .junk, (AV.ptr 1 0), .junk, .junk, (AV.sl 2 0 y1_0 (some y1_1) 1), .junk, .junk, (AV.sl 3 0 y1_2 (some y1_3) 1), (AV.sl 4 0 y1_4 none 20), .junk, .junk, .junk, .junk, .junk, .junk, .junk, .junk, .junk, .junk, .junk, .junk, .junk, .junk, .junk, .junk, .junk, .junk, .junk, .junk, .junk, .junk, .junk, .junk, .junk, .junk, .junk, .junk, .junk, .junk, .junk, .junk, .junk, .junk, .junk, .junk, .junk, (AV.d (D.list y1_5 y1_6 y1_7)), (AV.d (D.v (.int .i64 y1_8))), (AV.d (D.v (.int .i64 y1_9))), .junk, .junk, .junk, .junk, .junk, .junk, .junk, .junk, .junk, .junk, .junk, .junk, .junk, .junk, .junk, .junk, .junk, .junk, .junk, .junk, .junk, .junk, .junk, .junk, .junk, .junk, .junk, .junk, .junk, .junk, .junk, .junk, .junk, .junk, .junk, .junk, .junk, .junk, .junk, .junk, .junk, .junk, .junk, .junk, .junk], [(Blk.d 1 [(D.list y1_10 y1_11 y1_12)]), (Blk.d 1 [(D.list 0 (some 0) [])]), (Blk.d y1_13 y1_14), (Blk.d y1_15 y1_16), (Blk.d y1_17 y1_18)]⟩
  (contK Tryz.prog Z11.sp ⟨0, [], false, []⟩ (inlK Tryz.prog Z11 m 4) m Zo (endK Tryz.prog Tryz.f50 (fun v L => viewK L 8 v some)) [.block 2, .code (subc [1, 1, 1, 1, 1, 1, 1] (bodyOf Tryz.f50))])
noncomputable def Z8j (m n0 : Nat) (u1_0 : Nat) (u1_1 : Nat) (u1_2 : Nat) (u1_3 : Nat) (u1_4 : Nat) (u1_5 : Int) (u1_6 : Nat) (u1_7 : Option Nat) (u1_8 : List D) (u1_9 : Int) (u1_10 : Int) (u1_11 : Nat) (u1_12 : Option Nat) (u1_13 : List D) (u1_14 : Nat) (u1_15 : List D) (u1_16 : Nat) (u1_17 : List D) (u1_18 : Nat) (u1_19 : List D) (u1_20 : List D) : Option D :=
 cutK m (codeK Tryz.prog Z11.sp ⟨0, [], false, []⟩ (inlK Tryz.prog Z11 m 4) m Zo (subc [1, 1, 1, 1, 1, 1, 0, 1, 0, 0, 1, 1, 0, 0, 1, 1] (bodyOf Tryz.f50)) ⟨[.junk, .junk, .junk, .junk, (AV.ptr 1 0), .junk, .junk, (AV.sl 2 0 u1_0 (some u1_1) 1), .junk, .junk, (AV.sl 3 0 u1_2 (some u1_3) 1), (AV.sl 4 0 u1_4 none 20), (AV.d (D.v (.int .i64 u1_5))), (AV.ptr 5 0), .junk, .junk, .junk, .junk, .junk, .junk, .junk, .junk, .junk, .junk, .junk, .junk, .junk, .junk, .junk, .junk, .junk, .junk, .junk, .junk, .junk, .junk, .junk, .junk, .junk, .junk, .junk, .junk, .junk, .junk, .junk, .junk, .junk, .junk, .junk, (AV.d (D.list u1_6 u1_7 u1_8)), (AV.d (D.v (.int .i64 u1_9))), (AV.d (D.v (.int .i64 u1_10))), .junk, .junk, .junk, .junk, .junk, .junk, .junk, .junk, .junk, .junk, .junk, .junk, .junk, .junk, .junk, .junk, .junk, .junk, .junk, .junk, .junk, .junk, .junk, .junk, .junk, .junk, .junk, .junk, .junk, .junk, .junk, .junk, .junk, .junk, .junk, .junk, .junk, .junk, .junk, .junk, .junk, .junk, .junk, .junk, .junk], [(Blk.d 1 [(D.list u1_11 u1_12 u1_13)]), (Blk.d 1 [(D.list 0 (some 0) [])]), (Blk.d u1_14 u1_15), (Blk.d u1_16 u1_17), (Blk.d u1_18 u1_19), (Blk.d 20 u1_20)]⟩
  (contK Tryz.prog Z11.sp ⟨0, [], false, []⟩ (inlK Tryz.prog Z11 m 4) m Zo (endK Tryz.prog Tryz.f50 (fun v L => viewK L 8 v some)) [.block 3, .code (subc [1, 1, 1, 1, 1, 1, 0, 1, 0, 0, 1, 1, 1] (bodyOf Tryz.f50)), .loop (bm 3940649673952400 97) 5 (subc [1, 1, 1, 1, 1, 1, 0, 1, 0, 0] (bodyOf Tryz.f50)) n0, .block 2, .code (subc [1, 1, 1, 1, 1, 1, 1] (bodyOf Tryz.f50))]))
noncomputable def Z8k (m n0 : Nat) (u2_0 : Nat) (u2_1 : Nat) (u2_2 : Nat) (u2_3 : Nat) (u2_4 : Nat) (u2_5 : Nat) (u2_6 : Option Nat) (u2_7 : List D) (u2_8 : Int) (u2_9 : Int) (u2_10 : Nat) (u2_11 : Option Nat) (u2_12 : List D) (u2_13 : Nat) (u2_14 : List D) (u2_15 : Nat) (u2_16 : List D) (u2_17 : Nat) (u2_18 : List D) (u2_19 : List D) : Option D :=
 cutK m (codeK Tryz.prog Z11.sp ⟨0, [], false, []⟩ (inlK Tryz.prog Z11 m 4) m Zo (subc [1, 1, 1, 1, 1, 1, 0, 1, 0, 0, 1, 1, 0, 0, 1, 1, 1, 1, 1] (bodyOf Tryz.f50)) ⟨[.junk, .junk, .junk, .junk, (AV.ptr 1 0), .junk, .junk, (AV.sl 2 0 u2_0 (some u2_1) 1), .junk, .junk, (AV.sl 3 0 u2_2 (some u2_3) 1), (AV.sl 4 0 u2_4 none 20), .junk, (AV.ptr 5 0), .junk, .junk, .junk, .junk, .junk, .junk, .junk, .junk, .junk, .junk, .junk, .junk, .junk, .junk, .junk, .junk, .junk, .junk, .junk, .junk, .junk, .junk, .junk, .junk, .junk, .junk, .junk, .junk, .junk, .junk, .junk, .junk, .junk, .junk, .junk, (AV.d (D.list u2_5 u2_6 u2_7)), (AV.d (D.v (.int .i64 u2_8))), (AV.d (D.v (.int .i64 u2_9))), .junk, .junk, .junk, .junk, .junk, .junk, .junk, .junk, .junk, .junk, .junk, .junk, .junk, .junk, .junk, .junk, .junk, .junk, .junk, .junk, .junk, .junk, .junk, .junk, .junk, .junk, .junk, .junk, .junk, .junk, .junk, .junk, .junk, .junk, .junk, .junk, .junk, .junk, .junk, .junk, .junk, .junk, .junk, .junk, .junk], [(Blk.d 1 [(D.list u2_10 u2_11 u2_12)]), (Blk.d 1 [(D.list 0 (some 0) [])]), (Blk.d u2_13 u2_14), (Blk.d u2_15 u2_16), (Blk.d u2_17 u2_18), (Blk.d 20 u2_19)]⟩
  (contK Tryz.prog Z11.sp ⟨0, [], false, []⟩ (inlK Tryz.prog Z11 m 4) m Zo (endK Tryz.prog Tryz.f50 (fun v L => viewK L 8 v some)) [.block 3, .code (subc [1, 1, 1, 1, 1, 1, 0, 1, 0, 0, 1, 1, 1] (bodyOf Tryz.f50)), .loop (bm 3940649673952400 97) 5 (subc [1, 1, 1, 1, 1, 1, 0, 1, 0, 0] (bodyOf Tryz.f50)) n0, .block 2, .code (subc [1, 1, 1, 1, 1, 1, 1] (bodyOf Tryz.f50))]))
theorem Zo5 (m n0 : Nat) (u2_0 : Nat) (u2_1 : Nat) (u2_2 : Nat) (u2_3 : Nat) (u2_4 : Nat) (u2_5 : Nat) (u2_6 : Option Nat) (u2_7 : List D) (u2_8 : Int) (u2_9 : Int) (u2_10 : Nat) (u2_11 : Option Nat) (u2_12 : List D) (u2_13 : Nat) (u2_14 : List D) (u2_15 : Nat) (u2_16 : List D) (u2_17 : Nat) (u2_18 : List D) (u2_19 : List D) : Z8k m n0 u2_0 u2_1 u2_2 u2_3 u2_4 u2_5 u2_6 u2_7 u2_8 u2_9 u2_10 u2_11 u2_12 u2_13 u2_14 u2_15 u2_16 u2_17 u2_18 u2_19 =
 (if (List.length u2_19) = 20 then
 if ownB ⟨0, [], false, []⟩ 4 = true ∧ u2_17 = (u2_4 * 20) ∧ fitsRow (u2_4 + 1) 128 ∧ (List.length u2_19) = 20 then
 Z3x m n0 u2_0 u2_1 u2_2 u2_3 (u2_4 + 1) u2_5 u2_6 u2_7 u2_8 (IntKind.wrap .i64 (u2_9 + (1 : Int))) u2_10 u2_11 u2_12 u2_13 u2_14 u2_15 u2_16 ((u2_4 + 1) * 20) (u2_18 ++ u2_19)
 else none
 else none) := (cutK_eq m _).trans (by kernel_rfl)
theorem Zo6 (m n0 : Nat) (u1_0 : Nat) (u1_1 : Nat) (u1_2 : Nat) (u1_3 : Nat) (u1_4 : Nat) (u1_5 : Int) (u1_6 : Nat) (u1_7 : Option Nat) (u1_8 : List D) (u1_9 : Int) (u1_10 : Int) (u1_11 : Nat) (u1_12 : Option Nat) (u1_13 : List D) (u1_14 : Nat) (u1_15 : List D) (u1_16 : Nat) (u1_17 : List D) (u1_18 : Nat) (u1_19 : List D) (u1_20 : List D) : Z8j m n0 u1_0 u1_1 u1_2 u1_3 u1_4 u1_5 u1_6 u1_7 u1_8 u1_9 u1_10 u1_11 u1_12 u1_13 u1_14 u1_15 u1_16 u1_17 u1_18 u1_19 u1_20 =
 (if 0 ≤ u1_5 ∧ u1_5 < ((u1_2 : Nat) : Int) then
 if 1 = 1 ∧ (0 + ((Int.toNat u1_5) * 1)) < u1_16 then
 (Zai [(D.agg u1_20)]).bind fun d21 =>
 (rdA (some d21)).bind fun c22 =>
 if (List.length c22) = 20 then
 cond (decide (u1_5 > (0 : Int)))
 ((rdI .i64 c22[0]?).bind fun x23 =>
 if 0 ≤ x23 ∧ x23 < ((u1_2 : Nat) : Int) then
 (rdI .i64 (List.set u1_17 (0 + ((Int.toNat u1_5) * 1)) (D.v (.int .i64 ((u1_4 : Nat) : Int))))[(0 + ((Int.toNat x23) * 1))]?).bind fun x24 =>
 Z8k m n0 u1_0 u1_1 u1_2 u1_3 u1_4 u1_6 u1_7 u1_8 u1_9 u1_10 u1_11 u1_12 u1_13 u1_14 u1_15 u1_16 (List.set u1_17 (0 + ((Int.toNat u1_5) * 1)) (D.v (.int .i64 ((u1_4 : Nat) : Int)))) u1_18 u1_19 (List.set c22 0 (D.v (.int .i64 x24)))
 else none)
 (Z8k m n0 u1_0 u1_1 u1_2 u1_3 u1_4 u1_6 u1_7 u1_8 u1_9 u1_10 u1_11 u1_12 u1_13 u1_14 u1_15 u1_16 (List.set u1_17 (0 + ((Int.toNat u1_5) * 1)) (D.v (.int .i64 ((u1_4 : Nat) : Int)))) u1_18 u1_19 c22)
 else none
 else none
 else none) := (cutK_eq m _).trans (by kernel_rfl)
theorem Zpb (m n0 : Nat) (y1_0 : Nat) (y1_1 : Nat) (y1_2 : Nat) (y1_3 : Nat) (y1_4 : Nat) (y1_5 : Nat) (y1_6 : Option Nat) (y1_7 : List D) (y1_8 : Int) (y1_9 : Int) (y1_10 : Nat) (y1_11 : Option Nat) (y1_12 : List D) (y1_13 : Nat) (y1_14 : List D) (y1_15 : Nat) (y1_16 : List D) (y1_17 : Nat) (y1_18 : List D) : Z3x m (n0 + 1) y1_0 y1_1 y1_2 y1_3 y1_4 y1_5 y1_6 y1_7 y1_8 y1_9 y1_10 y1_11 y1_12 y1_13 y1_14 y1_15 y1_16 y1_17 y1_18 =
 (cond (decide (y1_9 < y1_8))
 (if 0 ≤ y1_9 ∧ y1_9 < ((y1_5 : Nat) : Int) then
 if (((Int.toNat y1_9) * 20) + 20) ≤ (List.length y1_7) then
 if (List.length ((List.drop ((Int.toNat y1_9) * 20) y1_7).take 20)) = 20 then
 if 0 ≤ y1_9 ∧ y1_9 < ((y1_0 : Nat) : Int) then
 (rdB y1_14[(0 + ((Int.toNat y1_9) * 1))]?).bind fun b18 =>
 cond b18
 (if 0 ≤ y1_9 ∧ y1_9 < ((y1_0 : Nat) : Int) then
 if 1 = 1 ∧ (0 + ((Int.toNat y1_9) * 1)) < y1_13 then
 Z3x m n0 y1_0 y1_1 y1_2 y1_3 y1_4 y1_5 y1_6 y1_7 y1_8 (IntKind.wrap .i64 (y1_9 + (1 : Int))) y1_10 y1_11 y1_12 y1_13 (List.set y1_14 (0 + ((Int.toNat y1_9) * 1)) (D.v (.bool true))) y1_15 y1_16 y1_17 y1_18
 else none
 else none)
 (cond (decide (y1_9 > (0 : Int)))
 ((rdI .i64 ((List.drop ((Int.toNat y1_9) * 20) y1_7).take 20)[0]?).bind fun x19 =>
 if 0 ≤ x19 ∧ x19 < ((y1_0 : Nat) : Int) then
 (rdB y1_14[(0 + ((Int.toNat x19) * 1))]?).bind fun b20 =>
 cond b20
 (if 0 ≤ y1_9 ∧ y1_9 < ((y1_0 : Nat) : Int) then
 if 1 = 1 ∧ (0 + ((Int.toNat y1_9) * 1)) < y1_13 then
 Z3x m n0 y1_0 y1_1 y1_2 y1_3 y1_4 y1_5 y1_6 y1_7 y1_8 (IntKind.wrap .i64 (y1_9 + (1 : Int))) y1_10 y1_11 y1_12 y1_13 (List.set y1_14 (0 + ((Int.toNat y1_9) * 1)) (D.v (.bool true))) y1_15 y1_16 y1_17 y1_18
 else none
 else none)
 (Z8j m n0 y1_0 y1_1 y1_2 y1_3 y1_4 y1_9 y1_5 y1_6 y1_7 y1_8 y1_9 y1_10 y1_11 y1_12 y1_13 y1_14 y1_15 y1_16 y1_17 y1_18 ((List.drop ((Int.toNat y1_9) * 20) y1_7).take 20))
 else none)
 (Z8j m n0 y1_0 y1_1 y1_2 y1_3 y1_4 y1_9 y1_5 y1_6 y1_7 y1_8 y1_9 y1_10 y1_11 y1_12 y1_13 y1_14 y1_15 y1_16 y1_17 y1_18 ((List.drop ((Int.toNat y1_9) * 20) y1_7).take 20)))
 else none
 else none
 else none
 else none)
 (if (0 + (y1_4 * 20)) ≤ y1_17 then
 (Z3a [(D.list y1_4 none (cutL y1_17 y1_18 0 (y1_4 * 20)))]).bind fun d25 =>
 (rdL (some d25)).bind fun q26 =>
 if (0 + (y1_4 * 20)) ≤ y1_17 then
 if (0 + (y1_4 * 20)) ≤ y1_17 then
 some (D.tup [(D.agg [(D.list q26.n q26.cap q26.cs)]), zI])
 else none
 else none
 else none)) := by kernel_rfl
theorem Zqj (m n0 : Nat) (y0_0 : Nat) (y0_1 : Nat) (y0_2 : Nat) (y0_3 : Option Nat) (y0_4 : List D) (y0_5 : Int) (y0_6 : Int) (y0_7 : Nat) (y0_8 : Option Nat) (y0_9 : List D) (y0_10 : Nat) (y0_11 : List D) : Zci m (n0 + 1) y0_0 y0_1 y0_2 y0_3 y0_4 y0_5 y0_6 y0_7 y0_8 y0_9 y0_10 y0_11 =
 (cond (decide (y0_6 < y0_5))
 (if 0 ≤ y0_6 ∧ y0_6 < ((y0_2 : Nat) : Int) then
 (rdI .i64 y0_4[((Int.toNat y0_6) * 1)]?).bind fun x5 =>
 cond (decide (x5 < (0 : Int)))
 (some (D.tup [(D.agg [(D.list 0 (some 0) [])]), (D.v (.int .i64 (19 : Int)))]))
 (cond (decide (x5 ≥ ((y0_7 : Nat) : Int)))
 (some (D.tup [(D.agg [(D.list 0 (some 0) [])]), (D.v (.int .i64 (19 : Int)))]))
 (Zk0 m n0 y0_0 y0_1 x5 y0_2 y0_3 y0_4 y0_5 y0_6 y0_7 y0_8 y0_9 y0_10 y0_11))
 else none)
 (if 0 ≤ ((y0_7 : Nat) : Int) ∧ ((y0_7 : Nat) : Int) ≤ ((y0_7 : Nat) : Int) ∧ fitsRow (Int.toNat ((y0_7 : Nat) : Int)) 8 then
 Z3x m m y0_0 y0_1 (Int.toNat ((y0_7 : Nat) : Int)) (Int.toNat ((y0_7 : Nat) : Int)) 0 y0_7 y0_8 y0_9 ((y0_7 : Nat) : Int) (0 : Int) y0_7 y0_8 y0_9 y0_10 y0_11 ((Int.toNat ((y0_7 : Nat) : Int)) * 1) (List.flatten (List.replicate (Int.toNat ((y0_7 : Nat) : Int)) [zI])) 0 []
 else none)) := by kernel_rfl
noncomputable def Zfw (m : Nat) (a0_0n : Nat) (a0_0c : Option Nat) (a0_0 : List D) (a1n : Nat) (a1c : Option Nat) (a1 : List D) : Option D :=
 (Z1x [(D.agg [(D.list a0_0n a0_0c a0_0)])]).bind fun d1 =>
 (rdI .i64 (some d1)).bind fun x2 =>
 cond (x2 != (0 : Int))
 (some (D.tup [(D.agg [(D.list 0 (some 0) [])]), (D.v (.int .i64 x2))]))
 (if 0 ≤ ((a0_0n : Nat) : Int) ∧ ((a0_0n : Nat) : Int) ≤ ((a0_0n : Nat) : Int) ∧ fitsRow (Int.toNat ((a0_0n : Nat) : Int)) 1 then
 Zci m m (Int.toNat ((a0_0n : Nat) : Int)) (Int.toNat ((a0_0n : Nat) : Int)) a1n a1c a1 ((a1n : Nat) : Int) (0 : Int) a0_0n a0_0c a0_0 ((Int.toNat ((a0_0n : Nat) : Int)) * 1) (List.flatten (List.replicate (Int.toNat ((a0_0n : Nat) : Int)) [(D.v (.bool false))]))
 else none)
theorem Zra (m : Nat) (a0_0n : Nat) (a0_0c : Option Nat) (a0_0 : List D) (a1n : Nat) (a1c : Option Nat) (a1 : List D) : funD Tryz.prog Z11 m 4 Zo Tryz.f50 [(D.agg [(D.list a0_0n a0_0c a0_0)]), (D.list a1n a1c a1)] = Zfw m a0_0n a0_0c a0_0 a1n a1c a1 := by kernel_rfl
theorem Zt4 : Enters Tryz.prog 50 := ⟨Tryz.f50, Tryz.func50, by kernel_rfl, by kernel_rfl⟩
theorem Zt5 {ds : List D} {d : D} (h : funD Tryz.prog Z11 M 4 Zo Tryz.f50 ds = some d) : DataSem Tryz.prog 50 ds d := data_sound (H := Z11) (SpOk.cons Z7y (SpOk.cons Zt3 (SpOk.cons Zkg SpOk.nil))) mixed InlOk.nil Tryz.func50 Zt4 h
noncomputable def Z1l : List D → Option D
  | [.agg [.list a0_0n a0_0c a0_0], .list a1n a1c a1] => Zfw M a0_0n a0_0c a0_0 a1n a1c a1
  | _ => none
theorem Ziv : ∀ ds d, Z1l ds = some d → DataSem Tryz.prog 50 ds d := by
  intro ds d h
  unfold Z1l at h
  split at h
  · exact Zt5 ((Zra M _ _ _ _ _ _).trans h)
  · cases h

-- ('str', '"vidimus/trees.Size"')
def Zc8 : FnH := ⟨[], []⟩
noncomputable def Znn : Hints := ⟨[], [], []⟩
noncomputable def Zrj (m : Nat) (a0_0n : Nat) (a0_0c : Option Nat) (a0_0 : List D) : Option D :=
 some (D.v (.int .i64 ((a0_0n : Nat) : Int)))
theorem Zt6 (m : Nat) (a0_0n : Nat) (a0_0c : Option Nat) (a0_0 : List D) : funD Tryz.prog Znn m 4 Zc8 Tryz.f36 [(D.agg [(D.list a0_0n a0_0c a0_0)])] = Zrj m a0_0n a0_0c a0_0 := by kernel_rfl
theorem Zuv : Enters Tryz.prog 36 := ⟨Tryz.f36, Tryz.func36, by kernel_rfl, by kernel_rfl⟩
theorem Zuw {ds : List D} {d : D} (h : funD Tryz.prog Znn M 4 Zc8 Tryz.f36 ds = some d) : DataSem Tryz.prog 36 ds d := data_sound (H := Znn) SpOk.nil mixed InlOk.nil Tryz.func36 Zuv h
noncomputable def Z3m : List D → Option D
  | [.agg [.list a0_0n a0_0c a0_0]] => Zrj M a0_0n a0_0c a0_0
  | _ => none
theorem Zux : ∀ ds d, Z3m ds = some d → DataSem Tryz.prog 36 ds d := by
  intro ds d h
  unfold Z3m at h
  split at h
  · exact Zuw ((Zt6 M _ _ _).trans h)
  · cases h

end Go.Ev
