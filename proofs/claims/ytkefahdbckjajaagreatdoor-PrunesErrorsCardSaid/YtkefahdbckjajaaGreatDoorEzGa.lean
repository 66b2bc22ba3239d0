/- Functions of the given program in plain form, printed: each with the proof that it is what the evaluator comes to, and that the program function returns what it says. No conditions. -/
import Derived.Test.YtkefahdbckjajaaGreatDoorEzG8
set_option linter.unusedVariables false
set_option maxRecDepth 100000
namespace Go.Ev
open Go Go.Proofs

-- ('str', '"vidimus/vidimuslaw27.ints"')
def Z2o : FnH := ⟨[(4, ⟨(bm 35 33), [], (some 0)⟩)], [(3, ⟨(bm 3 33), [], (some 0)⟩)]⟩
noncomputable def Z48 : Hints := ⟨[], [], []⟩
noncomputable def Znu (m : Nat) (u0_0 : Nat) (u0_1 : Option Nat) (u0_2 : List D) (u0_3 : Nat) (u0_4 : Option Nat) (u0_5 : List D) : Option D :=
 cutK m (codeK Tryz.prog Z48.sp ⟨0, [], false, []⟩ (inlK Tryz.prog Z48 m 4) m Z2o (subc [1, 1] (bodyOf Tryz.f25)) ⟨[(AV.d (D.list u0_0 u0_1 u0_2)), (AV.d (D.list u0_3 u0_4 u0_5)), .junk, .junk, .junk, .junk, .junk, .junk, .junk, .junk, .junk, .junk, .junk, .junk, .junk, .junk, .junk, .junk, .junk, .junk, .junk, .junk, .junk, .junk, .junk, .junk, .junk, .junk, .junk, .junk, .junk, .junk, .junk], []⟩
  (contK Tryz.prog Z48.sp ⟨0, [], false, []⟩ (inlK Tryz.prog Z48 m 4) m Z2o (endK Tryz.prog Tryz.f25 (fun v L => viewK L 8 v some)) []))
noncomputable def Zg0 (m n0 : Nat) (y0_0 : Nat) (y0_1 : Option Nat) (y0_2 : List D) (y0_3 : Nat) (y0_4 : Option Nat) (y0_5 : List D) (y0_6 : Int) : Option D :=
 loopIter (bm 35 33) 0 0 (codeK Tryz.prog Z48.sp ⟨0, [], false, []⟩ (inlK Tryz.prog Z48 m 4) m Z2o (subc [1, 1, 0, 1, 0, 0] (bodyOf Tryz.f25))) n0 ⟨[(AV.d (D.list y0_0 y0_1 y0_2)), (AV.d (D.list y0_3 y0_4 y0_5)), .junk, .junk, .junk, (AV.d (D.v (.int .i64 y0_6))), .junk, .junk, .junk, .junk, .junk, .junk, .junk, .junk, .junk, .junk, .junk, .junk, .junk, .junk, .junk, .junk, .junk, .junk, .junk, .junk, .junk, .junk, .junk, .junk, .junk, .junk, .junk], []⟩
  (contK Tryz.prog Z48.sp ⟨0, [], false, []⟩ (inlK Tryz.prog Z48 m 4) m Z2o (endK Tryz.prog Tryz.f25 (fun v L => viewK L 8 v some)) [.block 0, .code (subc [1, 1, 1] (bodyOf Tryz.f25))])
theorem Zse (m n0 : Nat) (y0_0 : Nat) (y0_1 : Option Nat) (y0_2 : List D) (y0_3 : Nat) (y0_4 : Option Nat) (y0_5 : List D) (y0_6 : Int) : Zg0 m (n0 + 1) y0_0 y0_1 y0_2 y0_3 y0_4 y0_5 y0_6 =
 (cond (decide (y0_6 < ((y0_0 : Nat) : Int)))
 (if 0 ≤ y0_6 ∧ y0_6 < ((y0_0 : Nat) : Int) then
 (rdI .i64 y0_2[((Int.toNat y0_6) * 1)]?).bind fun x6 =>
 if 0 ≤ y0_6 ∧ y0_6 < ((y0_3 : Nat) : Int) then
 (rdI .i64 y0_5[((Int.toNat y0_6) * 1)]?).bind fun x7 =>
 cond (x6 != x7)
 (some (D.v (.bool false)))
 (Zg0 m n0 y0_0 y0_1 y0_2 y0_3 y0_4 y0_5 (IntKind.wrap .i64 (y0_6 + (1 : Int))))
 else none
 else none)
 (some (D.v (.bool true)))) := by kernel_rfl
theorem Zrg (m : Nat) (u0_0 : Nat) (u0_1 : Option Nat) (u0_2 : List D) (u0_3 : Nat) (u0_4 : Option Nat) (u0_5 : List D) : Znu m u0_0 u0_1 u0_2 u0_3 u0_4 u0_5 =
 (Zg0 m m u0_0 u0_1 u0_2 u0_3 u0_4 u0_5 (0 : Int)) := (cutK_eq m _).trans (by kernel_rfl)
noncomputable def Zk3 (m : Nat) (a0n : Nat) (a0c : Option Nat) (a0 : List D) (a1n : Nat) (a1c : Option Nat) (a1 : List D) : Option D :=
 cond (((a0n : Nat) : Int) != ((a1n : Nat) : Int))
 (some (D.v (.bool false)))
 (capO (a0c) fun n1 =>
 cond (((n1 : Nat) : Int) != ((a0n : Nat) : Int))
 (some (D.v (.bool false)))
 (Znu m a0n a0c a0 a1n a1c a1))
theorem Ztg (m : Nat) (a0n : Nat) (a0c : Option Nat) (a0 : List D) (a1n : Nat) (a1c : Option Nat) (a1 : List D) : funD Tryz.prog Z48 m 4 Z2o Tryz.f25 [(D.list a0n a0c a0), (D.list a1n a1c a1)] = Zk3 m a0n a0c a0 a1n a1c a1 := by kernel_rfl
theorem Zv0 : Enters Tryz.prog 25 := ⟨Tryz.f25, Tryz.func25, by kernel_rfl, by kernel_rfl⟩
theorem Zv1 {ds : List D} {d : D} (h : funD Tryz.prog Z48 M 4 Z2o Tryz.f25 ds = some d) : DataSem Tryz.prog 25 ds d := data_sound (H := Z48) SpOk.nil mixed InlOk.nil Tryz.func25 Zv0 h
noncomputable def Z2p : List D → Option D
  | [.list a0n a0c a0, .list a1n a1c a1] => Zk3 M a0n a0c a0 a1n a1c a1
  | _ => none
theorem Zv2 : ∀ ds d, Z2p ds = some d → DataSem Tryz.prog 25 ds d := by
  intro ds d h
  unfold Z2p at h
  split at h
  · exact Zv1 ((Ztg M _ _ _ _ _ _).trans h)
  · cases h

-- ('str', '"vidimus/vidimuslaw27.same"')
def Z1g : FnH := ⟨[], [(6, ⟨(bm 0 176), [], (some 0)⟩), (10, ⟨(bm 0 176), [], (some 0)⟩), (16, ⟨(bm 0 176), [], (some 0)⟩)]⟩
noncomputable def Z2h (Z0 Z4 Z3 Z1 Z2 Zp Zn Zh : List D → Option D) : Hints := ⟨[(18, Z0), (19, Z4), (20, Z3), (21, Z1), (23, Z2), (25, Zp), (36, Zn), (61, Zh)], [], []⟩
noncomputable def Zhb (Z0 Z4 Z3 Z1 Z2 Zp Zn Zh : List D → Option D) (m : Nat)  : Option D :=
 cutK m (codeK Tryz.prog (Z2h Z0 Z4 Z3 Z1 Z2 Zp Zn Zh).sp ⟨0, [], false, []⟩ (inlK Tryz.prog (Z2h Z0 Z4 Z3 Z1 Z2 Zp Zn Zh) m 4) m Z1g (subc [1, 1, 1, 1, 1] (bodyOf Tryz.f16)) ⟨[.junk, .junk, .junk, .junk, .junk, .junk, .junk, .junk, .junk, .junk, .junk, .junk, .junk, .junk, .junk, .junk, .junk, .junk, .junk, .junk, .junk, .junk, .junk, .junk, .junk, .junk, .junk, .junk, .junk, .junk, .junk, .junk, .junk, .junk, .junk, .junk, .junk, .junk, .junk, .junk, .junk, .junk, .junk, .junk, .junk, .junk, .junk, .junk, .junk, .junk, .junk, .junk, .junk, .junk, .junk, .junk, .junk, .junk, .junk, .junk, .junk, .junk, .junk, .junk, .junk, .junk, .junk, .junk, .junk, .junk, .junk, .junk, .junk, .junk, .junk, .junk, .junk, .junk, .junk, .junk, .junk, .junk, .junk, .junk, .junk, .junk, .junk, .junk, .junk, .junk, .junk, .junk, .junk, .junk, .junk, .junk, .junk, .junk, .junk, .junk, .junk, .junk, .junk, .junk, .junk, .junk, .junk, .junk, .junk, .junk, .junk, .junk, .junk, .junk, .junk, .junk, .junk, .junk, .junk, .junk, .junk, .junk, .junk, .junk, .junk, .junk, .junk, .junk, .junk, .junk, .junk, .junk, .junk, .junk, .junk, .junk, .junk, .junk, .junk, .junk, .junk, .junk, .junk, .junk, .junk, .junk, .junk, .junk, .junk, .junk, .junk, .junk, .junk, .junk, .junk, .junk, .junk, .junk, .junk, .junk, .junk, .junk, .junk, .junk, .junk, .junk, .junk, .junk, .junk, .junk, .junk, .junk, .junk, .junk, .junk, .junk], []⟩
  (contK Tryz.prog (Z2h Z0 Z4 Z3 Z1 Z2 Zp Zn Zh).sp ⟨0, [], false, []⟩ (inlK Tryz.prog (Z2h Z0 Z4 Z3 Z1 Z2 Zp Zn Zh) m 4) m Z1g (endK Tryz.prog Tryz.f16 (fun v L => viewK L 8 v some)) []))
noncomputable def Zfp (Z0 Z4 Z3 Z1 Z2 Zp Zn Zh : List D → Option D) (m : Nat)  : Option D :=
 cutK m (codeK Tryz.prog (Z2h Z0 Z4 Z3 Z1 Z2 Zp Zn Zh).sp ⟨0, [], false, []⟩ (inlK Tryz.prog (Z2h Z0 Z4 Z3 Z1 Z2 Zp Zn Zh) m 4) m Z1g (subc [1, 1, 1, 1, 1, 1, 1, 1] (bodyOf Tryz.f16)) ⟨[.junk, .junk, .junk, .junk, .junk, .junk, .junk, .junk, .junk, .junk, .junk, .junk, .junk, .junk, .junk, .junk, .junk, .junk, .junk, .junk, .junk, .junk, .junk, .junk, .junk, .junk, .junk, .junk, .junk, .junk, .junk, .junk, .junk, .junk, .junk, .junk, .junk, .junk, .junk, .junk, .junk, .junk, .junk, .junk, .junk, .junk, .junk, .junk, .junk, .junk, .junk, .junk, .junk, .junk, .junk, .junk, .junk, .junk, .junk, .junk, .junk, .junk, .junk, .junk, .junk, .junk, .junk, .junk, .junk, .junk, .junk, .junk, .junk, .junk, .junk, .junk, .junk, .junk, .junk, .junk, .junk, .junk, .junk, .junk, .junk, .junk, .junk, .junk, .junk, .junk, .junk, .junk, .junk, .junk, .junk, .junk, .junk, .junk, .junk, .junk, .junk, .junk, .junk, .junk, .junk, .junk, .junk, .junk, .junk, .junk, .junk, .junk, .junk, .junk, .junk, .junk, .junk, .junk, .junk, .junk, .junk, .junk, .junk, .junk, .junk, .junk, .junk, .junk, .junk, .junk, .junk, .junk, .junk, .junk, .junk, .junk, .junk, .junk, .junk, .junk, .junk, .junk, .junk, .junk, .junk, .junk, .junk, .junk, .junk, .junk, .junk, .junk, .junk, .junk, .junk, .junk, .junk, .junk, .junk, .junk, .junk, .junk, .junk, .junk, .junk, .junk, .junk, .junk, .junk, .junk, .junk, .junk, .junk, .junk, .junk, .junk], []⟩
  (contK Tryz.prog (Z2h Z0 Z4 Z3 Z1 Z2 Zp Zn Zh).sp ⟨0, [], false, []⟩ (inlK Tryz.prog (Z2h Z0 Z4 Z3 Z1 Z2 Zp Zn Zh) m 4) m Z1g (endK Tryz.prog Tryz.f16 (fun v L => viewK L 8 v some)) []))
noncomputable def Zfq (Z0 Z4 Z3 Z1 Z2 Zp Zn Zh : List D → Option D) (m : Nat)  : Option D :=
 cutK m (codeK Tryz.prog (Z2h Z0 Z4 Z3 Z1 Z2 Zp Zn Zh).sp ⟨0, [], false, []⟩ (inlK Tryz.prog (Z2h Z0 Z4 Z3 Z1 Z2 Zp Zn Zh) m 4) m Z1g (subc [1, 1, 1, 1, 1, 1, 1, 1, 1, 1, 1, 1, 1] (bodyOf Tryz.f16)) ⟨[.junk, .junk, .junk, .junk, .junk, .junk, .junk, .junk, .junk, .junk, .junk, .junk, .junk, .junk, .junk, .junk, .junk, .junk, .junk, .junk, .junk, .junk, .junk, .junk, .junk, .junk, .junk, .junk, .junk, .junk, .junk, .junk, .junk, .junk, .junk, .junk, .junk, .junk, .junk, .junk, .junk, .junk, .junk, .junk, .junk, .junk, .junk, .junk, .junk, .junk, .junk, .junk, .junk, .junk, .junk, .junk, .junk, .junk, .junk, .junk, .junk, .junk, .junk, .junk, .junk, .junk, .junk, .junk, .junk, .junk, .junk, .junk, .junk, .junk, .junk, .junk, .junk, .junk, .junk, .junk, .junk, .junk, .junk, .junk, .junk, .junk, .junk, .junk, .junk, .junk, .junk, .junk, .junk, .junk, .junk, .junk, .junk, .junk, .junk, .junk, .junk, .junk, .junk, .junk, .junk, .junk, .junk, .junk, .junk, .junk, .junk, .junk, .junk, .junk, .junk, .junk, .junk, .junk, .junk, .junk, .junk, .junk, .junk, .junk, .junk, .junk, .junk, .junk, .junk, .junk, .junk, .junk, .junk, .junk, .junk, .junk, .junk, .junk, .junk, .junk, .junk, .junk, .junk, .junk, .junk, .junk, .junk, .junk, .junk, .junk, .junk, .junk, .junk, .junk, .junk, .junk, .junk, .junk, .junk, .junk, .junk, .junk, .junk, .junk, .junk, .junk, .junk, .junk, .junk, .junk, .junk, .junk, .junk, .junk, .junk, .junk], []⟩
  (contK Tryz.prog (Z2h Z0 Z4 Z3 Z1 Z2 Zp Zn Zh).sp ⟨0, [], false, []⟩ (inlK Tryz.prog (Z2h Z0 Z4 Z3 Z1 Z2 Zp Zn Zh) m 4) m Z1g (endK Tryz.prog Tryz.f16 (fun v L => viewK L 8 v some)) []))
theorem Zpg (Z0 Z4 Z3 Z1 Z2 Zp Zn Zh : List D → Option D) (m : Nat)  : Zfq Z0 Z4 Z3 Z1 Z2 Zp Zn Zh m  =
 ((Zh []).bind fun d70 =>
 (rdA (some d70)).bind fun c71 =>
 (Z2 [(D.agg c71), (D.v (.int .i64 (2 : Int))), (D.v (.int .i64 (2 : Int)))]).bind fun d72 =>
 (rdT d72).bind fun r73 =>
 if List.length r73 = 2 then
 (rdA r73[0]?).bind fun c74 =>
 (rdI .i64 r73[1]?).bind fun x75 =>
 (Zh []).bind fun d76 =>
 (rdA (some d76)).bind fun c77 =>
 (Z2 [(D.agg c77), (D.v (.int .i64 (2 : Int))), (D.v (.int .i64 (1 : Int)))]).bind fun d78 =>
 (rdT d78).bind fun r79 =>
 if List.length r79 = 2 then
 (rdA r79[0]?).bind fun c80 =>
 (rdI .i64 r79[1]?).bind fun x81 =>
 (Zh []).bind fun d82 =>
 (rdA (some d82)).bind fun c83 =>
 (Z2 [(D.agg c83), (D.v (.int .i64 (2 : Int))), (D.v (.int .i64 (5 : Int)))]).bind fun d84 =>
 (rdT d84).bind fun r85 =>
 if List.length r85 = 2 then
 (rdA r85[0]?).bind fun c86 =>
 (rdI .i64 r85[1]?).bind fun x87 =>
 (Zh []).bind fun d88 =>
 (rdA (some d88)).bind fun c89 =>
 (Z0 [(D.agg c89), (D.v (.int .i64 (65 : Int)))]).bind fun d90 =>
 (rdT d90).bind fun r91 =>
 if List.length r91 = 2 then
 (rdL r91[0]?).bind fun q92 =>
 (rdI .i64 r91[1]?).bind fun x93 =>
 cond (x75 == (0 : Int))
 (cond (x81 == (21 : Int))
 (cond (x87 == (19 : Int))
 (some (D.v (.bool (x93 == (1 : Int)))))
 (some (D.v (.bool false))))
 (some (D.v (.bool false))))
 (some (D.v (.bool false)))
 else none
 else none
 else none
 else none) := (cutK_eq m _).trans (by kernel_rfl)
theorem Zph (Z0 Z4 Z3 Z1 Z2 Zp Zn Zh : List D → Option D) (m : Nat)  : Zfp Z0 Z4 Z3 Z1 Z2 Zp Zn Zh m  =
 ((Zh []).bind fun d37 =>
 (rdA (some d37)).bind fun c38 =>
 (Z3 [(D.agg c38), (D.v (.int .i64 (2 : Int)))]).bind fun d39 =>
 (rdT d39).bind fun r40 =>
 if List.length r40 = 2 then
 (rdA r40[0]?).bind fun c41 =>
 (rdI .i64 r40[1]?).bind fun x42 =>
 if (List.length c41) = 1 then
 (Zh []).bind fun d43 =>
 (rdA (some d43)).bind fun c44 =>
 (Z3 [(D.agg c44), (D.v (.int .i64 (3 : Int)))]).bind fun d45 =>
 (rdT d45).bind fun r46 =>
 if List.length r46 = 2 then
 (rdA r46[0]?).bind fun c47 =>
 (rdI .i64 r46[1]?).bind fun x48 =>
 if (List.length c47) = 1 then
 (Zh []).bind fun d49 =>
 (rdA (some d49)).bind fun c50 =>
 (Z3 [(D.agg c50), zI]).bind fun d51 =>
 (rdT d51).bind fun r52 =>
 if List.length r52 = 2 then
 (rdA r52[0]?).bind fun c53 =>
 (rdI .i64 r52[1]?).bind fun x54 =>
 if (List.length c53) = 1 then
 (Zh []).bind fun d55 =>
 (rdA (some d55)).bind fun c56 =>
 (Z1 [(D.agg c56), (D.v (.int .i64 (3 : Int))), (D.list 2 (some 2) [(D.v (.int .i64 (1 : Int))), (D.v (.int .i64 (-1 : Int)))])]).bind fun d57 =>
 (rdT d57).bind fun r58 =>
 if List.length r58 = 3 then
 (rdA r58[0]?).bind fun c59 =>
 (rdI .i64 r58[1]?).bind fun x60 =>
 (rdI .i64 r58[2]?).bind fun x61 =>
 if (List.length c59) = 1 then
 cond (x42 != (0 : Int))
 (some (D.v (.bool false)))
 (cond (x48 != (0 : Int))
 (some (D.v (.bool false)))
 (cond (x54 != (0 : Int))
 (some (D.v (.bool false)))
 (cond (x61 != (0 : Int))
 (some (D.v (.bool false)))
 ((Zn [(D.agg c41)]).bind fun d62 =>
 (rdI .i64 (some d62)).bind fun x63 =>
 cond (x63 != (4 : Int))
 (some (D.v (.bool false)))
 ((Zn [(D.agg c47)]).bind fun d64 =>
 (rdI .i64 (some d64)).bind fun x65 =>
 cond (x65 != (0 : Int))
 (some (D.v (.bool false)))
 ((Zn [(D.agg c53)]).bind fun d66 =>
 (rdI .i64 (some d66)).bind fun x67 =>
 cond (x67 != (5 : Int))
 (some (D.v (.bool false)))
 ((Zn [(D.agg c59)]).bind fun d68 =>
 (rdI .i64 (some d68)).bind fun x69 =>
 cond (x69 != (0 : Int))
 (some (D.v (.bool false)))
 (cond (x60 != (5 : Int))
 (some (D.v (.bool false)))
 (Zfq Z0 Z4 Z3 Z1 Z2 Zp Zn Zh m )))))))))
 else none
 else none
 else none
 else none
 else none
 else none
 else none
 else none) := (cutK_eq m _).trans (by kernel_rfl)
theorem Zqs (Z0 Z4 Z3 Z1 Z2 Zp Zn Zh : List D → Option D) (m : Nat)  : Zhb Z0 Z4 Z3 Z1 Z2 Zp Zn Zh m  =
 ((Zh []).bind fun d23 =>
 (rdA (some d23)).bind fun c24 =>
 (Z4 [(D.agg c24), (D.v (.int .i64 (2 : Int)))]).bind fun d25 =>
 (rdT d25).bind fun r26 =>
 if List.length r26 = 2 then
 (rdL r26[0]?).bind fun q27 =>
 (rdI .i64 r26[1]?).bind fun x28 =>
 (Zh []).bind fun d29 =>
 (rdA (some d29)).bind fun c30 =>
 (Z4 [(D.agg c30), (D.v (.int .i64 (3 : Int)))]).bind fun d31 =>
 (rdT d31).bind fun r32 =>
 if List.length r32 = 2 then
 (rdL r32[0]?).bind fun q33 =>
 (rdI .i64 r32[1]?).bind fun x34 =>
 cond (x28 != (0 : Int))
 (some (D.v (.bool false)))
 (cond (x34 != (0 : Int))
 (some (D.v (.bool false)))
 ((Zp [(D.list q27.n q27.cap q27.cs), (D.list 4 (some 4) [zI, (D.v (.int .i64 (1 : Int))), (D.v (.int .i64 (3 : Int))), (D.v (.int .i64 (4 : Int)))])]).bind fun d35 =>
 (rdB (some d35)).bind fun b36 =>
 cond (!b36)
 (some (D.v (.bool false)))
 (cond (((q33.n : Nat) : Int) != (0 : Int))
 (some (D.v (.bool false)))
 (Zfp Z0 Z4 Z3 Z1 Z2 Zp Zn Zh m ))))
 else none
 else none) := (cutK_eq m _).trans (by kernel_rfl)
noncomputable def Zi4 (Z0 Z4 Z3 Z1 Z2 Zp Zn Zh : List D → Option D) (m : Nat)  : Option D :=
 (Zh []).bind fun d1 =>
 (rdA (some d1)).bind fun c2 =>
 (Z0 [(D.agg c2), (D.v (.int .i64 (2 : Int)))]).bind fun d3 =>
 (rdT d3).bind fun r4 =>
 if List.length r4 = 2 then
 (rdL r4[0]?).bind fun q5 =>
 (rdI .i64 r4[1]?).bind fun x6 =>
 (Zh []).bind fun d7 =>
 (rdA (some d7)).bind fun c8 =>
 (Z0 [(D.agg c8), (D.v (.int .i64 (3 : Int)))]).bind fun d9 =>
 (rdT d9).bind fun r10 =>
 if List.length r10 = 2 then
 (rdL r10[0]?).bind fun q11 =>
 (rdI .i64 r10[1]?).bind fun x12 =>
 (Zh []).bind fun d13 =>
 (rdA (some d13)).bind fun c14 =>
 (Z0 [(D.agg c14), (D.v (.int .i64 (1 : Int)))]).bind fun d15 =>
 (rdT d15).bind fun r16 =>
 if List.length r16 = 2 then
 (rdL r16[0]?).bind fun q17 =>
 (rdI .i64 r16[1]?).bind fun x18 =>
 cond (x6 != (0 : Int))
 (some (D.v (.bool false)))
 (cond (x12 != (0 : Int))
 (some (D.v (.bool false)))
 (cond (x18 != (0 : Int))
 (some (D.v (.bool false)))
 ((Zp [(D.list q5.n q5.cap q5.cs), (D.list 1 (some 1) [(D.v (.int .i64 (2 : Int)))])]).bind fun d19 =>
 (rdB (some d19)).bind fun b20 =>
 cond (!b20)
 (some (D.v (.bool false)))
 ((Zp [(D.list q11.n q11.cap q11.cs), (D.list 3 (some 3) [(D.v (.int .i64 (2 : Int))), (D.v (.int .i64 (3 : Int))), (D.v (.int .i64 (4 : Int)))])]).bind fun d21 =>
 (rdB (some d21)).bind fun b22 =>
 cond (!b22)
 (some (D.v (.bool false)))
 (cond (((q17.n : Nat) : Int) != (0 : Int))
 (some (D.v (.bool false)))
 (Zhb Z0 Z4 Z3 Z1 Z2 Zp Zn Zh m ))))))
 else none
 else none
 else none
theorem Zsf (Z0 Z4 Z3 Z1 Z2 Zp Zn Zh : List D → Option D) (m : Nat)  : funD Tryz.prog (Z2h Z0 Z4 Z3 Z1 Z2 Zp Zn Zh) m 4 Z1g Tryz.f16 [] = Zi4 Z0 Z4 Z3 Z1 Z2 Zp Zn Zh m  := by kernel_rfl
theorem Zuc : Enters Tryz.prog 16 := ⟨Tryz.f16, Tryz.func16, by kernel_rfl, by kernel_rfl⟩
theorem Zud {ds : List D} {d : D} (h : funD Tryz.prog (Z2h Zf Zu Zq Zm Zj Z2p Z3m Z3o) M 4 Z1g Tryz.f16 ds = some d) : DataSem Tryz.prog 16 ds d := data_sound (H := (Z2h Zf Zu Zq Zm Zj Z2p Z3m Z3o)) (SpOk.cons Zix (SpOk.cons Znq (SpOk.cons Znp (SpOk.cons Zl2 (SpOk.cons Zm9 (SpOk.cons Zv2 (SpOk.cons Zux (SpOk.cons Zuz SpOk.nil)))))))) mixed InlOk.nil Tryz.func16 Zuc h
noncomputable def Z1i : List D → Option D
  | [] => Zi4 Zf Zu Zq Zm Zj Z2p Z3m Z3o M 
  | _ => none
theorem Zue : ∀ ds d, Z1i ds = some d → DataSem Tryz.prog 16 ds d := by
  intro ds d h
  unfold Z1i at h
  split at h
  · exact Zud ((Zsf Zf Zu Zq Zm Zj Z2p Z3m Z3o M ).trans h)
  · cases h

end Go.Ev
