/- Functions of the given program in plain form, printed: each with the proof that it is what the evaluator comes to, and that the program function returns what it says. No conditions. -/
import Derived.Test.YtkefahdbckjajaaGreatDoorEzG8
set_option linter.unusedVariables false
set_option maxRecDepth 100000
namespace Go.Ev
open Go Go.Proofs

-- ('str', '"vidimus/vidimuslaw27.ints"')
def Z30 : FnH := ⟨[(4, ⟨(bm 35 33), [], (some 0)⟩)], [(3, ⟨(bm 3 33), [], (some 0)⟩)]⟩
noncomputable def Z50 : Hints := ⟨[], [], []⟩
noncomputable def Zqb (m : Nat) (u0_0 : Nat) (u0_1 : Option Nat) (u0_2 : List D) (u0_3 : Nat) (u0_4 : Option Nat) (u0_5 : List D) : Option D :=
 cutK m (codeK Tryz.prog Z50.sp ⟨0, [], false, []⟩ (inlK Tryz.prog Z50 m 4) m Z30 (subc [1, 1] (bodyOf Tryz.f25)) ⟨[(AV.d (D.list u0_0 u0_1 u0_2)), (AV.d (D.list u0_3 u0_4 u0_5)), .junk, .junk, .junk, .junk, .junk, .junk, .junk, .junk, .junk, .junk, .junk, .junk, .junk, .junk, .junk, .junk, .junk, .junk, .junk, .junk, .junk, .junk, .junk, .junk, .junk, .junk, .junk, .junk, .junk, .junk, .junk], []⟩
  (contK Tryz.prog Z50.sp ⟨0, [], false, []⟩ (inlK Tryz.prog Z50 m 4) m Z30 (endK Tryz.prog Tryz.f25 (fun v L => viewK L 8 v some)) []))
noncomputable def Zhm (m n0 : Nat) (y0_0 : Nat) (y0_1 : Option Nat) (y0_2 : List D) (y0_3 : Nat) (y0_4 : Option Nat) (y0_5 : List D) (y0_6 : Int) : Option D :=
 loopIter (bm 35 33) 0 0 (codeK Tryz.prog Z50.sp ⟨0, [], false, []⟩ (inlK Tryz.prog Z50 m 4) m Z30 (subc [1, 1, 0, 1, 0, 0] (bodyOf Tryz.f25))) n0 ⟨[(AV.d (D.list y0_0 y0_1 y0_2)), (AV.d (D.list y0_3 y0_4 y0_5)), .junk, .junk, .junk, (AV.d (D.v (.int .i64 y0_6))), .junk, .junk, .junk, .junk, .junk, .junk, .junk, .junk, .junk, .junk, .junk, .junk, .junk, .junk, .junk, .junk, .junk, .junk, .junk, .junk, .junk, .junk, .junk, .junk, .junk, .junk, .junk], []⟩
  (contK Tryz.prog Z50.sp ⟨0, [], false, []⟩ (inlK Tryz.prog Z50 m 4) m Z30 (endK Tryz.prog Tryz.f25 (fun v L => viewK L 8 v some)) [.block 0, .code (subc [1, 1, 1] (bodyOf Tryz.f25))])
theorem Zvs (m n0 : Nat) (y0_0 : Nat) (y0_1 : Option Nat) (y0_2 : List D) (y0_3 : Nat) (y0_4 : Option Nat) (y0_5 : List D) (y0_6 : Int) : Zhm m (n0 + 1) y0_0 y0_1 y0_2 y0_3 y0_4 y0_5 y0_6 =
 (cond (decide (y0_6 < ((y0_0 : Nat) : Int)))
 (if 0 ≤ y0_6 ∧ y0_6 < ((y0_0 : Nat) : Int) then
 (rdI .i64 y0_2[((Int.toNat y0_6) * 1)]?).bind fun x6 =>
 if 0 ≤ y0_6 ∧ y0_6 < ((y0_3 : Nat) : Int) then
 (rdI .i64 y0_5[((Int.toNat y0_6) * 1)]?).bind fun x7 =>
 cond (x6 != x7)
 (some (D.v (.bool false)))
 (Zhm m n0 y0_0 y0_1 y0_2 y0_3 y0_4 y0_5 (IntKind.wrap .i64 (y0_6 + (1 : Int))))
 else none
 else none)
 (some (D.v (.bool true)))) := by kernel_rfl
theorem Zue (m : Nat) (u0_0 : Nat) (u0_1 : Option Nat) (u0_2 : List D) (u0_3 : Nat) (u0_4 : Option Nat) (u0_5 : List D) : Zqb m u0_0 u0_1 u0_2 u0_3 u0_4 u0_5 =
 (Zhm m m u0_0 u0_1 u0_2 u0_3 u0_4 u0_5 (0 : Int)) := (cutK_eq m _).trans (by kernel_rfl)
noncomputable def Zm8 (m : Nat) (a0n : Nat) (a0c : Option Nat) (a0 : List D) (a1n : Nat) (a1c : Option Nat) (a1 : List D) : Option D :=
 cond (((a0n : Nat) : Int) != ((a1n : Nat) : Int))
 (some (D.v (.bool false)))
 (capO (a0c) fun n1 =>
 cond (((n1 : Nat) : Int) != ((a0n : Nat) : Int))
 (some (D.v (.bool false)))
 (Zqb m a0n a0c a0 a1n a1c a1))
theorem Zx4 (m : Nat) (a0n : Nat) (a0c : Option Nat) (a0 : List D) (a1n : Nat) (a1c : Option Nat) (a1 : List D) : funD Tryz.prog Z50 m 4 Z30 Tryz.f25 [(D.list a0n a0c a0), (D.list a1n a1c a1)] = Zm8 m a0n a0c a0 a1n a1c a1 := by kernel_rfl
theorem Zzh : Enters Tryz.prog 25 := ⟨Tryz.f25, Tryz.func25, by kernel_rfl, by kernel_rfl⟩
theorem Zzi {ds : List D} {d : D} (h : funD Tryz.prog Z50 M 4 Z30 Tryz.f25 ds = some d) : DataSem Tryz.prog 25 ds d := data_sound (H := Z50) SpOk.nil mixed InlOk.nil Tryz.func25 Zzh h
noncomputable def Z1h : List D → Option D
  | [.list a0n a0c a0, .list a1n a1c a1] => Zm8 M a0n a0c a0 a1n a1c a1
  | _ => none
theorem Ztc : ∀ ds d, Z1h ds = some d → DataSem Tryz.prog 25 ds d := by
  intro ds d h
  unfold Z1h at h
  split at h
  · exact Zzi ((Zx4 M _ _ _ _ _ _).trans h)
  · cases h

-- ('str', '"vidimus/vidimuslaw27.same"')
def Zde : FnH := ⟨[], []⟩
noncomputable def Zqc : Hints := ⟨[(31, Zgb)], [], []⟩
noncomputable def Zm9 (m : Nat) (a0_0n : Nat) (a0_0c : Option Nat) (a0_0 : List D) (a1_0n : Nat) (a1_0c : Option Nat) (a1_0 : List D) : Option D :=
 (Zgb [(D.agg [(D.list a0_0n a0_0c a0_0)]), (D.agg [(D.list a1_0n a1_0c a1_0)])]).bind fun d1 =>
 (rdI .i64 (some d1)).bind fun x2 =>
 cond (x2 == (1 : Int))
 (capO (a0_0c) fun n3 =>
 some (D.v (.bool (((n3 : Nat) : Int) == ((a0_0n : Nat) : Int)))))
 (some (D.v (.bool false)))
theorem Zx5 (m : Nat) (a0_0n : Nat) (a0_0c : Option Nat) (a0_0 : List D) (a1_0n : Nat) (a1_0c : Option Nat) (a1_0 : List D) : funD Tryz.prog Zqc m 4 Zde Tryz.f27 [(D.agg [(D.list a0_0n a0_0c a0_0)]), (D.agg [(D.list a1_0n a1_0c a1_0)])] = Zm9 m a0_0n a0_0c a0_0 a1_0n a1_0c a1_0 := by kernel_rfl
theorem Zzj : Enters Tryz.prog 27 := ⟨Tryz.f27, Tryz.func27, by kernel_rfl, by kernel_rfl⟩
theorem Zzk {ds : List D} {d : D} (h : funD Tryz.prog Zqc M 4 Zde Tryz.f27 ds = some d) : DataSem Tryz.prog 27 ds d := data_sound (H := Zqc) (SpOk.cons Zzf SpOk.nil) mixed InlOk.nil Tryz.func27 Zzj h
noncomputable def Z5c : List D → Option D
  | [.agg [.list a0_0n a0_0c a0_0], .agg [.list a1_0n a1_0c a1_0]] => Zm9 M a0_0n a0_0c a0_0 a1_0n a1_0c a1_0
  | _ => none
theorem Zzl : ∀ ds d, Z5c ds = some d → DataSem Tryz.prog 27 ds d := by
  intro ds d h
  unfold Z5c at h
  split at h
  · exact Zzk ((Zx5 M _ _ _ _ _ _).trans h)
  · cases h

-- ('str', '"vidimus/vidimuslaw27.lives"')
def Z1f : FnH := ⟨[], [(6, ⟨(bm 0 176), [], (some 0)⟩), (10, ⟨(bm 0 176), [], (some 0)⟩), (16, ⟨(bm 0 176), [], (some 0)⟩)]⟩
noncomputable def Z2q (Z0 Z4 Zd Z9 Z2 Z6 Zi Zb : List D → Option D) : Hints := ⟨[(18, Z0), (19, Z4), (20, Zd), (21, Z9), (23, Z2), (25, Z6), (36, Zi), (61, Zb)], [], []⟩
noncomputable def Zj3 (Z0 Z4 Zd Z9 Z2 Z6 Zi Zb : List D → Option D) (m : Nat)  : Option D :=
 cutK m (codeK Tryz.prog (Z2q Z0 Z4 Zd Z9 Z2 Z6 Zi Zb).sp ⟨0, [], false, []⟩ (inlK Tryz.prog (Z2q Z0 Z4 Zd Z9 Z2 Z6 Zi Zb) m 4) m Z1f (subc [1, 1, 1, 1, 1] (bodyOf Tryz.f16)) ⟨[.junk, .junk, .junk, .junk, .junk, .junk, .junk, .junk, .junk, .junk, .junk, .junk, .junk, .junk, .junk, .junk, .junk, .junk, .junk, .junk, .junk, .junk, .junk, .junk, .junk, .junk, .junk, .junk, .junk, .junk, .junk, .junk, .junk, .junk, .junk, .junk, .junk, .junk, .junk, .junk, .junk, .junk, .junk, .junk, .junk, .junk, .junk, .junk, .junk, .junk, .junk, .junk, .junk, .junk, .junk, .junk, .junk, .junk, .junk, .junk, .junk, .junk, .junk, .junk, .junk, .junk, .junk, .junk, .junk, .junk, .junk, .junk, .junk, .junk, .junk, .junk, .junk, .junk, .junk, .junk, .junk, .junk, .junk, .junk, .junk, .junk, .junk, .junk, .junk, .junk, .junk, .junk, .junk, .junk, .junk, .junk, .junk, .junk, .junk, .junk, .junk, .junk, .junk, .junk, .junk, .junk, .junk, .junk, .junk, .junk, .junk, .junk, .junk, .junk, .junk, .junk, .junk, .junk, .junk, .junk, .junk, .junk, .junk, .junk, .junk, .junk, .junk, .junk, .junk, .junk, .junk, .junk, .junk, .junk, .junk, .junk, .junk, .junk, .junk, .junk, .junk, .junk, .junk, .junk, .junk, .junk, .junk, .junk, .junk, .junk, .junk, .junk, .junk, .junk, .junk, .junk, .junk, .junk, .junk, .junk, .junk, .junk, .junk, .junk, .junk, .junk, .junk, .junk, .junk, .junk, .junk, .junk, .junk, .junk, .junk, .junk], []⟩
  (contK Tryz.prog (Z2q Z0 Z4 Zd Z9 Z2 Z6 Zi Zb).sp ⟨0, [], false, []⟩ (inlK Tryz.prog (Z2q Z0 Z4 Zd Z9 Z2 Z6 Zi Zb) m 4) m Z1f (endK Tryz.prog Tryz.f16 (fun v L => viewK L 8 v some)) []))
noncomputable def Zh2 (Z0 Z4 Zd Z9 Z2 Z6 Zi Zb : List D → Option D) (m : Nat)  : Option D :=
 cutK m (codeK Tryz.prog (Z2q Z0 Z4 Zd Z9 Z2 Z6 Zi Zb).sp ⟨0, [], false, []⟩ (inlK Tryz.prog (Z2q Z0 Z4 Zd Z9 Z2 Z6 Zi Zb) m 4) m Z1f (subc [1, 1, 1, 1, 1, 1, 1, 1] (bodyOf Tryz.f16)) ⟨[.junk, .junk, .junk, .junk, .junk, .junk, .junk, .junk, .junk, .junk, .junk, .junk, .junk, .junk, .junk, .junk, .junk, .junk, .junk, .junk, .junk, .junk, .junk, .junk, .junk, .junk, .junk, .junk, .junk, .junk, .junk, .junk, .junk, .junk, .junk, .junk, .junk, .junk, .junk, .junk, .junk, .junk, .junk, .junk, .junk, .junk, .junk, .junk, .junk, .junk, .junk, .junk, .junk, .junk, .junk, .junk, .junk, .junk, .junk, .junk, .junk, .junk, .junk, .junk, .junk, .junk, .junk, .junk, .junk, .junk, .junk, .junk, .junk, .junk, .junk, .junk, .junk, .junk, .junk, .junk, .junk, .junk, .junk, .junk, .junk, .junk, .junk, .junk, .junk, .junk, .junk, .junk, .junk, .junk, .junk, .junk, .junk, .junk, .junk, .junk, .junk, .junk, .junk, .junk, .junk, .junk, .junk, .junk, .junk, .junk, .junk, .junk, .junk, .junk, .junk, .junk, .junk, .junk, .junk, .junk, .junk, .junk, .junk, .junk, .junk, .junk, .junk, .junk, .junk, .junk, .junk, .junk, .junk, .junk, .junk, .junk, .junk, .junk, .junk, .junk, .junk, .junk, .junk, .junk, .junk, .junk, .junk, .junk, .junk, .junk, .junk, .junk, .junk, .junk, .junk, .junk, .junk, .junk, .junk, .junk, .junk, .junk, .junk, .junk, .junk, .junk, .junk, .junk, .junk, .junk, .junk, .junk, .junk, .junk, .junk, .junk], []⟩
  (contK Tryz.prog (Z2q Z0 Z4 Zd Z9 Z2 Z6 Zi Zb).sp ⟨0, [], false, []⟩ (inlK Tryz.prog (Z2q Z0 Z4 Zd Z9 Z2 Z6 Zi Zb) m 4) m Z1f (endK Tryz.prog Tryz.f16 (fun v L => viewK L 8 v some)) []))
noncomputable def Zh3 (Z0 Z4 Zd Z9 Z2 Z6 Zi Zb : List D → Option D) (m : Nat)  : Option D :=
 cutK m (codeK Tryz.prog (Z2q Z0 Z4 Zd Z9 Z2 Z6 Zi Zb).sp ⟨0, [], false, []⟩ (inlK Tryz.prog (Z2q Z0 Z4 Zd Z9 Z2 Z6 Zi Zb) m 4) m Z1f (subc [1, 1, 1, 1, 1, 1, 1, 1, 1, 1, 1, 1, 1] (bodyOf Tryz.f16)) ⟨[.junk, .junk, .junk, .junk, .junk, .junk, .junk, .junk, .junk, .junk, .junk, .junk, .junk, .junk, .junk, .junk, .junk, .junk, .junk, .junk, .junk, .junk, .junk, .junk, .junk, .junk, .junk, .junk, .junk, .junk, .junk, .junk, .junk, .junk, .junk, .junk, .junk, .junk, .junk, .junk, .junk, .junk, .junk, .junk, .junk, .junk, .junk, .junk, .junk, .junk, .junk, .junk, .junk, .junk, .junk, .junk, .junk, .junk, .junk, .junk, .junk, .junk, .junk, .junk, .junk, .junk, .junk, .junk, .junk, .junk, .junk, .junk, .junk, .junk, .junk, .junk, .junk, .junk, .junk, .junk, .junk, .junk, .junk, .junk, .junk, .junk, .junk, .junk, .junk, .junk, .junk, .junk, .junk, .junk, .junk, .junk, .junk, .junk, .junk, .junk, .junk, .junk, .junk, .junk, .junk, .junk, .junk, .junk, .junk, .junk, .junk, .junk, .junk, .junk, .junk, .junk, .junk, .junk, .junk, .junk, .junk, .junk, .junk, .junk, .junk, .junk, .junk, .junk, .junk, .junk, .junk, .junk, .junk, .junk, .junk, .junk, .junk, .junk, .junk, .junk, .junk, .junk, .junk, .junk, .junk, .junk, .junk, .junk, .junk, .junk, .junk, .junk, .junk, .junk, .junk, .junk, .junk, .junk, .junk, .junk, .junk, .junk, .junk, .junk, .junk, .junk, .junk, .junk, .junk, .junk, .junk, .junk, .junk, .junk, .junk, .junk], []⟩
  (contK Tryz.prog (Z2q Z0 Z4 Zd Z9 Z2 Z6 Zi Zb).sp ⟨0, [], false, []⟩ (inlK Tryz.prog (Z2q Z0 Z4 Zd Z9 Z2 Z6 Zi Zb) m 4) m Z1f (endK Tryz.prog Tryz.f16 (fun v L => viewK L 8 v some)) []))
theorem Zrw (Z0 Z4 Zd Z9 Z2 Z6 Zi Zb : List D → Option D) (m : Nat)  : Zh3 Z0 Z4 Zd Z9 Z2 Z6 Zi Zb m  =
 ((Zb []).bind fun d70 =>
 (rdA (some d70)).bind fun c71 =>
 (Z2 [(D.agg c71), (D.v (.int .i64 (2 : Int))), (D.v (.int .i64 (2 : Int)))]).bind fun d72 =>
 (rdT d72).bind fun r73 =>
 if List.length r73 = 2 then
 (rdA r73[0]?).bind fun c74 =>
 (rdI .i64 r73[1]?).bind fun x75 =>
 (Zb []).bind fun d76 =>
 (rdA (some d76)).bind fun c77 =>
 (Z2 [(D.agg c77), (D.v (.int .i64 (2 : Int))), (D.v (.int .i64 (1 : Int)))]).bind fun d78 =>
 (rdT d78).bind fun r79 =>
 if List.length r79 = 2 then
 (rdA r79[0]?).bind fun c80 =>
 (rdI .i64 r79[1]?).bind fun x81 =>
 (Zb []).bind fun d82 =>
 (rdA (some d82)).bind fun c83 =>
 (Z2 [(D.agg c83), (D.v (.int .i64 (2 : Int))), (D.v (.int .i64 (5 : Int)))]).bind fun d84 =>
 (rdT d84).bind fun r85 =>
 if List.length r85 = 2 then
 (rdA r85[0]?).bind fun c86 =>
 (rdI .i64 r85[1]?).bind fun x87 =>
 (Zb []).bind fun d88 =>
 (rdA (some d88)).bind fun c89 =>
 (Z0 [(D.agg c89), (D.v (.int .i64 (65 : Int)))]).bind fun d90 =>
 (rdT d90).bind fun r91 =>
 if List.length r91 = 2 then
 (rdL r91[0]?).bind fun q92 =>
 (rdI .i64 r91[1]?).bind fun x93 =>
 cond (x75 == (0 : Int))
 (cond (x81 == (21 : Int))
 (cond (x87 == (19 : Int))
 (some (D.v (.bool (x93 == (1 : Int)))))
 (some (D.v (.bool false))))
 (some (D.v (.bool false))))
 (some (D.v (.bool false)))
 else none
 else none
 else none
 else none) := (cutK_eq m _).trans (by kernel_rfl)
theorem Zrx (Z0 Z4 Zd Z9 Z2 Z6 Zi Zb : List D → Option D) (m : Nat)  : Zh2 Z0 Z4 Zd Z9 Z2 Z6 Zi Zb m  =
 ((Zb []).bind fun d37 =>
 (rdA (some d37)).bind fun c38 =>
 (Zd [(D.agg c38), (D.v (.int .i64 (2 : Int)))]).bind fun d39 =>
 (rdT d39).bind fun r40 =>
 if List.length r40 = 2 then
 (rdA r40[0]?).bind fun c41 =>
 (rdI .i64 r40[1]?).bind fun x42 =>
 if (List.length c41) = 1 then
 (Zb []).bind fun d43 =>
 (rdA (some d43)).bind fun c44 =>
 (Zd [(D.agg c44), (D.v (.int .i64 (3 : Int)))]).bind fun d45 =>
 (rdT d45).bind fun r46 =>
 if List.length r46 = 2 then
 (rdA r46[0]?).bind fun c47 =>
 (rdI .i64 r46[1]?).bind fun x48 =>
 if (List.length c47) = 1 then
 (Zb []).bind fun d49 =>
 (rdA (some d49)).bind fun c50 =>
 (Zd [(D.agg c50), zI]).bind fun d51 =>
 (rdT d51).bind fun r52 =>
 if List.length r52 = 2 then
 (rdA r52[0]?).bind fun c53 =>
 (rdI .i64 r52[1]?).bind fun x54 =>
 if (List.length c53) = 1 then
 (Zb []).bind fun d55 =>
 (rdA (some d55)).bind fun c56 =>
 (Z9 [(D.agg c56), (D.v (.int .i64 (3 : Int))), (D.list 2 (some 2) [(D.v (.int .i64 (1 : Int))), (D.v (.int .i64 (-1 : Int)))])]).bind fun d57 =>
 (rdT d57).bind fun r58 =>
 if List.length r58 = 3 then
 (rdA r58[0]?).bind fun c59 =>
 (rdI .i64 r58[1]?).bind fun x60 =>
 (rdI .i64 r58[2]?).bind fun x61 =>
 if (List.length c59) = 1 then
 cond (x42 != (0 : Int))
 (some (D.v (.bool false)))
 (cond (x48 != (0 : Int))
 (some (D.v (.bool false)))
 (cond (x54 != (0 : Int))
 (some (D.v (.bool false)))
 (cond (x61 != (0 : Int))
 (some (D.v (.bool false)))
 ((Zi [(D.agg c41)]).bind fun d62 =>
 (rdI .i64 (some d62)).bind fun x63 =>
 cond (x63 != (4 : Int))
 (some (D.v (.bool false)))
 ((Zi [(D.agg c47)]).bind fun d64 =>
 (rdI .i64 (some d64)).bind fun x65 =>
 cond (x65 != (0 : Int))
 (some (D.v (.bool false)))
 ((Zi [(D.agg c53)]).bind fun d66 =>
 (rdI .i64 (some d66)).bind fun x67 =>
 cond (x67 != (5 : Int))
 (some (D.v (.bool false)))
 ((Zi [(D.agg c59)]).bind fun d68 =>
 (rdI .i64 (some d68)).bind fun x69 =>
 cond (x69 != (0 : Int))
 (some (D.v (.bool false)))
 (cond (x60 != (5 : Int))
 (some (D.v (.bool false)))
 (Zh3 Z0 Z4 Zd Z9 Z2 Z6 Zi Zb m )))))))))
 else none
 else none
 else none
 else none
 else none
 else none
 else none
 else none) := (cutK_eq m _).trans (by kernel_rfl)
theorem Ztd (Z0 Z4 Zd Z9 Z2 Z6 Zi Zb : List D → Option D) (m : Nat)  : Zj3 Z0 Z4 Zd Z9 Z2 Z6 Zi Zb m  =
 ((Zb []).bind fun d23 =>
 (rdA (some d23)).bind fun c24 =>
 (Z4 [(D.agg c24), (D.v (.int .i64 (2 : Int)))]).bind fun d25 =>
 (rdT d25).bind fun r26 =>
 if List.length r26 = 2 then
 (rdL r26[0]?).bind fun q27 =>
 (rdI .i64 r26[1]?).bind fun x28 =>
 (Zb []).bind fun d29 =>
 (rdA (some d29)).bind fun c30 =>
 (Z4 [(D.agg c30), (D.v (.int .i64 (3 : Int)))]).bind fun d31 =>
 (rdT d31).bind fun r32 =>
 if List.length r32 = 2 then
 (rdL r32[0]?).bind fun q33 =>
 (rdI .i64 r32[1]?).bind fun x34 =>
 cond (x28 != (0 : Int))
 (some (D.v (.bool false)))
 (cond (x34 != (0 : Int))
 (some (D.v (.bool false)))
 ((Z6 [(D.list q27.n q27.cap q27.cs), (D.list 4 (some 4) [zI, (D.v (.int .i64 (1 : Int))), (D.v (.int .i64 (3 : Int))), (D.v (.int .i64 (4 : Int)))])]).bind fun d35 =>
 (rdB (some d35)).bind fun b36 =>
 cond (!b36)
 (some (D.v (.bool false)))
 (cond (((q33.n : Nat) : Int) != (0 : Int))
 (some (D.v (.bool false)))
 (Zh2 Z0 Z4 Zd Z9 Z2 Z6 Zi Zb m ))))
 else none
 else none) := (cutK_eq m _).trans (by kernel_rfl)
noncomputable def Zk2 (Z0 Z4 Zd Z9 Z2 Z6 Zi Zb : List D → Option D) (m : Nat)  : Option D :=
 (Zb []).bind fun d1 =>
 (rdA (some d1)).bind fun c2 =>
 (Z0 [(D.agg c2), (D.v (.int .i64 (2 : Int)))]).bind fun d3 =>
 (rdT d3).bind fun r4 =>
 if List.length r4 = 2 then
 (rdL r4[0]?).bind fun q5 =>
 (rdI .i64 r4[1]?).bind fun x6 =>
 (Zb []).bind fun d7 =>
 (rdA (some d7)).bind fun c8 =>
 (Z0 [(D.agg c8), (D.v (.int .i64 (3 : Int)))]).bind fun d9 =>
 (rdT d9).bind fun r10 =>
 if List.length r10 = 2 then
 (rdL r10[0]?).bind fun q11 =>
 (rdI .i64 r10[1]?).bind fun x12 =>
 (Zb []).bind fun d13 =>
 (rdA (some d13)).bind fun c14 =>
 (Z0 [(D.agg c14), (D.v (.int .i64 (1 : Int)))]).bind fun d15 =>
 (rdT d15).bind fun r16 =>
 if List.length r16 = 2 then
 (rdL r16[0]?).bind fun q17 =>
 (rdI .i64 r16[1]?).bind fun x18 =>
 cond (x6 != (0 : Int))
 (some (D.v (.bool false)))
 (cond (x12 != (0 : Int))
 (some (D.v (.bool false)))
 (cond (x18 != (0 : Int))
 (some (D.v (.bool false)))
 ((Z6 [(D.list q5.n q5.cap q5.cs), (D.list 1 (some 1) [(D.v (.int .i64 (2 : Int)))])]).bind fun d19 =>
 (rdB (some d19)).bind fun b20 =>
 cond (!b20)
 (some (D.v (.bool false)))
 ((Z6 [(D.list q11.n q11.cap q11.cs), (D.list 3 (some 3) [(D.v (.int .i64 (2 : Int))), (D.v (.int .i64 (3 : Int))), (D.v (.int .i64 (4 : Int)))])]).bind fun d21 =>
 (rdB (some d21)).bind fun b22 =>
 cond (!b22)
 (some (D.v (.bool false)))
 (cond (((q17.n : Nat) : Int) != (0 : Int))
 (some (D.v (.bool false)))
 (Zj3 Z0 Z4 Zd Z9 Z2 Z6 Zi Zb m ))))))
 else none
 else none
 else none
theorem Zvt (Z0 Z4 Zd Z9 Z2 Z6 Zi Zb : List D → Option D) (m : Nat)  : funD Tryz.prog (Z2q Z0 Z4 Zd Z9 Z2 Z6 Zi Zb) m 4 Z1f Tryz.f16 [] = Zk2 Z0 Z4 Zd Z9 Z2 Z6 Zi Zb m  := by kernel_rfl
theorem Zyh : Enters Tryz.prog 16 := ⟨Tryz.f16, Tryz.func16, by kernel_rfl, by kernel_rfl⟩
theorem Zyi {ds : List D} {d : D} (h : funD Tryz.prog (Z2q Ze Zz Z1x Z1t Zp Z1h Z43 Z49) M 4 Z1f Tryz.f16 ds = some d) : DataSem Tryz.prog 16 ds d := data_sound (H := (Z2q Ze Zz Z1x Z1t Zp Z1h Z43 Z49)) (SpOk.cons Zkx (SpOk.cons Zq5 (SpOk.cons Zws (SpOk.cons Zu7 (SpOk.cons Zom (SpOk.cons Ztc (SpOk.cons Zz9 (SpOk.cons Zzg SpOk.nil)))))))) mixed InlOk.nil Tryz.func16 Zyh h
noncomputable def Z4o : List D → Option D
  | [] => Zk2 Ze Zz Z1x Z1t Zp Z1h Z43 Z49 M 
  | _ => none
theorem Zyj : ∀ ds d, Z4o ds = some d → DataSem Tryz.prog 16 ds d := by
  intro ds d h
  unfold Z4o at h
  split at h
  · exact Zyi ((Zvt Ze Zz Z1x Z1t Zp Z1h Z43 Z49 M ).trans h)
  · cases h

end Go.Ev
