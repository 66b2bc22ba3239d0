/- Functions of the given program in plain form, printed: each with the proof that it is what the evaluator comes to, and that the program function returns what it says. No conditions. -/
import Derived.Test.YtkefahdbckjajaaGreatDoorEzK1
import Derived.Test.YtkefahdbckjajaaGreatDoorEzK2
set_option linter.unusedVariables false
set_option maxRecDepth 100000
namespace Go.Ev
open Go Go.Proofs

-- ('str', '"vidimus/oids.Check"')
def Z1o : FnH := ⟨[(6, ⟨(bm 1924145348608 47), [], (some 1)⟩)], [(3, ⟨(bm 2 47), [], (some 1)⟩), (5, ⟨(bm 2 47), [], (some 1)⟩)]⟩
noncomputable def Z2z : Hints := ⟨[], [], []⟩
noncomputable def Znc (m : Nat) (u0_0 : List D) : Option D :=
 cutK m (codeK Tryz.prog Z2z.sp ⟨0, [], false, []⟩ (inlK Tryz.prog Z2z m 4) m Z1o (subc [1, 1] (bodyOf Tryz.f109)) ⟨[.junk, (AV.ptr 0 0), .junk, .junk, .junk, .junk, .junk, .junk, .junk, .junk, .junk, .junk, .junk, .junk, .junk, .junk, .junk, .junk, .junk, .junk, .junk, .junk, .junk, .junk, .junk, .junk, .junk, .junk, .junk, .junk, .junk, .junk, .junk, .junk, .junk, .junk, .junk, .junk, .junk, .junk, .junk, .junk, .junk, .junk, .junk, .junk, .junk], [(Blk.d 17 u0_0)]⟩
  (contK Tryz.prog Z2z.sp ⟨0, [], false, []⟩ (inlK Tryz.prog Z2z m 4) m Z1o (endK Tryz.prog Tryz.f109 (fun v L => viewK L 8 v some)) []))
noncomputable def Zee (m : Nat) (u1_0 : List D) : Option D :=
 cutK m (codeK Tryz.prog Z2z.sp ⟨0, [], false, []⟩ (inlK Tryz.prog Z2z m 4) m Z1o (subc [1, 1, 1] (bodyOf Tryz.f109)) ⟨[.junk, (AV.ptr 0 0), .junk, .junk, .junk, .junk, .junk, .junk, .junk, .junk, .junk, .junk, .junk, .junk, .junk, .junk, .junk, .junk, .junk, .junk, .junk, .junk, .junk, .junk, .junk, .junk, .junk, .junk, .junk, .junk, .junk, .junk, .junk, .junk, .junk, .junk, .junk, .junk, .junk, .junk, .junk, .junk, .junk, .junk, .junk, .junk, .junk], [(Blk.d 17 u1_0)]⟩
  (contK Tryz.prog Z2z.sp ⟨0, [], false, []⟩ (inlK Tryz.prog Z2z m 4) m Z1o (endK Tryz.prog Tryz.f109 (fun v L => viewK L 8 v some)) []))
noncomputable def Zft (m n0 : Nat) (y0_0 : Nat) (y0_1 : Nat) (y0_2 : Int) (y0_3 : Int) (y0_4 : List D) : Option D :=
 loopIter (bm 1924145348608 47) 0 1 (codeK Tryz.prog Z2z.sp ⟨0, [], false, []⟩ (inlK Tryz.prog Z2z m 4) m Z1o (subc [1, 1, 1, 0, 1, 0, 0] (bodyOf Tryz.f109))) n0 ⟨[.junk, .junk, .junk, .junk, .junk, .junk, .junk, .junk, .junk, .junk, .junk, .junk, .junk, .junk, .junk, .junk, .junk, .junk, .junk, .junk, .junk, .junk, .junk, .junk, .junk, .junk, .junk, .junk, .junk, .junk, .junk, .junk, .junk, .junk, .junk, .junk, .junk, .junk, (AV.sl 0 y0_0 y0_1 (some y0_1) 1), (AV.d (D.v (.int .i64 y0_2))), (AV.d (D.v (.int .i64 y0_3))), .junk, .junk, .junk, .junk, .junk, .junk], [(Blk.d 17 y0_4)]⟩
  (contK Tryz.prog Z2z.sp ⟨0, [], false, []⟩ (inlK Tryz.prog Z2z m 4) m Z1o (endK Tryz.prog Tryz.f109 (fun v L => viewK L 8 v some)) [.block 0, .code (subc [1, 1, 1, 1] (bodyOf Tryz.f109))])
theorem Zrx (m n0 : Nat) (y0_0 : Nat) (y0_1 : Nat) (y0_2 : Int) (y0_3 : Int) (y0_4 : List D) : Zft m (n0 + 1) y0_0 y0_1 y0_2 y0_3 y0_4 =
 (cond (decide (y0_3 < y0_2))
 (if 0 ≤ y0_3 ∧ y0_3 < ((y0_1 : Nat) : Int) then
 (rdI .u32 y0_4[(y0_0 + ((Int.toNat y0_3) * 1))]?).bind fun x10 =>
 cond (x10 != (0 : Int))
 (some (D.v (.int .i64 (1 : Int))))
 (Zft m n0 y0_0 y0_1 y0_2 (IntKind.wrap .i64 (y0_3 + (1 : Int))) y0_4)
 else none)
 (some zI)) := by kernel_rfl
theorem Zqw (m : Nat) (u1_0 : List D) : Zee m u1_0 =
 ((rdI .u8 u1_0[0]?).bind fun x7 =>
 if 0 ≤ x7 ∧ x7 ≤ (16 : Int) then
 Zft m m (1 + ((Int.toNat x7) * 1)) (16 - (Int.toNat x7)) (((16 - (Int.toNat x7)) : Nat) : Int) (0 : Int) u1_0
 else none) := (cutK_eq m _).trans (by kernel_rfl)
theorem Zqx (m : Nat) (u0_0 : List D) : Znc m u0_0 =
 ((rdI .u32 u0_0[1]?).bind fun x4 =>
 cond (decide (x4 < (2 : Int)))
 ((rdI .u32 u0_0[2]?).bind fun x5 =>
 cond (decide (x5 > (39 : Int)))
 (some (D.v (.int .i64 (1 : Int))))
 ((rdI .u32 u0_0[2]?).bind fun x6 =>
 cond (decide (x6 > (4294967215 : Int)))
 (some (D.v (.int .i64 (1 : Int))))
 (Zee m u0_0)))
 ((rdI .u32 u0_0[2]?).bind fun x11 =>
 cond (decide (x11 > (4294967215 : Int)))
 (some (D.v (.int .i64 (1 : Int))))
 (Zee m u0_0))) := (cutK_eq m _).trans (by kernel_rfl)
noncomputable def Zjw (m : Nat) (a0 : List D) : Option D :=
 if (List.length a0) = 17 then
 (rdI .u8 a0[0]?).bind fun x1 =>
 cond (decide (x1 < (2 : Int)))
 (some (D.v (.int .i64 (1 : Int))))
 ((rdI .u8 a0[0]?).bind fun x2 =>
 cond (decide (x2 > (16 : Int)))
 (some (D.v (.int .i64 (1 : Int))))
 ((rdI .u32 a0[1]?).bind fun x3 =>
 cond (decide (x3 > (2 : Int)))
 (some (D.v (.int .i64 (1 : Int))))
 (Znc m a0)))
 else none
theorem Zss (m : Nat) (a0 : List D) : funD Tryz.prog Z2z m 4 Z1o Tryz.f109 [(D.agg a0)] = Zjw m a0 := by kernel_rfl
theorem Zup : Enters Tryz.prog 109 := ⟨Tryz.f109, Tryz.func109, by kernel_rfl, by kernel_rfl⟩
theorem Zuq {ds : List D} {d : D} (h : funD Tryz.prog Z2z M 4 Z1o Tryz.f109 ds = some d) : DataSem Tryz.prog 109 ds d := data_sound (H := Z2z) SpOk.nil mixed InlOk.nil Tryz.func109 Zup h
noncomputable def Z7a : List D → Option D
  | [.agg a0] => Zjw M a0
  | _ => none
theorem Zq9 : ∀ ds d, Z7a ds = some d → DataSem Tryz.prog 109 ds d := by
  intro ds d h
  unfold Z7a at h
  split at h
  · exact Zuq ((Zss M _).trans h)
  · cases h

-- ('str', '"cmp.Compare[uint32]"')
def Z3s : FnH := ⟨[], []⟩
def Zaf : FnH := ⟨[], []⟩
noncomputable def Zbq : Hints := ⟨[], [(157, Tryz.f157, Zaf)], []⟩
noncomputable def Z62 (m : Nat) (a0 : Int) (a1 : Int) : Option D :=
 cond (a0 != a0)
 (cond (a1 != a1)
 (some zI)
 (some (D.v (.int .i64 (-1 : Int)))))
 (cond (a1 != a1)
 (some (D.v (.int .i64 (1 : Int))))
 (cond (decide (a0 < a1))
 (some (D.v (.int .i64 (-1 : Int))))
 (cond (decide (a0 > a1))
 (some (D.v (.int .i64 (1 : Int))))
 (some zI))))
theorem Zlc (m : Nat) (a0 : Int) (a1 : Int) : funD Tryz.prog Zbq m 4 Z3s Tryz.f135 [(D.v (.int .u32 a0)), (D.v (.int .u32 a1))] = Z62 m a0 a1 := by kernel_rfl
theorem Znd : Enters Tryz.prog 135 := ⟨Tryz.f135, Tryz.func135, by kernel_rfl, by kernel_rfl⟩
theorem Zne {ds : List D} {d : D} (h : funD Tryz.prog Zbq M 4 Z3s Tryz.f135 ds = some d) : DataSem Tryz.prog 135 ds d := data_sound (H := Zbq) SpOk.nil mixed (InlOk.cons Tryz.func157 Zou InlOk.nil) Tryz.func135 Znd h
noncomputable def Z45 : List D → Option D
  | [.v (.int .u32 a0), .v (.int .u32 a1)] => Z62 M a0 a1
  | _ => none
theorem Znf : ∀ ds d, Z45 ds = some d → DataSem Tryz.prog 135 ds d := by
  intro ds d h
  unfold Z45 at h
  split at h
  · exact Zne ((Zlc M _ _).trans h)
  · cases h

-- ('str', '"slices.Compare[[]uint32,uint32]"')
def Zw : FnH := ⟨[(2, ⟨(bm 3587 36), [], (some 0)⟩)], []⟩
noncomputable def Z1f : Hints := ⟨[(135, Z45)], [], []⟩
noncomputable def Z2w (m n0 : Nat) (y0_0 : Nat) (y0_1 : Option Nat) (y0_2 : List D) (y0_3 : Nat) (y0_4 : Option Nat) (y0_5 : List D) (y0_6 : Int) (y0_7 : Int) : Option D :=
 loopIter (bm 3587 36) 0 0 (codeK Tryz.prog Z1f.sp ⟨0, [], false, []⟩ (inlK Tryz.prog Z1f m 4) m Zw (subc [1, 0, 1, 0, 0] (bodyOf Tryz.f111))) n0 ⟨[(AV.d (D.list y0_0 y0_1 y0_2)), (AV.d (D.list y0_3 y0_4 y0_5)), .junk, .junk, .junk, .junk, .junk, .junk, .junk, (AV.d (D.list y0_0 y0_1 y0_2)), (AV.d (D.v (.int .i64 y0_6))), (AV.d (D.v (.int .i64 y0_7))), .junk, .junk, .junk, .junk, .junk, .junk, .junk, .junk, .junk, .junk, .junk, .junk, .junk, .junk, .junk, .junk, .junk, .junk, .junk, .junk, .junk, .junk, .junk, .junk], []⟩
  (contK Tryz.prog Z1f.sp ⟨0, [], false, []⟩ (inlK Tryz.prog Z1f m 4) m Zw (endK Tryz.prog Tryz.f111 (fun v L => viewK L 8 v some)) [.block 0, .code (subc [1, 1] (bodyOf Tryz.f111))])
theorem Zdq (m n0 : Nat) (y0_0 : Nat) (y0_1 : Option Nat) (y0_2 : List D) (y0_3 : Nat) (y0_4 : Option Nat) (y0_5 : List D) (y0_6 : Int) (y0_7 : Int) : Z2w m (n0 + 1) y0_0 y0_1 y0_2 y0_3 y0_4 y0_5 y0_6 y0_7 =
 (cond (decide (y0_7 < y0_6))
 (if 0 ≤ y0_7 ∧ y0_7 < ((y0_0 : Nat) : Int) then
 (rdI .u32 y0_2[((Int.toNat y0_7) * 1)]?).bind fun x9 =>
 cond (decide (y0_7 ≥ ((y0_3 : Nat) : Int)))
 (some (D.v (.int .i64 (1 : Int))))
 (if 0 ≤ y0_7 ∧ y0_7 < ((y0_3 : Nat) : Int) then
 (rdI .u32 y0_5[((Int.toNat y0_7) * 1)]?).bind fun x10 =>
 (Z45 [(D.v (.int .u32 x9)), (D.v (.int .u32 x10))]).bind fun d11 =>
 (rdI .i64 (some d11)).bind fun x12 =>
 cond (x12 != (0 : Int))
 (some (D.v (.int .i64 x12)))
 (Z2w m n0 y0_0 y0_1 y0_2 y0_3 y0_4 y0_5 y0_6 (IntKind.wrap .i64 (y0_7 + (1 : Int))))
 else none)
 else none)
 (cond (decide (((y0_0 : Nat) : Int) < ((y0_3 : Nat) : Int)))
 (some (D.v (.int .i64 (-1 : Int))))
 (some zI))) := by kernel_rfl
noncomputable def Z6w (m : Nat) (a0n : Nat) (a0c : Option Nat) (a0 : List D) (a1n : Nat) (a1c : Option Nat) (a1 : List D) : Option D :=
 Z2w m m a0n a0c a0 a1n a1c a1 ((a0n : Nat) : Int) (0 : Int)
theorem Zef (m : Nat) (a0n : Nat) (a0c : Option Nat) (a0 : List D) (a1n : Nat) (a1c : Option Nat) (a1 : List D) : funD Tryz.prog Z1f m 4 Zw Tryz.f111 [(D.list a0n a0c a0), (D.list a1n a1c a1)] = Z6w m a0n a0c a0 a1n a1c a1 := by kernel_rfl
theorem Zfj : Enters Tryz.prog 111 := ⟨Tryz.f111, Tryz.func111, by kernel_rfl, by kernel_rfl⟩
theorem Zfk {ds : List D} {d : D} (h : funD Tryz.prog Z1f M 4 Zw Tryz.f111 ds = some d) : DataSem Tryz.prog 111 ds d := data_sound (H := Z1f) (SpOk.cons Znf SpOk.nil) mixed InlOk.nil Tryz.func111 Zfj h
noncomputable def Z26 : List D → Option D
  | [.list a0n a0c a0, .list a1n a1c a1] => Z6w M a0n a0c a0 a1n a1c a1
  | _ => none
theorem Zfl : ∀ ds d, Z26 ds = some d → DataSem Tryz.prog 111 ds d := by
  intro ds d h
  unfold Z26 at h
  split at h
  · exact Zfk ((Zef M _ _ _ _ _ _).trans h)
  · cases h

-- ('str', '"vidimus/oids.Compare"')
def Z7q : FnH := ⟨[], []⟩
def Zj3 : FnH := ⟨[], []⟩
noncomputable def Zkc : Hints := ⟨[(111, Z26)], [(112, Tryz.f112, Zj3)], []⟩
noncomputable def Zfu (m : Nat) (a0 : List D) (a1 : List D) : Option D :=
 if (List.length a0) = 17 then
 if (List.length a1) = 17 then
 (rdI .u8 a0[0]?).bind fun x1 =>
 if 0 ≤ (mm true (IntKind.wrap .i64 x1) (16 : Int)) ∧ (mm true (IntKind.wrap .i64 x1) (16 : Int)) ≤ (16 : Int) then
 (rdI .u8 a1[0]?).bind fun x2 =>
 if 0 ≤ (mm true (IntKind.wrap .i64 x2) (16 : Int)) ∧ (mm true (IntKind.wrap .i64 x2) (16 : Int)) ≤ (16 : Int) then
 if (1 + (((Int.toNat (mm true (IntKind.wrap .i64 x1) (16 : Int))) - 0) * 1)) ≤ 17 then
 if (1 + (((Int.toNat (mm true (IntKind.wrap .i64 x2) (16 : Int))) - 0) * 1)) ≤ 17 then
 (Z26 [(D.list ((Int.toNat (mm true (IntKind.wrap .i64 x1) (16 : Int))) - 0) (some 16) (cutL 17 a0 1 (((Int.toNat (mm true (IntKind.wrap .i64 x1) (16 : Int))) - 0) * 1))), (D.list ((Int.toNat (mm true (IntKind.wrap .i64 x2) (16 : Int))) - 0) (some 16) (cutL 17 a1 1 (((Int.toNat (mm true (IntKind.wrap .i64 x2) (16 : Int))) - 0) * 1)))]).bind fun d3 =>
 (rdI .i64 (some d3)).bind fun x4 =>
 some (D.v (.int .i64 x4))
 else none
 else none
 else none
 else none
 else none
 else none
theorem Zqy (m : Nat) (a0 : List D) (a1 : List D) : funD Tryz.prog Zkc m 4 Z7q Tryz.f85 [(D.agg a0), (D.agg a1)] = Zfu m a0 a1 := by kernel_rfl
theorem Zst : Enters Tryz.prog 85 := ⟨Tryz.f85, Tryz.func85, by kernel_rfl, by kernel_rfl⟩
theorem Zsu {ds : List D} {d : D} (h : funD Tryz.prog Zkc M 4 Z7q Tryz.f85 ds = some d) : DataSem Tryz.prog 85 ds d := data_sound (H := Zkc) (SpOk.cons Zfl SpOk.nil) mixed (InlOk.cons Tryz.func112 Zv5 InlOk.nil) Tryz.func85 Zst h
noncomputable def Z4v : List D → Option D
  | [.agg a0, .agg a1] => Zfu M a0 a1
  | _ => none
theorem Zng : ∀ ds d, Z4v ds = some d → DataSem Tryz.prog 85 ds d := by
  intro ds d h
  unfold Z4v at h
  split at h
  · exact Zsu ((Zqy M _ _).trans h)
  · cases h

-- ('str', '"vidimus/oidsets.Check"')
def Z33 : FnH := ⟨[(4, ⟨(bm 7169 38), [], (some 0)⟩)], []⟩
noncomputable def Z4w : Hints := ⟨[(85, Z4v), (109, Z7a)], [], []⟩
noncomputable def Z6c (m n0 : Nat) (y0_0 : Nat) (y0_1 : Option Nat) (y0_2 : List D) (y0_3 : Int) (y0_4 : Int) : Option D :=
 loopIter (bm 7169 38) 0 0 (codeK Tryz.prog Z4w.sp ⟨0, [], false, []⟩ (inlK Tryz.prog Z4w m 4) m Z33 (subc [1, 1, 0, 1, 0, 0] (bodyOf Tryz.f89))) n0 ⟨[(AV.d (D.list y0_0 y0_1 y0_2)), .junk, .junk, .junk, .junk, .junk, .junk, .junk, .junk, .junk, (AV.d (D.list y0_0 y0_1 y0_2)), (AV.d (D.v (.int .i64 y0_3))), (AV.d (D.v (.int .i64 y0_4))), .junk, .junk, .junk, .junk, .junk, .junk, .junk, .junk, .junk, .junk, .junk, .junk, .junk, .junk, .junk, .junk, .junk, .junk, .junk, .junk, .junk, .junk, .junk, .junk, .junk], []⟩
  (contK Tryz.prog Z4w.sp ⟨0, [], false, []⟩ (inlK Tryz.prog Z4w m 4) m Z33 (endK Tryz.prog Tryz.f89 (fun v L => viewK L 8 v some)) [.block 0, .code (subc [1, 1, 1] (bodyOf Tryz.f89))])
theorem Zp2 (m n0 : Nat) (y0_0 : Nat) (y0_1 : Option Nat) (y0_2 : List D) (y0_3 : Int) (y0_4 : Int) : Z6c m (n0 + 1) y0_0 y0_1 y0_2 y0_3 y0_4 =
 (cond (decide (y0_4 < y0_3))
 (if 0 ≤ y0_4 ∧ y0_4 < ((y0_0 : Nat) : Int) then
 if (((Int.toNat y0_4) * 17) + 17) ≤ (List.length y0_2) then
 if (List.length ((List.drop ((Int.toNat y0_4) * 17) y0_2).take 17)) = 17 then
 (Z7a [(D.agg ((List.drop ((Int.toNat y0_4) * 17) y0_2).take 17))]).bind fun d7 =>
 (rdI .i64 (some d7)).bind fun x8 =>
 cond (x8 != (0 : Int))
 (some (D.v (.int .i64 x8)))
 (cond (y0_4 == (0 : Int))
 (Z6c m n0 y0_0 y0_1 y0_2 y0_3 (IntKind.wrap .i64 (y0_4 + (1 : Int))))
 (if 0 ≤ (IntKind.wrap .i64 (y0_4 - (1 : Int))) ∧ (IntKind.wrap .i64 (y0_4 - (1 : Int))) < ((y0_0 : Nat) : Int) then
 if (((Int.toNat (IntKind.wrap .i64 (y0_4 - (1 : Int)))) * 17) + 17) ≤ (List.length y0_2) then
 (Z4v [(D.agg ((List.drop ((Int.toNat (IntKind.wrap .i64 (y0_4 - (1 : Int)))) * 17) y0_2).take 17)), (D.agg ((List.drop ((Int.toNat y0_4) * 17) y0_2).take 17))]).bind fun d9 =>
 (rdI .i64 (some d9)).bind fun x10 =>
 cond (x10 == (0 : Int))
 (some (D.v (.int .i64 (14 : Int))))
 (cond (decide (x10 > (0 : Int)))
 (some (D.v (.int .i64 (13 : Int))))
 (Z6c m n0 y0_0 y0_1 y0_2 y0_3 (IntKind.wrap .i64 (y0_4 + (1 : Int)))))
 else none
 else none))
 else none
 else none
 else none)
 (some zI)) := by kernel_rfl
noncomputable def Zeg (m : Nat) (a0n : Nat) (a0c : Option Nat) (a0 : List D) : Option D :=
 cond (decide (((a0n : Nat) : Int) > (256 : Int)))
 (some (D.v (.int .i64 (3 : Int))))
 (Z6c m m a0n a0c a0 ((a0n : Nat) : Int) (0 : Int))
theorem Zqa (m : Nat) (a0n : Nat) (a0c : Option Nat) (a0 : List D) : funD Tryz.prog Z4w m 4 Z33 Tryz.f89 [(D.list a0n a0c a0)] = Zeg m a0n a0c a0 := by kernel_rfl
theorem Zry : Enters Tryz.prog 89 := ⟨Tryz.f89, Tryz.func89, by kernel_rfl, by kernel_rfl⟩
theorem Zrz {ds : List D} {d : D} (h : funD Tryz.prog Z4w M 4 Z33 Tryz.f89 ds = some d) : DataSem Tryz.prog 89 ds d := data_sound (H := Z4w) (SpOk.cons Zng (SpOk.cons Zq9 SpOk.nil)) mixed InlOk.nil Tryz.func89 Zry h
noncomputable def Z7r : List D → Option D
  | [.list a0n a0c a0] => Zeg M a0n a0c a0
  | _ => none
theorem Zs0 : ∀ ds d, Z7r ds = some d → DataSem Tryz.prog 89 ds d := by
  intro ds d h
  unfold Z7r at h
  split at h
  · exact Zrz ((Zqa M _ _ _).trans h)
  · cases h

-- ('str', '"vidimus/vidimusref06.Check"')
def Z27 : FnH := ⟨[(4, ⟨(bm 10 46), [], (some 1)⟩)], [(3, ⟨(bm 2 46), [], (some 1)⟩)]⟩
noncomputable def Z3h : Hints := ⟨[], [], []⟩
noncomputable def Zm5 (m : Nat) (u0_0 : List D) : Option D :=
 cutK m (codeK Tryz.prog Z3h.sp ⟨0, [], false, []⟩ (inlK Tryz.prog Z3h m 4) m Z27 (subc [1, 1] (bodyOf Tryz.f91)) ⟨[.junk, (AV.ptr 0 0), .junk, .junk, .junk, .junk, .junk, .junk, .junk, .junk, .junk, .junk, .junk, .junk, .junk, .junk, .junk, .junk, .junk, .junk, .junk, .junk, .junk, .junk, .junk, .junk, .junk, .junk, .junk, .junk, .junk, .junk, .junk, .junk, .junk, .junk, .junk, .junk, .junk, .junk, .junk, .junk, .junk, .junk, .junk, .junk], [(Blk.d 17 u0_0)]⟩
  (contK Tryz.prog Z3h.sp ⟨0, [], false, []⟩ (inlK Tryz.prog Z3h m 4) m Z27 (endK Tryz.prog Tryz.f91 (fun v L => viewK L 8 v some)) []))
noncomputable def Zeh (m n0 : Nat) (y0_0 : Int) (y0_1 : List D) : Option D :=
 loopIter (bm 10 46) 0 1 (codeK Tryz.prog Z3h.sp ⟨0, [], false, []⟩ (inlK Tryz.prog Z3h m 4) m Z27 (subc [1, 1, 0, 1, 0, 0] (bodyOf Tryz.f91))) n0 ⟨[.junk, (AV.ptr 0 0), .junk, (AV.d (D.v (.int .i64 y0_0))), .junk, .junk, .junk, .junk, .junk, .junk, .junk, .junk, .junk, .junk, .junk, .junk, .junk, .junk, .junk, .junk, .junk, .junk, .junk, .junk, .junk, .junk, .junk, .junk, .junk, .junk, .junk, .junk, .junk, .junk, .junk, .junk, .junk, .junk, .junk, .junk, .junk, .junk, .junk, .junk, .junk, .junk], [(Blk.d 17 y0_1)]⟩
  (contK Tryz.prog Z3h.sp ⟨0, [], false, []⟩ (inlK Tryz.prog Z3h m 4) m Z27 (endK Tryz.prog Tryz.f91 (fun v L => viewK L 8 v some)) [.block 0, .code (subc [1, 1, 1] (bodyOf Tryz.f91))])
theorem Zqz (m n0 : Nat) (y0_0 : Int) (y0_1 : List D) : Zeh m (n0 + 1) y0_0 y0_1 =
 (cond (decide (y0_0 < (16 : Int)))
 (if 0 ≤ y0_0 ∧ y0_0 < (16 : Int) then
 (rdI .u32 y0_1[(1 + ((Int.toNat y0_0) * 1))]?).bind fun x5 =>
 cond (x5 != (0 : Int))
 (some (D.v (.int .i64 (1 : Int))))
 (Zeh m n0 (IntKind.wrap .i64 (y0_0 + (1 : Int))) y0_1)
 else none)
 ((rdI .u32 y0_1[1]?).bind fun x6 =>
 cond (decide (x6 < (2 : Int)))
 ((rdI .u32 y0_1[2]?).bind fun x7 =>
 cond (decide (x7 < (40 : Int)))
 (some zI)
 ((rdI .u32 y0_1[1]?).bind fun x8 =>
 cond (x8 == (2 : Int))
 ((rdI .u32 y0_1[2]?).bind fun x9 =>
 cond (decide (x9 ≤ (4294967215 : Int)))
 (some zI)
 (some (D.v (.int .i64 (1 : Int)))))
 (some (D.v (.int .i64 (1 : Int))))))
 ((rdI .u32 y0_1[1]?).bind fun x10 =>
 cond (x10 == (2 : Int))
 ((rdI .u32 y0_1[2]?).bind fun x11 =>
 cond (decide (x11 ≤ (4294967215 : Int)))
 (some zI)
 (some (D.v (.int .i64 (1 : Int)))))
 (some (D.v (.int .i64 (1 : Int))))))) := by kernel_rfl
theorem Zqb (m : Nat) (u0_0 : List D) : Zm5 m u0_0 =
 ((rdI .u8 u0_0[0]?).bind fun x3 =>
 Zeh m m (IntKind.wrap .i64 x3) u0_0) := (cutK_eq m _).trans (by kernel_rfl)
noncomputable def Zhy (m : Nat) (a0 : List D) : Option D :=
 if (List.length a0) = 17 then
 (rdI .u8 a0[0]?).bind fun x1 =>
 cond (decide (x1 < (2 : Int)))
 (some (D.v (.int .i64 (1 : Int))))
 ((rdI .u8 a0[0]?).bind fun x2 =>
 cond (decide (x2 > (16 : Int)))
 (some (D.v (.int .i64 (1 : Int))))
 (Zm5 m a0))
 else none
theorem Zs1 (m : Nat) (a0 : List D) : funD Tryz.prog Z3h m 4 Z27 Tryz.f91 [(D.agg a0)] = Zhy m a0 := by kernel_rfl
theorem Ztu : Enters Tryz.prog 91 := ⟨Tryz.f91, Tryz.func91, by kernel_rfl, by kernel_rfl⟩
theorem Ztv {ds : List D} {d : D} (h : funD Tryz.prog Z3h M 4 Z27 Tryz.f91 ds = some d) : DataSem Tryz.prog 91 ds d := data_sound (H := Z3h) SpOk.nil mixed InlOk.nil Tryz.func91 Ztu h
noncomputable def Z5h : List D → Option D
  | [.agg a0] => Zhy M a0
  | _ => none
theorem Zop : ∀ ds d, Z5h ds = some d → DataSem Tryz.prog 91 ds d := by
  intro ds d h
  unfold Z5h at h
  split at h
  · exact Ztv ((Zs1 M _).trans h)
  · cases h

-- ('str', '"vidimus/vidimusref06.Compare"')
def Z13 : FnH := ⟨[(3, ⟨(bm 236 50), [], (some 2)⟩)], [(5, ⟨(bm 236 50), [], (some 2)⟩), (9, ⟨(bm 96 50), [], (some 0)⟩)]⟩
noncomputable def Z1p : Hints := ⟨[], [], []⟩
noncomputable def Zb4 (m n0 : Nat) (y0_0 : Int) (y0_1 : Int) (y0_2 : Int) (y0_3 : List D) (y0_4 : List D) : Option D :=
 loopIter (bm 236 50) 0 2 (codeK Tryz.prog Z1p.sp ⟨0, [], false, []⟩ (inlK Tryz.prog Z1p m 4) m Z13 (subc [1, 1, 0, 1, 0, 0] (bodyOf Tryz.f62))) n0 ⟨[.junk, .junk, (AV.ptr 0 0), (AV.ptr 1 0), .junk, (AV.d (D.v (.int .i64 y0_0))), (AV.d (D.v (.int .i64 y0_1))), (AV.d (D.v (.int .i64 y0_2))), .junk, .junk, .junk, .junk, .junk, .junk, .junk, .junk, .junk, .junk, .junk, .junk, .junk, .junk, .junk, .junk, .junk, .junk, .junk, .junk, .junk, .junk, .junk, .junk, .junk, .junk, .junk, .junk, .junk, .junk, .junk, .junk, .junk, .junk, .junk, .junk, .junk, .junk, .junk, .junk, .junk, .junk], [(Blk.d 17 y0_3), (Blk.d 17 y0_4)]⟩
  (contK Tryz.prog Z1p.sp ⟨0, [], false, []⟩ (inlK Tryz.prog Z1p m 4) m Z13 (endK Tryz.prog Tryz.f62 (fun v L => viewK L 8 v some)) [.block 0, .code (subc [1, 1, 1] (bodyOf Tryz.f62))])
noncomputable def Zjx (m n0 : Nat) (u0_0 : Int) (u0_1 : Int) (u0_2 : Int) (u0_3 : List D) (u0_4 : List D) : Option D :=
 cutK m (codeK Tryz.prog Z1p.sp ⟨0, [], false, []⟩ (inlK Tryz.prog Z1p m 4) m Z13 (subc [1, 1, 0, 1, 0, 0, 1] (bodyOf Tryz.f62)) ⟨[.junk, .junk, (AV.ptr 0 0), (AV.ptr 1 0), .junk, (AV.d (D.v (.int .i64 u0_0))), (AV.d (D.v (.int .i64 u0_1))), (AV.d (D.v (.int .i64 u0_2))), .junk, .junk, .junk, .junk, .junk, .junk, .junk, .junk, .junk, .junk, .junk, .junk, .junk, .junk, .junk, .junk, .junk, .junk, .junk, .junk, .junk, .junk, .junk, .junk, .junk, .junk, .junk, .junk, .junk, .junk, .junk, .junk, .junk, .junk, .junk, .junk, .junk, .junk, .junk, .junk, .junk, .junk], [(Blk.d 17 u0_3), (Blk.d 17 u0_4)]⟩
  (contK Tryz.prog Z1p.sp ⟨0, [], false, []⟩ (inlK Tryz.prog Z1p m 4) m Z13 (endK Tryz.prog Tryz.f62 (fun v L => viewK L 8 v some)) [.loop (bm 236 50) 2 (subc [1, 1, 0, 1, 0, 0] (bodyOf Tryz.f62)) n0, .block 0, .code (subc [1, 1, 1] (bodyOf Tryz.f62))]))
theorem Zo0 (m n0 : Nat) (u0_0 : Int) (u0_1 : Int) (u0_2 : Int) (u0_3 : List D) (u0_4 : List D) : Zjx m n0 u0_0 u0_1 u0_2 u0_3 u0_4 =
 (if 0 ≤ u0_2 ∧ u0_2 < (16 : Int) then
 (rdI .u32 u0_3[(1 + ((Int.toNat u0_2) * 1))]?).bind fun x11 =>
 if 0 ≤ u0_2 ∧ u0_2 < (16 : Int) then
 (rdI .u32 u0_4[(1 + ((Int.toNat u0_2) * 1))]?).bind fun x12 =>
 cond (decide (x11 < x12))
 (some (D.v (.int .i64 (-1 : Int))))
 (if 0 ≤ u0_2 ∧ u0_2 < (16 : Int) then
 (rdI .u32 u0_3[(1 + ((Int.toNat u0_2) * 1))]?).bind fun x13 =>
 if 0 ≤ u0_2 ∧ u0_2 < (16 : Int) then
 (rdI .u32 u0_4[(1 + ((Int.toNat u0_2) * 1))]?).bind fun x14 =>
 cond (decide (x13 > x14))
 (some (D.v (.int .i64 (1 : Int))))
 (Zb4 m n0 u0_0 u0_1 (IntKind.wrap .i64 (u0_2 + (1 : Int))) u0_3 u0_4)
 else none
 else none)
 else none
 else none) := (cutK_eq m _).trans (by kernel_rfl)
noncomputable def Zei (m : Nat) (u1_0 : Int) (u1_1 : Int) : Option D :=
 cutK m (codeK Tryz.prog Z1p.sp ⟨0, [], false, []⟩ (inlK Tryz.prog Z1p m 4) m Z13 (subc [1, 1, 1] (bodyOf Tryz.f62)) ⟨[.junk, .junk, .junk, .junk, .junk, (AV.d (D.v (.int .i64 u1_0))), (AV.d (D.v (.int .i64 u1_1))), .junk, .junk, .junk, .junk, .junk, .junk, .junk, .junk, .junk, .junk, .junk, .junk, .junk, .junk, .junk, .junk, .junk, .junk, .junk, .junk, .junk, .junk, .junk, .junk, .junk, .junk, .junk, .junk, .junk, .junk, .junk, .junk, .junk, .junk, .junk, .junk, .junk, .junk, .junk, .junk, .junk, .junk, .junk], []⟩
  (contK Tryz.prog Z1p.sp ⟨0, [], false, []⟩ (inlK Tryz.prog Z1p m 4) m Z13 (endK Tryz.prog Tryz.f62 (fun v L => viewK L 8 v some)) []))
theorem Zo1 (m : Nat) (u1_0 : Int) (u1_1 : Int) : Zei m u1_0 u1_1 =
 (cond (decide (u1_0 < u1_1))
 (some (D.v (.int .i64 (-1 : Int))))
 (cond (decide (u1_0 > u1_1))
 (some (D.v (.int .i64 (1 : Int))))
 (some zI))) := (cutK_eq m _).trans (by kernel_rfl)
theorem Zp3 (m n0 : Nat) (y0_0 : Int) (y0_1 : Int) (y0_2 : Int) (y0_3 : List D) (y0_4 : List D) : Zb4 m (n0 + 1) y0_0 y0_1 y0_2 y0_3 y0_4 =
 (cond (decide (y0_2 < y0_0))
 (cond (decide (y0_2 < y0_1))
 (Zjx m n0 y0_0 y0_1 y0_2 y0_3 y0_4)
 (Zei m y0_0 y0_1))
 (Zei m y0_0 y0_1)) := by kernel_rfl
noncomputable def Zej (m : Nat) (a0 : List D) (a1 : List D) : Option D :=
 if (List.length a0) = 17 then
 if (List.length a1) = 17 then
 (rdI .u8 a0[0]?).bind fun x1 =>
 (rdI .u8 a1[0]?).bind fun x2 =>
 Zb4 m m (mm true (IntKind.wrap .i64 x1) (16 : Int)) (mm true (IntKind.wrap .i64 x2) (16 : Int)) (0 : Int) a0 a1
 else none
 else none
theorem Zqc (m : Nat) (a0 : List D) (a1 : List D) : funD Tryz.prog Z1p m 4 Z13 Tryz.f62 [(D.agg a0), (D.agg a1)] = Zej m a0 a1 := by kernel_rfl
theorem Zs2 : Enters Tryz.prog 62 := ⟨Tryz.f62, Tryz.func62, by kernel_rfl, by kernel_rfl⟩
theorem Zs3 {ds : List D} {d : D} (h : funD Tryz.prog Z1p M 4 Z13 Tryz.f62 ds = some d) : DataSem Tryz.prog 62 ds d := data_sound (H := Z1p) SpOk.nil mixed InlOk.nil Tryz.func62 Zs2 h
noncomputable def Z4i : List D → Option D
  | [.agg a0, .agg a1] => Zej M a0 a1
  | _ => none
theorem Zm6 : ∀ ds d, Z4i ds = some d → DataSem Tryz.prog 62 ds d := by
  intro ds d h
  unfold Z4i at h
  split at h
  · exact Zs3 ((Zqc M _ _).trans h)
  · cases h

-- ('str', '"vidimus/vidimusref07.Check"')
def Z28 : FnH := ⟨[(4, ⟨(bm 9 36), [], (some 0)⟩)], [(5, ⟨(bm 9 36), [], (some 0)⟩)]⟩
noncomputable def Z3i : Hints := ⟨[(62, Z4i), (91, Z5h)], [], []⟩
noncomputable def Zek (m n0 : Nat) (y0_0 : Nat) (y0_1 : Option Nat) (y0_2 : List D) (y0_3 : Int) : Option D :=
 loopIter (bm 9 36) 0 0 (codeK Tryz.prog Z3i.sp ⟨0, [], false, []⟩ (inlK Tryz.prog Z3i m 4) m Z28 (subc [1, 1, 0, 1, 0, 0] (bodyOf Tryz.f53))) n0 ⟨[(AV.d (D.list y0_0 y0_1 y0_2)), .junk, .junk, (AV.d (D.v (.int .i64 y0_3))), .junk, .junk, .junk, .junk, .junk, .junk, .junk, .junk, .junk, .junk, .junk, .junk, .junk, .junk, .junk, .junk, .junk, .junk, .junk, .junk, .junk, .junk, .junk, .junk, .junk, .junk, .junk, .junk, .junk, .junk, .junk, .junk], []⟩
  (contK Tryz.prog Z3i.sp ⟨0, [], false, []⟩ (inlK Tryz.prog Z3i m 4) m Z28 (endK Tryz.prog Tryz.f53 (fun v L => viewK L 8 v some)) [.block 0, .code (subc [1, 1, 1] (bodyOf Tryz.f53))])
noncomputable def Zh9 (m n0 : Nat) (u0_0 : Nat) (u0_1 : Option Nat) (u0_2 : List D) (u0_3 : Int) : Option D :=
 cutK m (codeK Tryz.prog Z3i.sp ⟨0, [], false, []⟩ (inlK Tryz.prog Z3i m 4) m Z28 (subc [1, 1, 0, 1, 0, 0, 1, 1] (bodyOf Tryz.f53)) ⟨[(AV.d (D.list u0_0 u0_1 u0_2)), .junk, .junk, (AV.d (D.v (.int .i64 u0_3))), .junk, .junk, .junk, .junk, .junk, .junk, .junk, .junk, .junk, .junk, .junk, .junk, .junk, .junk, .junk, .junk, .junk, .junk, .junk, .junk, .junk, .junk, .junk, .junk, .junk, .junk, .junk, .junk, .junk, .junk, .junk, .junk], []⟩
  (contK Tryz.prog Z3i.sp ⟨0, [], false, []⟩ (inlK Tryz.prog Z3i m 4) m Z28 (endK Tryz.prog Tryz.f53 (fun v L => viewK L 8 v some)) [.loop (bm 9 36) 0 (subc [1, 1, 0, 1, 0, 0] (bodyOf Tryz.f53)) n0, .block 0, .code (subc [1, 1, 1] (bodyOf Tryz.f53))]))
theorem Zqd (m n0 : Nat) (u0_0 : Nat) (u0_1 : Option Nat) (u0_2 : List D) (u0_3 : Int) : Zh9 m n0 u0_0 u0_1 u0_2 u0_3 =
 (Zek m n0 u0_0 u0_1 u0_2 (IntKind.wrap .i64 (u0_3 + (1 : Int)))) := (cutK_eq m _).trans (by kernel_rfl)
theorem Zr0 (m n0 : Nat) (y0_0 : Nat) (y0_1 : Option Nat) (y0_2 : List D) (y0_3 : Int) : Zek m (n0 + 1) y0_0 y0_1 y0_2 y0_3 =
 (cond (decide (y0_3 < ((y0_0 : Nat) : Int)))
 (if 0 ≤ y0_3 ∧ y0_3 < ((y0_0 : Nat) : Int) then
 if (((Int.toNat y0_3) * 17) + 17) ≤ (List.length y0_2) then
 (Z5h [(D.agg ((List.drop ((Int.toNat y0_3) * 17) y0_2).take 17))]).bind fun d7 =>
 (rdI .i64 (some d7)).bind fun x8 =>
 cond (x8 != (0 : Int))
 (some (D.v (.int .i64 (1 : Int))))
 (cond (decide (y0_3 > (0 : Int)))
 (if 0 ≤ (IntKind.wrap .i64 (y0_3 - (1 : Int))) ∧ (IntKind.wrap .i64 (y0_3 - (1 : Int))) < ((y0_0 : Nat) : Int) then
 if (((Int.toNat (IntKind.wrap .i64 (y0_3 - (1 : Int)))) * 17) + 17) ≤ (List.length y0_2) then
 if 0 ≤ y0_3 ∧ y0_3 < ((y0_0 : Nat) : Int) then
 if (((Int.toNat y0_3) * 17) + 17) ≤ (List.length y0_2) then
 (Z4i [(D.agg ((List.drop ((Int.toNat (IntKind.wrap .i64 (y0_3 - (1 : Int)))) * 17) y0_2).take 17)), (D.agg ((List.drop ((Int.toNat y0_3) * 17) y0_2).take 17))]).bind fun d9 =>
 (rdI .i64 (some d9)).bind fun x10 =>
 cond (x10 == (0 : Int))
 (some (D.v (.int .i64 (14 : Int))))
 (cond (decide (x10 > (0 : Int)))
 (some (D.v (.int .i64 (13 : Int))))
 (Zh9 m n0 y0_0 y0_1 y0_2 y0_3))
 else none
 else none
 else none
 else none)
 (Zh9 m n0 y0_0 y0_1 y0_2 y0_3))
 else none
 else none)
 (some zI)) := by kernel_rfl
noncomputable def Zhz (m : Nat) (a0n : Nat) (a0c : Option Nat) (a0 : List D) : Option D :=
 cond (decide (((a0n : Nat) : Int) > (256 : Int)))
 (some (D.v (.int .i64 (3 : Int))))
 (Zek m m a0n a0c a0 (0 : Int))
theorem Zs4 (m : Nat) (a0n : Nat) (a0c : Option Nat) (a0 : List D) : funD Tryz.prog Z3i m 4 Z28 Tryz.f53 [(D.list a0n a0c a0)] = Zhz m a0n a0c a0 := by kernel_rfl
theorem Ztw : Enters Tryz.prog 53 := ⟨Tryz.f53, Tryz.func53, by kernel_rfl, by kernel_rfl⟩
theorem Ztx {ds : List D} {d : D} (h : funD Tryz.prog Z3i M 4 Z28 Tryz.f53 ds = some d) : DataSem Tryz.prog 53 ds d := data_sound (H := Z3i) (SpOk.cons Zm6 (SpOk.cons Zop SpOk.nil)) mixed InlOk.nil Tryz.func53 Ztw h
noncomputable def Zc6 : List D → Option D
  | [.list a0n a0c a0] => Zhz M a0n a0c a0
  | _ => none
theorem Zty : ∀ ds d, Zc6 ds = some d → DataSem Tryz.prog 53 ds d := by
  intro ds d h
  unfold Zc6 at h
  split at h
  · exact Ztx ((Zs4 M _ _ _).trans h)
  · cases h

end Go.Ev
