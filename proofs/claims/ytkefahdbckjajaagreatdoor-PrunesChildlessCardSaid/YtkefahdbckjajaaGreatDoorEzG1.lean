/- Functions of the given program in plain form, printed: each with the proof that it is what the evaluator comes to, and that the program function returns what it says. No conditions. -/
import Derived.Test.YtkefahdbckjajaaGreatDoorEzK1
import Derived.Test.YtkefahdbckjajaaGreatDoorEzK2
set_option linter.unusedVariables false
set_option maxRecDepth 100000
namespace Go.Ev
open Go Go.Proofs

-- ('str', '"vidimus/oids.Check"')
def Z1n : FnH := ⟨[(6, ⟨(bm 1924145348608 47), [], (some 1)⟩)], [(3, ⟨(bm 2 47), [], (some 1)⟩), (5, ⟨(bm 2 47), [], (some 1)⟩)]⟩
noncomputable def Z3b : Hints := ⟨[], [], []⟩
noncomputable def Zpp (m : Nat) (u0_0 : List D) : Option D :=
 cutK m (codeK Tryz.prog Z3b.sp ⟨0, [], false, []⟩ (inlK Tryz.prog Z3b m 4) m Z1n (subc [1, 1] (bodyOf Tryz.f109)) ⟨[.junk, (AV.ptr 0 0), .junk, .junk, .junk, .junk, .junk, .junk, .junk, .junk, .junk, .junk, .junk, .junk, .junk, .junk, .junk, .junk, .junk, .junk, .junk, .junk, .junk, .junk, .junk, .junk, .junk, .junk, .junk, .junk, .junk, .junk, .junk, .junk, .junk, .junk, .junk, .junk, .junk, .junk, .junk, .junk, .junk, .junk, .junk, .junk, .junk], [(Blk.d 17 u0_0)]⟩
  (contK Tryz.prog Z3b.sp ⟨0, [], false, []⟩ (inlK Tryz.prog Z3b m 4) m Z1n (endK Tryz.prog Tryz.f109 (fun v L => viewK L 8 v some)) []))
noncomputable def Zfh (m : Nat) (u1_0 : List D) : Option D :=
 cutK m (codeK Tryz.prog Z3b.sp ⟨0, [], false, []⟩ (inlK Tryz.prog Z3b m 4) m Z1n (subc [1, 1, 1] (bodyOf Tryz.f109)) ⟨[.junk, (AV.ptr 0 0), .junk, .junk, .junk, .junk, .junk, .junk, .junk, .junk, .junk, .junk, .junk, .junk, .junk, .junk, .junk, .junk, .junk, .junk, .junk, .junk, .junk, .junk, .junk, .junk, .junk, .junk, .junk, .junk, .junk, .junk, .junk, .junk, .junk, .junk, .junk, .junk, .junk, .junk, .junk, .junk, .junk, .junk, .junk, .junk, .junk], [(Blk.d 17 u1_0)]⟩
  (contK Tryz.prog Z3b.sp ⟨0, [], false, []⟩ (inlK Tryz.prog Z3b m 4) m Z1n (endK Tryz.prog Tryz.f109 (fun v L => viewK L 8 v some)) []))
noncomputable def Zh6 (m n0 : Nat) (y0_0 : Nat) (y0_1 : Nat) (y0_2 : Int) (y0_3 : Int) (y0_4 : List D) : Option D :=
 loopIter (bm 1924145348608 47) 0 1 (codeK Tryz.prog Z3b.sp ⟨0, [], false, []⟩ (inlK Tryz.prog Z3b m 4) m Z1n (subc [1, 1, 1, 0, 1, 0, 0] (bodyOf Tryz.f109))) n0 ⟨[.junk, .junk, .junk, .junk, .junk, .junk, .junk, .junk, .junk, .junk, .junk, .junk, .junk, .junk, .junk, .junk, .junk, .junk, .junk, .junk, .junk, .junk, .junk, .junk, .junk, .junk, .junk, .junk, .junk, .junk, .junk, .junk, .junk, .junk, .junk, .junk, .junk, .junk, (AV.sl 0 y0_0 y0_1 (some y0_1) 1), (AV.d (D.v (.int .i64 y0_2))), (AV.d (D.v (.int .i64 y0_3))), .junk, .junk, .junk, .junk, .junk, .junk], [(Blk.d 17 y0_4)]⟩
  (contK Tryz.prog Z3b.sp ⟨0, [], false, []⟩ (inlK Tryz.prog Z3b m 4) m Z1n (endK Tryz.prog Tryz.f109 (fun v L => viewK L 8 v some)) [.block 0, .code (subc [1, 1, 1, 1] (bodyOf Tryz.f109))])
theorem Zuw (m n0 : Nat) (y0_0 : Nat) (y0_1 : Nat) (y0_2 : Int) (y0_3 : Int) (y0_4 : List D) : Zh6 m (n0 + 1) y0_0 y0_1 y0_2 y0_3 y0_4 =
 (cond (decide (y0_3 < y0_2))
 (if 0 ≤ y0_3 ∧ y0_3 < ((y0_1 : Nat) : Int) then
 (rdI .u32 y0_4[(y0_0 + ((Int.toNat y0_3) * 1))]?).bind fun x10 =>
 cond (x10 != (0 : Int))
 (some (D.v (.int .i64 (1 : Int))))
 (Zh6 m n0 y0_0 y0_1 y0_2 (IntKind.wrap .i64 (y0_3 + (1 : Int))) y0_4)
 else none)
 (some zI)) := by kernel_rfl
theorem Zth (m : Nat) (u1_0 : List D) : Zfh m u1_0 =
 ((rdI .u8 u1_0[0]?).bind fun x7 =>
 if 0 ≤ x7 ∧ x7 ≤ (16 : Int) then
 Zh6 m m (1 + ((Int.toNat x7) * 1)) (16 - (Int.toNat x7)) (((16 - (Int.toNat x7)) : Nat) : Int) (0 : Int) u1_0
 else none) := (cutK_eq m _).trans (by kernel_rfl)
theorem Zti (m : Nat) (u0_0 : List D) : Zpp m u0_0 =
 ((rdI .u32 u0_0[1]?).bind fun x4 =>
 cond (decide (x4 < (2 : Int)))
 ((rdI .u32 u0_0[2]?).bind fun x5 =>
 cond (decide (x5 > (39 : Int)))
 (some (D.v (.int .i64 (1 : Int))))
 ((rdI .u32 u0_0[2]?).bind fun x6 =>
 cond (decide (x6 > (4294967215 : Int)))
 (some (D.v (.int .i64 (1 : Int))))
 (Zfh m u0_0)))
 ((rdI .u32 u0_0[2]?).bind fun x11 =>
 cond (decide (x11 > (4294967215 : Int)))
 (some (D.v (.int .i64 (1 : Int))))
 (Zfh m u0_0))) := (cutK_eq m _).trans (by kernel_rfl)
noncomputable def Zlv (m : Nat) (a0 : List D) : Option D :=
 if (List.length a0) = 17 then
 (rdI .u8 a0[0]?).bind fun x1 =>
 cond (decide (x1 < (2 : Int)))
 (some (D.v (.int .i64 (1 : Int))))
 ((rdI .u8 a0[0]?).bind fun x2 =>
 cond (decide (x2 > (16 : Int)))
 (some (D.v (.int .i64 (1 : Int))))
 ((rdI .u32 a0[1]?).bind fun x3 =>
 cond (decide (x3 > (2 : Int)))
 (some (D.v (.int .i64 (1 : Int))))
 (Zpp m a0)))
 else none
theorem Zw5 (m : Nat) (a0 : List D) : funD Tryz.prog Z3b m 4 Z1n Tryz.f109 [(D.agg a0)] = Zlv m a0 := by kernel_rfl
theorem Zyv : Enters Tryz.prog 109 := ⟨Tryz.f109, Tryz.func109, by kernel_rfl, by kernel_rfl⟩
theorem Zyw {ds : List D} {d : D} (h : funD Tryz.prog Z3b M 4 Z1n Tryz.f109 ds = some d) : DataSem Tryz.prog 109 ds d := data_sound (H := Z3b) SpOk.nil mixed InlOk.nil Tryz.func109 Zyv h
noncomputable def Z82 : List D → Option D
  | [.agg a0] => Zlv M a0
  | _ => none
theorem Zsq : ∀ ds d, Z82 ds = some d → DataSem Tryz.prog 109 ds d := by
  intro ds d h
  unfold Z82 at h
  split at h
  · exact Zyw ((Zw5 M _).trans h)
  · cases h

-- ('str', '"cmp.Compare[uint32]"')
def Z4d : FnH := ⟨[], []⟩
def Zba : FnH := ⟨[], []⟩
noncomputable def Zcq : Hints := ⟨[], [(157, Tryz.f157, Zba)], []⟩
noncomputable def Z6w (m : Nat) (a0 : Int) (a1 : Int) : Option D :=
 cond (a0 != a0)
 (cond (a1 != a1)
 (some zI)
 (some (D.v (.int .i64 (-1 : Int)))))
 (cond (a1 != a1)
 (some (D.v (.int .i64 (1 : Int))))
 (cond (decide (a0 < a1))
 (some (D.v (.int .i64 (-1 : Int))))
 (cond (decide (a0 > a1))
 (some (D.v (.int .i64 (1 : Int))))
 (some zI))))
theorem Znn (m : Nat) (a0 : Int) (a1 : Int) : funD Tryz.prog Zcq m 4 Z4d Tryz.f135 [(D.v (.int .u32 a0)), (D.v (.int .u32 a1))] = Z6w m a0 a1 := by kernel_rfl
theorem Zpq : Enters Tryz.prog 135 := ⟨Tryz.f135, Tryz.func135, by kernel_rfl, by kernel_rfl⟩
theorem Zpr {ds : List D} {d : D} (h : funD Tryz.prog Zcq M 4 Z4d Tryz.f135 ds = some d) : DataSem Tryz.prog 135 ds d := data_sound (H := Zcq) SpOk.nil mixed (InlOk.cons Tryz.func157 Zr9 InlOk.nil) Tryz.func135 Zpq h
noncomputable def Z4u : List D → Option D
  | [.v (.int .u32 a0), .v (.int .u32 a1)] => Z6w M a0 a1
  | _ => none
theorem Zps : ∀ ds d, Z4u ds = some d → DataSem Tryz.prog 135 ds d := by
  intro ds d h
  unfold Z4u at h
  split at h
  · exact Zpr ((Znn M _ _).trans h)
  · cases h

-- ('str', '"slices.Compare[[]uint32,uint32]"')
def Zn : FnH := ⟨[(2, ⟨(bm 3587 36), [], (some 0)⟩)], []⟩
noncomputable def Z1d : Hints := ⟨[(135, Z4u)], [], []⟩
noncomputable def Z38 (m n0 : Nat) (y0_0 : Nat) (y0_1 : Option Nat) (y0_2 : List D) (y0_3 : Nat) (y0_4 : Option Nat) (y0_5 : List D) (y0_6 : Int) (y0_7 : Int) : Option D :=
 loopIter (bm 3587 36) 0 0 (codeK Tryz.prog Z1d.sp ⟨0, [], false, []⟩ (inlK Tryz.prog Z1d m 4) m Zn (subc [1, 0, 1, 0, 0] (bodyOf Tryz.f111))) n0 ⟨[(AV.d (D.list y0_0 y0_1 y0_2)), (AV.d (D.list y0_3 y0_4 y0_5)), .junk, .junk, .junk, .junk, .junk, .junk, .junk, (AV.d (D.list y0_0 y0_1 y0_2)), (AV.d (D.v (.int .i64 y0_6))), (AV.d (D.v (.int .i64 y0_7))), .junk, .junk, .junk, .junk, .junk, .junk, .junk, .junk, .junk, .junk, .junk, .junk, .junk, .junk, .junk, .junk, .junk, .junk, .junk, .junk, .junk, .junk, .junk, .junk], []⟩
  (contK Tryz.prog Z1d.sp ⟨0, [], false, []⟩ (inlK Tryz.prog Z1d m 4) m Zn (endK Tryz.prog Tryz.f111 (fun v L => viewK L 8 v some)) [.block 0, .code (subc [1, 1] (bodyOf Tryz.f111))])
theorem Zet (m n0 : Nat) (y0_0 : Nat) (y0_1 : Option Nat) (y0_2 : List D) (y0_3 : Nat) (y0_4 : Option Nat) (y0_5 : List D) (y0_6 : Int) (y0_7 : Int) : Z38 m (n0 + 1) y0_0 y0_1 y0_2 y0_3 y0_4 y0_5 y0_6 y0_7 =
 (cond (decide (y0_7 < y0_6))
 (if 0 ≤ y0_7 ∧ y0_7 < ((y0_0 : Nat) : Int) then
 (rdI .u32 y0_2[((Int.toNat y0_7) * 1)]?).bind fun x9 =>
 cond (decide (y0_7 ≥ ((y0_3 : Nat) : Int)))
 (some (D.v (.int .i64 (1 : Int))))
 (if 0 ≤ y0_7 ∧ y0_7 < ((y0_3 : Nat) : Int) then
 (rdI .u32 y0_5[((Int.toNat y0_7) * 1)]?).bind fun x10 =>
 (Z4u [(D.v (.int .u32 x9)), (D.v (.int .u32 x10))]).bind fun d11 =>
 (rdI .i64 (some d11)).bind fun x12 =>
 cond (x12 != (0 : Int))
 (some (D.v (.int .i64 x12)))
 (Z38 m n0 y0_0 y0_1 y0_2 y0_3 y0_4 y0_5 y0_6 (IntKind.wrap .i64 (y0_7 + (1 : Int))))
 else none)
 else none)
 (cond (decide (((y0_0 : Nat) : Int) < ((y0_3 : Nat) : Int)))
 (some (D.v (.int .i64 (-1 : Int))))
 (some zI))) := by kernel_rfl
noncomputable def Z7o (m : Nat) (a0n : Nat) (a0c : Option Nat) (a0 : List D) (a1n : Nat) (a1c : Option Nat) (a1 : List D) : Option D :=
 Z38 m m a0n a0c a0 a1n a1c a1 ((a0n : Nat) : Int) (0 : Int)
theorem Zfi (m : Nat) (a0n : Nat) (a0c : Option Nat) (a0 : List D) (a1n : Nat) (a1c : Option Nat) (a1 : List D) : funD Tryz.prog Z1d m 4 Zn Tryz.f111 [(D.list a0n a0c a0), (D.list a1n a1c a1)] = Z7o m a0n a0c a0 a1n a1c a1 := by kernel_rfl
theorem Zgv : Enters Tryz.prog 111 := ⟨Tryz.f111, Tryz.func111, by kernel_rfl, by kernel_rfl⟩
theorem Zgw {ds : List D} {d : D} (h : funD Tryz.prog Z1d M 4 Zn Tryz.f111 ds = some d) : DataSem Tryz.prog 111 ds d := data_sound (H := Z1d) (SpOk.cons Zps SpOk.nil) mixed InlOk.nil Tryz.func111 Zgv h
noncomputable def Z2a : List D → Option D
  | [.list a0n a0c a0, .list a1n a1c a1] => Z7o M a0n a0c a0 a1n a1c a1
  | _ => none
theorem Zgx : ∀ ds d, Z2a ds = some d → DataSem Tryz.prog 111 ds d := by
  intro ds d h
  unfold Z2a at h
  split at h
  · exact Zgw ((Zfi M _ _ _ _ _ _).trans h)
  · cases h

-- ('str', '"vidimus/oids.Compare"')
def Z8j : FnH := ⟨[], []⟩
def Zl4 : FnH := ⟨[], []⟩
noncomputable def Zmi : Hints := ⟨[(111, Z2a)], [(112, Tryz.f112, Zl4)], []⟩
noncomputable def Zh7 (m : Nat) (a0 : List D) (a1 : List D) : Option D :=
 if (List.length a0) = 17 then
 if (List.length a1) = 17 then
 (rdI .u8 a0[0]?).bind fun x1 =>
 if 0 ≤ (mm true (IntKind.wrap .i64 x1) (16 : Int)) ∧ (mm true (IntKind.wrap .i64 x1) (16 : Int)) ≤ (16 : Int) then
 (rdI .u8 a1[0]?).bind fun x2 =>
 if 0 ≤ (mm true (IntKind.wrap .i64 x2) (16 : Int)) ∧ (mm true (IntKind.wrap .i64 x2) (16 : Int)) ≤ (16 : Int) then
 if (1 + (((Int.toNat (mm true (IntKind.wrap .i64 x1) (16 : Int))) - 0) * 1)) ≤ 17 then
 if (1 + (((Int.toNat (mm true (IntKind.wrap .i64 x2) (16 : Int))) - 0) * 1)) ≤ 17 then
 (Z2a [(D.list ((Int.toNat (mm true (IntKind.wrap .i64 x1) (16 : Int))) - 0) (some 16) (cutL 17 a0 1 (((Int.toNat (mm true (IntKind.wrap .i64 x1) (16 : Int))) - 0) * 1))), (D.list ((Int.toNat (mm true (IntKind.wrap .i64 x2) (16 : Int))) - 0) (some 16) (cutL 17 a1 1 (((Int.toNat (mm true (IntKind.wrap .i64 x2) (16 : Int))) - 0) * 1)))]).bind fun d3 =>
 (rdI .i64 (some d3)).bind fun x4 =>
 some (D.v (.int .i64 x4))
 else none
 else none
 else none
 else none
 else none
 else none
theorem Ztj (m : Nat) (a0 : List D) (a1 : List D) : funD Tryz.prog Zmi m 4 Z8j Tryz.f85 [(D.agg a0), (D.agg a1)] = Zh7 m a0 a1 := by kernel_rfl
theorem Zw6 : Enters Tryz.prog 85 := ⟨Tryz.f85, Tryz.func85, by kernel_rfl, by kernel_rfl⟩
theorem Zw7 {ds : List D} {d : D} (h : funD Tryz.prog Zmi M 4 Z8j Tryz.f85 ds = some d) : DataSem Tryz.prog 85 ds d := data_sound (H := Zmi) (SpOk.cons Zgx SpOk.nil) mixed (InlOk.cons Tryz.func112 Zzn InlOk.nil) Tryz.func85 Zw6 h
noncomputable def Z5l : List D → Option D
  | [.agg a0, .agg a1] => Zh7 M a0 a1
  | _ => none
theorem Zpt : ∀ ds d, Z5l ds = some d → DataSem Tryz.prog 85 ds d := by
  intro ds d h
  unfold Z5l at h
  split at h
  · exact Zw7 ((Ztj M _ _).trans h)
  · cases h

-- ('str', '"vidimus/oidsets.Check"')
def Z3g : FnH := ⟨[(4, ⟨(bm 7169 38), [], (some 0)⟩)], []⟩
noncomputable def Z5m : Hints := ⟨[(85, Z5l), (109, Z82)], [], []⟩
noncomputable def Z75 (m n0 : Nat) (y0_0 : Nat) (y0_1 : Option Nat) (y0_2 : List D) (y0_3 : Int) (y0_4 : Int) : Option D :=
 loopIter (bm 7169 38) 0 0 (codeK Tryz.prog Z5m.sp ⟨0, [], false, []⟩ (inlK Tryz.prog Z5m m 4) m Z3g (subc [1, 1, 0, 1, 0, 0] (bodyOf Tryz.f89))) n0 ⟨[(AV.d (D.list y0_0 y0_1 y0_2)), .junk, .junk, .junk, .junk, .junk, .junk, .junk, .junk, .junk, (AV.d (D.list y0_0 y0_1 y0_2)), (AV.d (D.v (.int .i64 y0_3))), (AV.d (D.v (.int .i64 y0_4))), .junk, .junk, .junk, .junk, .junk, .junk, .junk, .junk, .junk, .junk, .junk, .junk, .junk, .junk, .junk, .junk, .junk, .junk, .junk, .junk, .junk, .junk, .junk, .junk, .junk], []⟩
  (contK Tryz.prog Z5m.sp ⟨0, [], false, []⟩ (inlK Tryz.prog Z5m m 4) m Z3g (endK Tryz.prog Tryz.f89 (fun v L => viewK L 8 v some)) [.block 0, .code (subc [1, 1, 1] (bodyOf Tryz.f89))])
theorem Zrh (m n0 : Nat) (y0_0 : Nat) (y0_1 : Option Nat) (y0_2 : List D) (y0_3 : Int) (y0_4 : Int) : Z75 m (n0 + 1) y0_0 y0_1 y0_2 y0_3 y0_4 =
 (cond (decide (y0_4 < y0_3))
 (if 0 ≤ y0_4 ∧ y0_4 < ((y0_0 : Nat) : Int) then
 if (((Int.toNat y0_4) * 17) + 17) ≤ (List.length y0_2) then
 if (List.length ((List.drop ((Int.toNat y0_4) * 17) y0_2).take 17)) = 17 then
 (Z82 [(D.agg ((List.drop ((Int.toNat y0_4) * 17) y0_2).take 17))]).bind fun d7 =>
 (rdI .i64 (some d7)).bind fun x8 =>
 cond (x8 != (0 : Int))
 (some (D.v (.int .i64 x8)))
 (cond (y0_4 == (0 : Int))
 (Z75 m n0 y0_0 y0_1 y0_2 y0_3 (IntKind.wrap .i64 (y0_4 + (1 : Int))))
 (if 0 ≤ (IntKind.wrap .i64 (y0_4 - (1 : Int))) ∧ (IntKind.wrap .i64 (y0_4 - (1 : Int))) < ((y0_0 : Nat) : Int) then
 if (((Int.toNat (IntKind.wrap .i64 (y0_4 - (1 : Int)))) * 17) + 17) ≤ (List.length y0_2) then
 (Z5l [(D.agg ((List.drop ((Int.toNat (IntKind.wrap .i64 (y0_4 - (1 : Int)))) * 17) y0_2).take 17)), (D.agg ((List.drop ((Int.toNat y0_4) * 17) y0_2).take 17))]).bind fun d9 =>
 (rdI .i64 (some d9)).bind fun x10 =>
 cond (x10 == (0 : Int))
 (some (D.v (.int .i64 (14 : Int))))
 (cond (decide (x10 > (0 : Int)))
 (some (D.v (.int .i64 (13 : Int))))
 (Z75 m n0 y0_0 y0_1 y0_2 y0_3 (IntKind.wrap .i64 (y0_4 + (1 : Int)))))
 else none
 else none))
 else none
 else none
 else none)
 (some zI)) := by kernel_rfl
noncomputable def Zfj (m : Nat) (a0n : Nat) (a0c : Option Nat) (a0 : List D) : Option D :=
 cond (decide (((a0n : Nat) : Int) > (256 : Int)))
 (some (D.v (.int .i64 (3 : Int))))
 (Z75 m m a0n a0c a0 ((a0n : Nat) : Int) (0 : Int))
theorem Zsr (m : Nat) (a0n : Nat) (a0c : Option Nat) (a0 : List D) : funD Tryz.prog Z5m m 4 Z3g Tryz.f89 [(D.list a0n a0c a0)] = Zfj m a0n a0c a0 := by kernel_rfl
theorem Zux : Enters Tryz.prog 89 := ⟨Tryz.f89, Tryz.func89, by kernel_rfl, by kernel_rfl⟩
theorem Zuy {ds : List D} {d : D} (h : funD Tryz.prog Z5m M 4 Z3g Tryz.f89 ds = some d) : DataSem Tryz.prog 89 ds d := data_sound (H := Z5m) (SpOk.cons Zpt (SpOk.cons Zsq SpOk.nil)) mixed InlOk.nil Tryz.func89 Zux h
noncomputable def Z8k : List D → Option D
  | [.list a0n a0c a0] => Zfj M a0n a0c a0
  | _ => none
theorem Zuz : ∀ ds d, Z8k ds = some d → DataSem Tryz.prog 89 ds d := by
  intro ds d h
  unfold Z8k at h
  split at h
  · exact Zuy ((Zsr M _ _ _).trans h)
  · cases h

-- ('str', '"vidimus/vidimusref06.Check"')
def Z2b : FnH := ⟨[(4, ⟨(bm 10 46), [], (some 1)⟩)], [(3, ⟨(bm 2 46), [], (some 1)⟩)]⟩
noncomputable def Z3x : Hints := ⟨[], [], []⟩
noncomputable def Zoj (m : Nat) (u0_0 : List D) : Option D :=
 cutK m (codeK Tryz.prog Z3x.sp ⟨0, [], false, []⟩ (inlK Tryz.prog Z3x m 4) m Z2b (subc [1, 1] (bodyOf Tryz.f91)) ⟨[.junk, (AV.ptr 0 0), .junk, .junk, .junk, .junk, .junk, .junk, .junk, .junk, .junk, .junk, .junk, .junk, .junk, .junk, .junk, .junk, .junk, .junk, .junk, .junk, .junk, .junk, .junk, .junk, .junk, .junk, .junk, .junk, .junk, .junk, .junk, .junk, .junk, .junk, .junk, .junk, .junk, .junk, .junk, .junk, .junk, .junk, .junk, .junk], [(Blk.d 17 u0_0)]⟩
  (contK Tryz.prog Z3x.sp ⟨0, [], false, []⟩ (inlK Tryz.prog Z3x m 4) m Z2b (endK Tryz.prog Tryz.f91 (fun v L => viewK L 8 v some)) []))
noncomputable def Zfk (m n0 : Nat) (y0_0 : Int) (y0_1 : List D) : Option D :=
 loopIter (bm 10 46) 0 1 (codeK Tryz.prog Z3x.sp ⟨0, [], false, []⟩ (inlK Tryz.prog Z3x m 4) m Z2b (subc [1, 1, 0, 1, 0, 0] (bodyOf Tryz.f91))) n0 ⟨[.junk, (AV.ptr 0 0), .junk, (AV.d (D.v (.int .i64 y0_0))), .junk, .junk, .junk, .junk, .junk, .junk, .junk, .junk, .junk, .junk, .junk, .junk, .junk, .junk, .junk, .junk, .junk, .junk, .junk, .junk, .junk, .junk, .junk, .junk, .junk, .junk, .junk, .junk, .junk, .junk, .junk, .junk, .junk, .junk, .junk, .junk, .junk, .junk, .junk, .junk, .junk, .junk], [(Blk.d 17 y0_1)]⟩
  (contK Tryz.prog Z3x.sp ⟨0, [], false, []⟩ (inlK Tryz.prog Z3x m 4) m Z2b (endK Tryz.prog Tryz.f91 (fun v L => viewK L 8 v some)) [.block 0, .code (subc [1, 1, 1] (bodyOf Tryz.f91))])
theorem Ztk (m n0 : Nat) (y0_0 : Int) (y0_1 : List D) : Zfk m (n0 + 1) y0_0 y0_1 =
 (cond (decide (y0_0 < (16 : Int)))
 (if 0 ≤ y0_0 ∧ y0_0 < (16 : Int) then
 (rdI .u32 y0_1[(1 + ((Int.toNat y0_0) * 1))]?).bind fun x5 =>
 cond (x5 != (0 : Int))
 (some (D.v (.int .i64 (1 : Int))))
 (Zfk m n0 (IntKind.wrap .i64 (y0_0 + (1 : Int))) y0_1)
 else none)
 ((rdI .u32 y0_1[1]?).bind fun x6 =>
 cond (decide (x6 < (2 : Int)))
 ((rdI .u32 y0_1[2]?).bind fun x7 =>
 cond (decide (x7 < (40 : Int)))
 (some zI)
 ((rdI .u32 y0_1[1]?).bind fun x8 =>
 cond (x8 == (2 : Int))
 ((rdI .u32 y0_1[2]?).bind fun x9 =>
 cond (decide (x9 ≤ (4294967215 : Int)))
 (some zI)
 (some (D.v (.int .i64 (1 : Int)))))
 (some (D.v (.int .i64 (1 : Int))))))
 ((rdI .u32 y0_1[1]?).bind fun x10 =>
 cond (x10 == (2 : Int))
 ((rdI .u32 y0_1[2]?).bind fun x11 =>
 cond (decide (x11 ≤ (4294967215 : Int)))
 (some zI)
 (some (D.v (.int .i64 (1 : Int)))))
 (some (D.v (.int .i64 (1 : Int))))))) := by kernel_rfl
theorem Zss (m : Nat) (u0_0 : List D) : Zoj m u0_0 =
 ((rdI .u8 u0_0[0]?).bind fun x3 =>
 Zfk m m (IntKind.wrap .i64 x3) u0_0) := (cutK_eq m _).trans (by kernel_rfl)
noncomputable def Zjq (m : Nat) (a0 : List D) : Option D :=
 if (List.length a0) = 17 then
 (rdI .u8 a0[0]?).bind fun x1 =>
 cond (decide (x1 < (2 : Int)))
 (some (D.v (.int .i64 (1 : Int))))
 ((rdI .u8 a0[0]?).bind fun x2 =>
 cond (decide (x2 > (16 : Int)))
 (some (D.v (.int .i64 (1 : Int))))
 (Zoj m a0))
 else none
theorem Zv0 (m : Nat) (a0 : List D) : funD Tryz.prog Z3x m 4 Z2b Tryz.f91 [(D.agg a0)] = Zjq m a0 := by kernel_rfl
theorem Zxi : Enters Tryz.prog 91 := ⟨Tryz.f91, Tryz.func91, by kernel_rfl, by kernel_rfl⟩
theorem Zxj {ds : List D} {d : D} (h : funD Tryz.prog Z3x M 4 Z2b Tryz.f91 ds = some d) : DataSem Tryz.prog 91 ds d := data_sound (H := Z3x) SpOk.nil mixed InlOk.nil Tryz.func91 Zxi h
noncomputable def Z6b : List D → Option D
  | [.agg a0] => Zjq M a0
  | _ => none
theorem Zr6 : ∀ ds d, Z6b ds = some d → DataSem Tryz.prog 91 ds d := by
  intro ds d h
  unfold Z6b at h
  split at h
  · exact Zxj ((Zv0 M _).trans h)
  · cases h

-- ('str', '"vidimus/vidimusref06.Compare"')
def Zx : FnH := ⟨[(3, ⟨(bm 236 50), [], (some 2)⟩)], [(5, ⟨(bm 236 50), [], (some 2)⟩), (9, ⟨(bm 96 50), [], (some 0)⟩)]⟩
noncomputable def Z1o : Hints := ⟨[], [], []⟩
noncomputable def Zc2 (m n0 : Nat) (y0_0 : Int) (y0_1 : Int) (y0_2 : Int) (y0_3 : List D) (y0_4 : List D) : Option D :=
 loopIter (bm 236 50) 0 2 (codeK Tryz.prog Z1o.sp ⟨0, [], false, []⟩ (inlK Tryz.prog Z1o m 4) m Zx (subc [1, 1, 0, 1, 0, 0] (bodyOf Tryz.f62))) n0 ⟨[.junk, .junk, (AV.ptr 0 0), (AV.ptr 1 0), .junk, (AV.d (D.v (.int .i64 y0_0))), (AV.d (D.v (.int .i64 y0_1))), (AV.d (D.v (.int .i64 y0_2))), .junk, .junk, .junk, .junk, .junk, .junk, .junk, .junk, .junk, .junk, .junk, .junk, .junk, .junk, .junk, .junk, .junk, .junk, .junk, .junk, .junk, .junk, .junk, .junk, .junk, .junk, .junk, .junk, .junk, .junk, .junk, .junk, .junk, .junk, .junk, .junk, .junk, .junk, .junk, .junk, .junk, .junk], [(Blk.d 17 y0_3), (Blk.d 17 y0_4)]⟩
  (contK Tryz.prog Z1o.sp ⟨0, [], false, []⟩ (inlK Tryz.prog Z1o m 4) m Zx (endK Tryz.prog Tryz.f62 (fun v L => viewK L 8 v some)) [.block 0, .code (subc [1, 1, 1] (bodyOf Tryz.f62))])
noncomputable def Zlw (m n0 : Nat) (u0_0 : Int) (u0_1 : Int) (u0_2 : Int) (u0_3 : List D) (u0_4 : List D) : Option D :=
 cutK m (codeK Tryz.prog Z1o.sp ⟨0, [], false, []⟩ (inlK Tryz.prog Z1o m 4) m Zx (subc [1, 1, 0, 1, 0, 0, 1] (bodyOf Tryz.f62)) ⟨[.junk, .junk, (AV.ptr 0 0), (AV.ptr 1 0), .junk, (AV.d (D.v (.int .i64 u0_0))), (AV.d (D.v (.int .i64 u0_1))), (AV.d (D.v (.int .i64 u0_2))), .junk, .junk, .junk, .junk, .junk, .junk, .junk, .junk, .junk, .junk, .junk, .junk, .junk, .junk, .junk, .junk, .junk, .junk, .junk, .junk, .junk, .junk, .junk, .junk, .junk, .junk, .junk, .junk, .junk, .junk, .junk, .junk, .junk, .junk, .junk, .junk, .junk, .junk, .junk, .junk, .junk, .junk], [(Blk.d 17 u0_3), (Blk.d 17 u0_4)]⟩
  (contK Tryz.prog Z1o.sp ⟨0, [], false, []⟩ (inlK Tryz.prog Z1o m 4) m Zx (endK Tryz.prog Tryz.f62 (fun v L => viewK L 8 v some)) [.loop (bm 236 50) 2 (subc [1, 1, 0, 1, 0, 0] (bodyOf Tryz.f62)) n0, .block 0, .code (subc [1, 1, 1] (bodyOf Tryz.f62))]))
theorem Zqg (m n0 : Nat) (u0_0 : Int) (u0_1 : Int) (u0_2 : Int) (u0_3 : List D) (u0_4 : List D) : Zlw m n0 u0_0 u0_1 u0_2 u0_3 u0_4 =
 (if 0 ≤ u0_2 ∧ u0_2 < (16 : Int) then
 (rdI .u32 u0_3[(1 + ((Int.toNat u0_2) * 1))]?).bind fun x11 =>
 if 0 ≤ u0_2 ∧ u0_2 < (16 : Int) then
 (rdI .u32 u0_4[(1 + ((Int.toNat u0_2) * 1))]?).bind fun x12 =>
 cond (decide (x11 < x12))
 (some (D.v (.int .i64 (-1 : Int))))
 (if 0 ≤ u0_2 ∧ u0_2 < (16 : Int) then
 (rdI .u32 u0_3[(1 + ((Int.toNat u0_2) * 1))]?).bind fun x13 =>
 if 0 ≤ u0_2 ∧ u0_2 < (16 : Int) then
 (rdI .u32 u0_4[(1 + ((Int.toNat u0_2) * 1))]?).bind fun x14 =>
 cond (decide (x13 > x14))
 (some (D.v (.int .i64 (1 : Int))))
 (Zc2 m n0 u0_0 u0_1 (IntKind.wrap .i64 (u0_2 + (1 : Int))) u0_3 u0_4)
 else none
 else none)
 else none
 else none) := (cutK_eq m _).trans (by kernel_rfl)
noncomputable def Zfl (m : Nat) (u1_0 : Int) (u1_1 : Int) : Option D :=
 cutK m (codeK Tryz.prog Z1o.sp ⟨0, [], false, []⟩ (inlK Tryz.prog Z1o m 4) m Zx (subc [1, 1, 1] (bodyOf Tryz.f62)) ⟨[.junk, .junk, .junk, .junk, .junk, (AV.d (D.v (.int .i64 u1_0))), (AV.d (D.v (.int .i64 u1_1))), .junk, .junk, .junk, .junk, .junk, .junk, .junk, .junk, .junk, .junk, .junk, .junk, .junk, .junk, .junk, .junk, .junk, .junk, .junk, .junk, .junk, .junk, .junk, .junk, .junk, .junk, .junk, .junk, .junk, .junk, .junk, .junk, .junk, .junk, .junk, .junk, .junk, .junk, .junk, .junk, .junk, .junk, .junk], []⟩
  (contK Tryz.prog Z1o.sp ⟨0, [], false, []⟩ (inlK Tryz.prog Z1o m 4) m Zx (endK Tryz.prog Tryz.f62 (fun v L => viewK L 8 v some)) []))
theorem Zqh (m : Nat) (u1_0 : Int) (u1_1 : Int) : Zfl m u1_0 u1_1 =
 (cond (decide (u1_0 < u1_1))
 (some (D.v (.int .i64 (-1 : Int))))
 (cond (decide (u1_0 > u1_1))
 (some (D.v (.int .i64 (1 : Int))))
 (some zI))) := (cutK_eq m _).trans (by kernel_rfl)
theorem Zri (m n0 : Nat) (y0_0 : Int) (y0_1 : Int) (y0_2 : Int) (y0_3 : List D) (y0_4 : List D) : Zc2 m (n0 + 1) y0_0 y0_1 y0_2 y0_3 y0_4 =
 (cond (decide (y0_2 < y0_0))
 (cond (decide (y0_2 < y0_1))
 (Zlw m n0 y0_0 y0_1 y0_2 y0_3 y0_4)
 (Zfl m y0_0 y0_1))
 (Zfl m y0_0 y0_1)) := by kernel_rfl
noncomputable def Zfm (m : Nat) (a0 : List D) (a1 : List D) : Option D :=
 if (List.length a0) = 17 then
 if (List.length a1) = 17 then
 (rdI .u8 a0[0]?).bind fun x1 =>
 (rdI .u8 a1[0]?).bind fun x2 =>
 Zc2 m m (mm true (IntKind.wrap .i64 x1) (16 : Int)) (mm true (IntKind.wrap .i64 x2) (16 : Int)) (0 : Int) a0 a1
 else none
 else none
theorem Zst (m : Nat) (a0 : List D) (a1 : List D) : funD Tryz.prog Z1o m 4 Zx Tryz.f62 [(D.agg a0), (D.agg a1)] = Zfm m a0 a1 := by kernel_rfl
theorem Zv1 : Enters Tryz.prog 62 := ⟨Tryz.f62, Tryz.func62, by kernel_rfl, by kernel_rfl⟩
theorem Zv2 {ds : List D} {d : D} (h : funD Tryz.prog Z1o M 4 Zx Tryz.f62 ds = some d) : DataSem Tryz.prog 62 ds d := data_sound (H := Z1o) SpOk.nil mixed InlOk.nil Tryz.func62 Zv1 h
noncomputable def Z3q : List D → Option D
  | [.agg a0, .agg a1] => Zfm M a0 a1
  | _ => none
theorem Ziy : ∀ ds d, Z3q ds = some d → DataSem Tryz.prog 62 ds d := by
  intro ds d h
  unfold Z3q at h
  split at h
  · exact Zv2 ((Zst M _ _).trans h)
  · cases h

-- ('str', '"vidimus/vidimusref07.Check"')
def Z2c : FnH := ⟨[(4, ⟨(bm 9 36), [], (some 0)⟩)], [(5, ⟨(bm 9 36), [], (some 0)⟩)]⟩
noncomputable def Z3y : Hints := ⟨[(62, Z3q), (91, Z6b)], [], []⟩
noncomputable def Zfn (m n0 : Nat) (y0_0 : Nat) (y0_1 : Option Nat) (y0_2 : List D) (y0_3 : Int) : Option D :=
 loopIter (bm 9 36) 0 0 (codeK Tryz.prog Z3y.sp ⟨0, [], false, []⟩ (inlK Tryz.prog Z3y m 4) m Z2c (subc [1, 1, 0, 1, 0, 0] (bodyOf Tryz.f53))) n0 ⟨[(AV.d (D.list y0_0 y0_1 y0_2)), .junk, .junk, (AV.d (D.v (.int .i64 y0_3))), .junk, .junk, .junk, .junk, .junk, .junk, .junk, .junk, .junk, .junk, .junk, .junk, .junk, .junk, .junk, .junk, .junk, .junk, .junk, .junk, .junk, .junk, .junk, .junk, .junk, .junk, .junk, .junk, .junk, .junk, .junk, .junk], []⟩
  (contK Tryz.prog Z3y.sp ⟨0, [], false, []⟩ (inlK Tryz.prog Z3y m 4) m Z2c (endK Tryz.prog Tryz.f53 (fun v L => viewK L 8 v some)) [.block 0, .code (subc [1, 1, 1] (bodyOf Tryz.f53))])
noncomputable def Ziz (m n0 : Nat) (u0_0 : Nat) (u0_1 : Option Nat) (u0_2 : List D) (u0_3 : Int) : Option D :=
 cutK m (codeK Tryz.prog Z3y.sp ⟨0, [], false, []⟩ (inlK Tryz.prog Z3y m 4) m Z2c (subc [1, 1, 0, 1, 0, 0, 1, 1] (bodyOf Tryz.f53)) ⟨[(AV.d (D.list u0_0 u0_1 u0_2)), .junk, .junk, (AV.d (D.v (.int .i64 u0_3))), .junk, .junk, .junk, .junk, .junk, .junk, .junk, .junk, .junk, .junk, .junk, .junk, .junk, .junk, .junk, .junk, .junk, .junk, .junk, .junk, .junk, .junk, .junk, .junk, .junk, .junk, .junk, .junk, .junk, .junk, .junk, .junk], []⟩
  (contK Tryz.prog Z3y.sp ⟨0, [], false, []⟩ (inlK Tryz.prog Z3y m 4) m Z2c (endK Tryz.prog Tryz.f53 (fun v L => viewK L 8 v some)) [.loop (bm 9 36) 0 (subc [1, 1, 0, 1, 0, 0] (bodyOf Tryz.f53)) n0, .block 0, .code (subc [1, 1, 1] (bodyOf Tryz.f53))]))
theorem Zsu (m n0 : Nat) (u0_0 : Nat) (u0_1 : Option Nat) (u0_2 : List D) (u0_3 : Int) : Ziz m n0 u0_0 u0_1 u0_2 u0_3 =
 (Zfn m n0 u0_0 u0_1 u0_2 (IntKind.wrap .i64 (u0_3 + (1 : Int)))) := (cutK_eq m _).trans (by kernel_rfl)
theorem Ztl (m n0 : Nat) (y0_0 : Nat) (y0_1 : Option Nat) (y0_2 : List D) (y0_3 : Int) : Zfn m (n0 + 1) y0_0 y0_1 y0_2 y0_3 =
 (cond (decide (y0_3 < ((y0_0 : Nat) : Int)))
 (if 0 ≤ y0_3 ∧ y0_3 < ((y0_0 : Nat) : Int) then
 if (((Int.toNat y0_3) * 17) + 17) ≤ (List.length y0_2) then
 (Z6b [(D.agg ((List.drop ((Int.toNat y0_3) * 17) y0_2).take 17))]).bind fun d7 =>
 (rdI .i64 (some d7)).bind fun x8 =>
 cond (x8 != (0 : Int))
 (some (D.v (.int .i64 (1 : Int))))
 (cond (decide (y0_3 > (0 : Int)))
 (if 0 ≤ (IntKind.wrap .i64 (y0_3 - (1 : Int))) ∧ (IntKind.wrap .i64 (y0_3 - (1 : Int))) < ((y0_0 : Nat) : Int) then
 if (((Int.toNat (IntKind.wrap .i64 (y0_3 - (1 : Int)))) * 17) + 17) ≤ (List.length y0_2) then
 if 0 ≤ y0_3 ∧ y0_3 < ((y0_0 : Nat) : Int) then
 if (((Int.toNat y0_3) * 17) + 17) ≤ (List.length y0_2) then
 (Z3q [(D.agg ((List.drop ((Int.toNat (IntKind.wrap .i64 (y0_3 - (1 : Int)))) * 17) y0_2).take 17)), (D.agg ((List.drop ((Int.toNat y0_3) * 17) y0_2).take 17))]).bind fun d9 =>
 (rdI .i64 (some d9)).bind fun x10 =>
 cond (x10 == (0 : Int))
 (some (D.v (.int .i64 (14 : Int))))
 (cond (decide (x10 > (0 : Int)))
 (some (D.v (.int .i64 (13 : Int))))
 (Ziz m n0 y0_0 y0_1 y0_2 y0_3))
 else none
 else none
 else none
 else none)
 (Ziz m n0 y0_0 y0_1 y0_2 y0_3))
 else none
 else none)
 (some zI)) := by kernel_rfl
noncomputable def Zjr (m : Nat) (a0n : Nat) (a0c : Option Nat) (a0 : List D) : Option D :=
 cond (decide (((a0n : Nat) : Int) > (256 : Int)))
 (some (D.v (.int .i64 (3 : Int))))
 (Zfn m m a0n a0c a0 (0 : Int))
theorem Zv3 (m : Nat) (a0n : Nat) (a0c : Option Nat) (a0 : List D) : funD Tryz.prog Z3y m 4 Z2c Tryz.f53 [(D.list a0n a0c a0)] = Zjr m a0n a0c a0 := by kernel_rfl
theorem Zxk : Enters Tryz.prog 53 := ⟨Tryz.f53, Tryz.func53, by kernel_rfl, by kernel_rfl⟩
theorem Zxl {ds : List D} {d : D} (h : funD Tryz.prog Z3y M 4 Z2c Tryz.f53 ds = some d) : DataSem Tryz.prog 53 ds d := data_sound (H := Z3y) (SpOk.cons Ziy (SpOk.cons Zr6 SpOk.nil)) mixed InlOk.nil Tryz.func53 Zxk h
noncomputable def Zd6 : List D → Option D
  | [.list a0n a0c a0] => Zjr M a0n a0c a0
  | _ => none
theorem Zxm : ∀ ds d, Zd6 ds = some d → DataSem Tryz.prog 53 ds d := by
  intro ds d h
  unfold Zd6 at h
  split at h
  · exact Zxl ((Zv3 M _ _ _).trans h)
  · cases h

end Go.Ev
