/- Functions of the given program in plain form, printed: each with the proof that it is what the evaluator comes to, and that the program function returns what it says. No conditions. -/
import Derived.Test.YtjgpddbebgndbaaGreatDoorEzK1
import Derived.Test.YtjgpddbebgndbaaGreatDoorEzK2
set_option linter.unusedVariables false
set_option maxRecDepth 100000
namespace Go.Ev
open Go Go.Proofs

-- ('str', '"vidimus/oids.Check"')
def fh_oids_Check__oids_Check : FnH := ⟨[(6, ⟨[false, false, false, false, false, false, false, false, false, false, false, false, false, false, false, false, false, false, false, false, false, false, false, false, false, false, false, false, false, false, false, false, false, false, false, false, false, false, true, true, true, false, false, false, false, false, false], [], (some 1)⟩)], [(3, ⟨[false, true, false, false, false, false, false, false, false, false, false, false, false, false, false, false, false, false, false, false, false, false, false, false, false, false, false, false, false, false, false, false, false, false, false, false, false, false, false, false, false, false, false, false, false, false, false], [], (some 1)⟩), (5, ⟨[false, true, false, false, false, false, false, false, false, false, false, false, false, false, false, false, false, false, false, false, false, false, false, false, false, false, false, false, false, false, false, false, false, false, false, false, false, false, false, false, false, false, false, false, false, false, false], [], (some 1)⟩)]⟩
noncomputable def H_oids_Check : Hints := ⟨[], [], []⟩
noncomputable def F_oids_Check_j3 (m : Nat) (u0_0 : List D) : Option D :=
 cutK m (codeK Tryz.prog H_oids_Check.sp ⟨0, [], false, []⟩ (inlK Tryz.prog H_oids_Check m 4) m fh_oids_Check__oids_Check (subc [1, 1] (bodyOf Tryz.f58)) ⟨[.junk, (AV.ptr 0 0), .junk, .junk, .junk, .junk, .junk, .junk, .junk, .junk, .junk, .junk, .junk, .junk, .junk, .junk, .junk, .junk, .junk, .junk, .junk, .junk, .junk, .junk, .junk, .junk, .junk, .junk, .junk, .junk, .junk, .junk, .junk, .junk, .junk, .junk, .junk, .junk, .junk, .junk, .junk, .junk, .junk, .junk, .junk, .junk, .junk], [(Blk.d 17 u0_0)]⟩
  (contK Tryz.prog H_oids_Check.sp ⟨0, [], false, []⟩ (inlK Tryz.prog H_oids_Check m 4) m fh_oids_Check__oids_Check (endK Tryz.prog Tryz.f58 (fun v L => viewK L 8 v some)) []))
noncomputable def F_oids_Check_j5 (m : Nat) (u1_0 : List D) : Option D :=
 cutK m (codeK Tryz.prog H_oids_Check.sp ⟨0, [], false, []⟩ (inlK Tryz.prog H_oids_Check m 4) m fh_oids_Check__oids_Check (subc [1, 1, 1] (bodyOf Tryz.f58)) ⟨[.junk, (AV.ptr 0 0), .junk, .junk, .junk, .junk, .junk, .junk, .junk, .junk, .junk, .junk, .junk, .junk, .junk, .junk, .junk, .junk, .junk, .junk, .junk, .junk, .junk, .junk, .junk, .junk, .junk, .junk, .junk, .junk, .junk, .junk, .junk, .junk, .junk, .junk, .junk, .junk, .junk, .junk, .junk, .junk, .junk, .junk, .junk, .junk, .junk], [(Blk.d 17 u1_0)]⟩
  (contK Tryz.prog H_oids_Check.sp ⟨0, [], false, []⟩ (inlK Tryz.prog H_oids_Check m 4) m fh_oids_Check__oids_Check (endK Tryz.prog Tryz.f58 (fun v L => viewK L 8 v some)) []))
noncomputable def F_oids_Check_6 (m n0 : Nat) (y0_0 : Nat) (y0_1 : Nat) (y0_2 : Int) (y0_3 : Int) (y0_4 : List D) : Option D :=
 loopIter [false, false, false, false, false, false, false, false, false, false, false, false, false, false, false, false, false, false, false, false, false, false, false, false, false, false, false, false, false, false, false, false, false, false, false, false, false, false, true, true, true, false, false, false, false, false, false] 0 1 (codeK Tryz.prog H_oids_Check.sp ⟨0, [], false, []⟩ (inlK Tryz.prog H_oids_Check m 4) m fh_oids_Check__oids_Check (subc [1, 1, 1, 0, 1, 0, 0] (bodyOf Tryz.f58))) n0 ⟨[.junk, .junk, .junk, .junk, .junk, .junk, .junk, .junk, .junk, .junk, .junk, .junk, .junk, .junk, .junk, .junk, .junk, .junk, .junk, .junk, .junk, .junk, .junk, .junk, .junk, .junk, .junk, .junk, .junk, .junk, .junk, .junk, .junk, .junk, .junk, .junk, .junk, .junk, (AV.sl 0 y0_0 y0_1 (some y0_1) 1), (AV.d (D.v (.int .i64 y0_2))), (AV.d (D.v (.int .i64 y0_3))), .junk, .junk, .junk, .junk, .junk, .junk], [(Blk.d 17 y0_4)]⟩
  (contK Tryz.prog H_oids_Check.sp ⟨0, [], false, []⟩ (inlK Tryz.prog H_oids_Check m 4) m fh_oids_Check__oids_Check (endK Tryz.prog Tryz.f58 (fun v L => viewK L 8 v some)) [.block 0, .code (subc [1, 1, 1, 1] (bodyOf Tryz.f58))])
theorem F_oids_Check_6_s (m n0 : Nat) (y0_0 : Nat) (y0_1 : Nat) (y0_2 : Int) (y0_3 : Int) (y0_4 : List D) : F_oids_Check_6 m (n0 + 1) y0_0 y0_1 y0_2 y0_3 y0_4 =
 (cond (decide (y0_3 < y0_2))
 (if 0 ≤ y0_3 ∧ y0_3 < ((y0_1 : Nat) : Int) then
 (rdI .u32 y0_4[(y0_0 + ((Int.toNat y0_3) * 1))]?).bind fun x10 =>
 cond (x10 != (0 : Int))
 (some (D.v (.int .i64 (1 : Int))))
 (F_oids_Check_6 m n0 y0_0 y0_1 y0_2 (IntKind.wrap .i64 (y0_3 + (1 : Int))) y0_4)
 else none)
 (some (D.v (.int .i64 (0 : Int))))) := by kernel_rfl
theorem F_oids_Check_j5_e (m : Nat) (u1_0 : List D) : F_oids_Check_j5 m u1_0 =
 ((rdI .u8 u1_0[0]?).bind fun x7 =>
 if 0 ≤ x7 ∧ x7 ≤ (16 : Int) then
 F_oids_Check_6 m m (1 + ((Int.toNat x7) * 1)) (16 - (Int.toNat x7)) (((16 - (Int.toNat x7)) : Nat) : Int) (0 : Int) u1_0
 else none) := (cutK_eq m _).trans (by kernel_rfl)
theorem F_oids_Check_j3_e (m : Nat) (u0_0 : List D) : F_oids_Check_j3 m u0_0 =
 ((rdI .u32 u0_0[1]?).bind fun x4 =>
 cond (decide (x4 < (2 : Int)))
 ((rdI .u32 u0_0[2]?).bind fun x5 =>
 cond (decide (x5 > (39 : Int)))
 (some (D.v (.int .i64 (1 : Int))))
 ((rdI .u32 u0_0[2]?).bind fun x6 =>
 cond (decide (x6 > (4294967215 : Int)))
 (some (D.v (.int .i64 (1 : Int))))
 (F_oids_Check_j5 m u0_0)))
 ((rdI .u32 u0_0[2]?).bind fun x11 =>
 cond (decide (x11 > (4294967215 : Int)))
 (some (D.v (.int .i64 (1 : Int))))
 (F_oids_Check_j5 m u0_0))) := (cutK_eq m _).trans (by kernel_rfl)
noncomputable def F_oids_Check (m : Nat) (a0 : List D) : Option D :=
 if (List.length a0) = 17 then
 (rdI .u8 a0[0]?).bind fun x1 =>
 cond (decide (x1 < (2 : Int)))
 (some (D.v (.int .i64 (1 : Int))))
 ((rdI .u8 a0[0]?).bind fun x2 =>
 cond (decide (x2 > (16 : Int)))
 (some (D.v (.int .i64 (1 : Int))))
 ((rdI .u32 a0[1]?).bind fun x3 =>
 cond (decide (x3 > (2 : Int)))
 (some (D.v (.int .i64 (1 : Int))))
 (F_oids_Check_j3 m a0)))
 else none
theorem F_oids_Check_eq (m : Nat) (a0 : List D) : funD Tryz.prog H_oids_Check m 4 fh_oids_Check__oids_Check Tryz.f58 [(D.agg a0)] = F_oids_Check m a0 := by kernel_rfl
theorem en_oids_Check : Enters Tryz.prog 58 := ⟨Tryz.f58, Tryz.func58, by kernel_rfl, by kernel_rfl⟩
theorem dt_oids_Check {ds : List D} {d : D} (h : funD Tryz.prog H_oids_Check M 4 fh_oids_Check__oids_Check Tryz.f58 ds = some d) : DataSem Tryz.prog 58 ds d := data_sound (H := H_oids_Check) SpOk.nil mixed InlOk.nil Tryz.func58 en_oids_Check h
noncomputable def sp_oids_Check : List D → Option D
  | [.agg a0] => F_oids_Check M a0
  | _ => none
theorem ds_oids_Check : ∀ ds d, sp_oids_Check ds = some d → DataSem Tryz.prog 58 ds d := by
  intro ds d h
  unfold sp_oids_Check at h
  split at h
  · exact dt_oids_Check ((F_oids_Check_eq M _).trans h)
  · cases h

-- ('str', '"cmp.Compare[uint32]"')
def fh_cmp_Compare_uint32__cmp_Compare_uint32 : FnH := ⟨[], []⟩
def fh_cmp_Compare_uint32__cmp_isNaN_uint32 : FnH := ⟨[], []⟩
noncomputable def H_cmp_Compare_uint32 : Hints := ⟨[], [(91, Tryz.f91, fh_cmp_Compare_uint32__cmp_isNaN_uint32)], []⟩
noncomputable def F_cmp_Compare_uint32 (m : Nat) (a0 : Int) (a1 : Int) : Option D :=
 cond (a0 != a0)
 (cond (a1 != a1)
 (some (D.v (.int .i64 (0 : Int))))
 (some (D.v (.int .i64 (-1 : Int)))))
 (cond (a1 != a1)
 (some (D.v (.int .i64 (1 : Int))))
 (cond (decide (a0 < a1))
 (some (D.v (.int .i64 (-1 : Int))))
 (cond (decide (a0 > a1))
 (some (D.v (.int .i64 (1 : Int))))
 (some (D.v (.int .i64 (0 : Int)))))))
theorem F_cmp_Compare_uint32_eq (m : Nat) (a0 : Int) (a1 : Int) : funD Tryz.prog H_cmp_Compare_uint32 m 4 fh_cmp_Compare_uint32__cmp_Compare_uint32 Tryz.f84 [(D.v (.int .u32 a0)), (D.v (.int .u32 a1))] = F_cmp_Compare_uint32 m a0 a1 := by kernel_rfl
theorem en_cmp_Compare_uint32 : Enters Tryz.prog 84 := ⟨Tryz.f84, Tryz.func84, by kernel_rfl, by kernel_rfl⟩
theorem dt_cmp_Compare_uint32 {ds : List D} {d : D} (h : funD Tryz.prog H_cmp_Compare_uint32 M 4 fh_cmp_Compare_uint32__cmp_Compare_uint32 Tryz.f84 ds = some d) : DataSem Tryz.prog 84 ds d := data_sound (H := H_cmp_Compare_uint32) SpOk.nil mixed (InlOk.cons Tryz.func91 en_cmp_isNaN_uint32 InlOk.nil) Tryz.func84 en_cmp_Compare_uint32 h
noncomputable def sp_cmp_Compare_uint32 : List D → Option D
  | [.v (.int .u32 a0), .v (.int .u32 a1)] => F_cmp_Compare_uint32 M a0 a1
  | _ => none
theorem ds_cmp_Compare_uint32 : ∀ ds d, sp_cmp_Compare_uint32 ds = some d → DataSem Tryz.prog 84 ds d := by
  intro ds d h
  unfold sp_cmp_Compare_uint32 at h
  split at h
  · exact dt_cmp_Compare_uint32 ((F_cmp_Compare_uint32_eq M _ _).trans h)
  · cases h

-- ('str', '"slices.Compare[[]uint32,uint32]"')
def fh_slices_Compare_uint32_uint32__slices_Compare_uint32_uint32 : FnH := ⟨[(2, ⟨[true, true, false, false, false, false, false, false, false, true, true, true, false, false, false, false, false, false, false, false, false, false, false, false, false, false, false, false, false, false, false, false, false, false, false, false], [], (some 0)⟩)], []⟩
noncomputable def H_slices_Compare_uint32_uint32 : Hints := ⟨[(84, sp_cmp_Compare_uint32)], [], []⟩
noncomputable def F_slices_Compare_uint32_uint32_2 (m n0 : Nat) (y0_0 : Nat) (y0_1 : Option Nat) (y0_2 : List D) (y0_3 : Nat) (y0_4 : Option Nat) (y0_5 : List D) (y0_6 : Int) (y0_7 : Int) : Option D :=
 loopIter [true, true, false, false, false, false, false, false, false, true, true, true, false, false, false, false, false, false, false, false, false, false, false, false, false, false, false, false, false, false, false, false, false, false, false, false] 0 0 (codeK Tryz.prog H_slices_Compare_uint32_uint32.sp ⟨0, [], false, []⟩ (inlK Tryz.prog H_slices_Compare_uint32_uint32 m 4) m fh_slices_Compare_uint32_uint32__slices_Compare_uint32_uint32 (subc [1, 0, 1, 0, 0] (bodyOf Tryz.f68))) n0 ⟨[(AV.d (D.list y0_0 y0_1 y0_2)), (AV.d (D.list y0_3 y0_4 y0_5)), .junk, .junk, .junk, .junk, .junk, .junk, .junk, (AV.d (D.list y0_0 y0_1 y0_2)), (AV.d (D.v (.int .i64 y0_6))), (AV.d (D.v (.int .i64 y0_7))), .junk, .junk, .junk, .junk, .junk, .junk, .junk, .junk, .junk, .junk, .junk, .junk, .junk, .junk, .junk, .junk, .junk, .junk, .junk, .junk, .junk, .junk, .junk, .junk], []⟩
  (contK Tryz.prog H_slices_Compare_uint32_uint32.sp ⟨0, [], false, []⟩ (inlK Tryz.prog H_slices_Compare_uint32_uint32 m 4) m fh_slices_Compare_uint32_uint32__slices_Compare_uint32_uint32 (endK Tryz.prog Tryz.f68 (fun v L => viewK L 8 v some)) [.block 0, .code (subc [1, 1] (bodyOf Tryz.f68))])
noncomputable def F_slices_Compare_uint32_uint32 (m : Nat) (a0n : Nat) (a0c : Option Nat) (a0 : List D) (a1n : Nat) (a1c : Option Nat) (a1 : List D) : Option D :=
 F_slices_Compare_uint32_uint32_2 m m a0n a0c a0 a1n a1c a1 ((a0n : Nat) : Int) (0 : Int)
theorem F_slices_Compare_uint32_uint32_eq (m : Nat) (a0n : Nat) (a0c : Option Nat) (a0 : List D) (a1n : Nat) (a1c : Option Nat) (a1 : List D) : funD Tryz.prog H_slices_Compare_uint32_uint32 m 4 fh_slices_Compare_uint32_uint32__slices_Compare_uint32_uint32 Tryz.f68 [(D.list a0n a0c a0), (D.list a1n a1c a1)] = F_slices_Compare_uint32_uint32 m a0n a0c a0 a1n a1c a1 := by kernel_rfl
theorem en_slices_Compare_uint32_uint32 : Enters Tryz.prog 68 := ⟨Tryz.f68, Tryz.func68, by kernel_rfl, by kernel_rfl⟩
theorem dt_slices_Compare_uint32_uint32 {ds : List D} {d : D} (h : funD Tryz.prog H_slices_Compare_uint32_uint32 M 4 fh_slices_Compare_uint32_uint32__slices_Compare_uint32_uint32 Tryz.f68 ds = some d) : DataSem Tryz.prog 68 ds d := data_sound (H := H_slices_Compare_uint32_uint32) (SpOk.cons ds_cmp_Compare_uint32 SpOk.nil) mixed InlOk.nil Tryz.func68 en_slices_Compare_uint32_uint32 h
noncomputable def sp_slices_Compare_uint32_uint32 : List D → Option D
  | [.list a0n a0c a0, .list a1n a1c a1] => F_slices_Compare_uint32_uint32 M a0n a0c a0 a1n a1c a1
  | _ => none
theorem ds_slices_Compare_uint32_uint32 : ∀ ds d, sp_slices_Compare_uint32_uint32 ds = some d → DataSem Tryz.prog 68 ds d := by
  intro ds d h
  unfold sp_slices_Compare_uint32_uint32 at h
  split at h
  · exact dt_slices_Compare_uint32_uint32 ((F_slices_Compare_uint32_uint32_eq M _ _ _ _ _ _).trans h)
  · cases h

-- ('str', '"vidimus/oids.Compare"')
def fh_oids_Compare__oids_Compare : FnH := ⟨[], []⟩
def fh_oids_Compare__oids_arcs : FnH := ⟨[], []⟩
noncomputable def H_oids_Compare : Hints := ⟨[(68, sp_slices_Compare_uint32_uint32)], [(69, Tryz.f69, fh_oids_Compare__oids_arcs)], []⟩
noncomputable def F_oids_Compare (m : Nat) (a0 : List D) (a1 : List D) : Option D :=
 if (List.length a0) = 17 then
 if (List.length a1) = 17 then
 (rdI .u8 a0[0]?).bind fun x1 =>
 if 0 ≤ (mm true (IntKind.wrap .i64 x1) (16 : Int)) ∧ (mm true (IntKind.wrap .i64 x1) (16 : Int)) ≤ (16 : Int) then
 (rdI .u8 a1[0]?).bind fun x2 =>
 if 0 ≤ (mm true (IntKind.wrap .i64 x2) (16 : Int)) ∧ (mm true (IntKind.wrap .i64 x2) (16 : Int)) ≤ (16 : Int) then
 if (1 + (((Int.toNat (mm true (IntKind.wrap .i64 x1) (16 : Int))) - 0) * 1)) ≤ 17 then
 if (1 + (((Int.toNat (mm true (IntKind.wrap .i64 x2) (16 : Int))) - 0) * 1)) ≤ 17 then
 (sp_slices_Compare_uint32_uint32 [(D.list ((Int.toNat (mm true (IntKind.wrap .i64 x1) (16 : Int))) - 0) (some 16) (cutL 17 a0 1 (((Int.toNat (mm true (IntKind.wrap .i64 x1) (16 : Int))) - 0) * 1))), (D.list ((Int.toNat (mm true (IntKind.wrap .i64 x2) (16 : Int))) - 0) (some 16) (cutL 17 a1 1 (((Int.toNat (mm true (IntKind.wrap .i64 x2) (16 : Int))) - 0) * 1)))]).bind fun d3 =>
 (rdI .i64 (some d3)).bind fun x4 =>
 some (D.v (.int .i64 x4))
 else none
 else none
 else none
 else none
 else none
 else none
theorem F_oids_Compare_eq (m : Nat) (a0 : List D) (a1 : List D) : funD Tryz.prog H_oids_Compare m 4 fh_oids_Compare__oids_Compare Tryz.f59 [(D.agg a0), (D.agg a1)] = F_oids_Compare m a0 a1 := by kernel_rfl
theorem en_oids_Compare : Enters Tryz.prog 59 := ⟨Tryz.f59, Tryz.func59, by kernel_rfl, by kernel_rfl⟩
theorem dt_oids_Compare {ds : List D} {d : D} (h : funD Tryz.prog H_oids_Compare M 4 fh_oids_Compare__oids_Compare Tryz.f59 ds = some d) : DataSem Tryz.prog 59 ds d := data_sound (H := H_oids_Compare) (SpOk.cons ds_slices_Compare_uint32_uint32 SpOk.nil) mixed (InlOk.cons Tryz.func69 en_oids_arcs InlOk.nil) Tryz.func59 en_oids_Compare h
noncomputable def sp_oids_Compare : List D → Option D
  | [.agg a0, .agg a1] => F_oids_Compare M a0 a1
  | _ => none
theorem ds_oids_Compare : ∀ ds d, sp_oids_Compare ds = some d → DataSem Tryz.prog 59 ds d := by
  intro ds d h
  unfold sp_oids_Compare at h
  split at h
  · exact dt_oids_Compare ((F_oids_Compare_eq M _ _).trans h)
  · cases h

-- ('str', '"vidimus/oidsets.Check"')
def fh_oidsets_Check__oidsets_Check : FnH := ⟨[(4, ⟨[true, false, false, false, false, false, false, false, false, false, true, true, true, false, false, false, false, false, false, false, false, false, false, false, false, false, false, false, false, false, false, false, false, false, false, false, false, false], [], (some 0)⟩)], []⟩
noncomputable def H_oidsets_Check : Hints := ⟨[(58, sp_oids_Check), (59, sp_oids_Compare)], [], []⟩
noncomputable def F_oidsets_Check_4 (m n0 : Nat) (y0_0 : Nat) (y0_1 : Option Nat) (y0_2 : List D) (y0_3 : Int) (y0_4 : Int) : Option D :=
 loopIter [true, false, false, false, false, false, false, false, false, false, true, true, true, false, false, false, false, false, false, false, false, false, false, false, false, false, false, false, false, false, false, false, false, false, false, false, false, false] 0 0 (codeK Tryz.prog H_oidsets_Check.sp ⟨0, [], false, []⟩ (inlK Tryz.prog H_oidsets_Check m 4) m fh_oidsets_Check__oidsets_Check (subc [1, 1, 0, 1, 0, 0] (bodyOf Tryz.f51))) n0 ⟨[(AV.d (D.list y0_0 y0_1 y0_2)), .junk, .junk, .junk, .junk, .junk, .junk, .junk, .junk, .junk, (AV.d (D.list y0_0 y0_1 y0_2)), (AV.d (D.v (.int .i64 y0_3))), (AV.d (D.v (.int .i64 y0_4))), .junk, .junk, .junk, .junk, .junk, .junk, .junk, .junk, .junk, .junk, .junk, .junk, .junk, .junk, .junk, .junk, .junk, .junk, .junk, .junk, .junk, .junk, .junk, .junk, .junk], []⟩
  (contK Tryz.prog H_oidsets_Check.sp ⟨0, [], false, []⟩ (inlK Tryz.prog H_oidsets_Check m 4) m fh_oidsets_Check__oidsets_Check (endK Tryz.prog Tryz.f51 (fun v L => viewK L 8 v some)) [.block 0, .code (subc [1, 1, 1] (bodyOf Tryz.f51))])
noncomputable def F_oidsets_Check (m : Nat) (a0n : Nat) (a0c : Option Nat) (a0 : List D) : Option D :=
 cond (decide (((a0n : Nat) : Int) > (256 : Int)))
 (some (D.v (.int .i64 (3 : Int))))
 (F_oidsets_Check_4 m m a0n a0c a0 ((a0n : Nat) : Int) (0 : Int))
theorem F_oidsets_Check_eq (m : Nat) (a0n : Nat) (a0c : Option Nat) (a0 : List D) : funD Tryz.prog H_oidsets_Check m 4 fh_oidsets_Check__oidsets_Check Tryz.f51 [(D.list a0n a0c a0)] = F_oidsets_Check m a0n a0c a0 := by kernel_rfl
theorem en_oidsets_Check : Enters Tryz.prog 51 := ⟨Tryz.f51, Tryz.func51, by kernel_rfl, by kernel_rfl⟩
theorem dt_oidsets_Check {ds : List D} {d : D} (h : funD Tryz.prog H_oidsets_Check M 4 fh_oidsets_Check__oidsets_Check Tryz.f51 ds = some d) : DataSem Tryz.prog 51 ds d := data_sound (H := H_oidsets_Check) (SpOk.cons ds_oids_Check (SpOk.cons ds_oids_Compare SpOk.nil)) mixed InlOk.nil Tryz.func51 en_oidsets_Check h
noncomputable def sp_oidsets_Check : List D → Option D
  | [.list a0n a0c a0] => F_oidsets_Check M a0n a0c a0
  | _ => none
theorem ds_oidsets_Check : ∀ ds d, sp_oidsets_Check ds = some d → DataSem Tryz.prog 51 ds d := by
  intro ds d h
  unfold sp_oidsets_Check at h
  split at h
  · exact dt_oidsets_Check ((F_oidsets_Check_eq M _ _ _).trans h)
  · cases h

-- ('str', '"vidimus/records.Inputs"')
def fh_records_Inputs__records_Inputs : FnH := ⟨[], []⟩
noncomputable def H_records_Inputs : Hints := ⟨[(51, sp_oidsets_Check)], [], []⟩
noncomputable def F_records_Inputs (m : Nat) (a0_0n : Nat) (a0_0c : Option Nat) (a0_0 : List D) (a0_1 : Bool) (a0_2 : Bool) (a0_3 : Bool) : Option D :=
 (sp_oidsets_Check [(D.list a0_0n a0_0c a0_0)]).bind fun d1 =>
 (rdI .i64 (some d1)).bind fun x2 =>
 some (D.v (.int .i64 x2))
theorem F_records_Inputs_eq (m : Nat) (a0_0n : Nat) (a0_0c : Option Nat) (a0_0 : List D) (a0_1 : Bool) (a0_2 : Bool) (a0_3 : Bool) : funD Tryz.prog H_records_Inputs m 4 fh_records_Inputs__records_Inputs Tryz.f34 [(D.agg [(D.list a0_0n a0_0c a0_0), (D.v (.bool a0_1)), (D.v (.bool a0_2)), (D.v (.bool a0_3))])] = F_records_Inputs m a0_0n a0_0c a0_0 a0_1 a0_2 a0_3 := by kernel_rfl
theorem en_records_Inputs : Enters Tryz.prog 34 := ⟨Tryz.f34, Tryz.func34, by kernel_rfl, by kernel_rfl⟩
theorem dt_records_Inputs {ds : List D} {d : D} (h : funD Tryz.prog H_records_Inputs M 4 fh_records_Inputs__records_Inputs Tryz.f34 ds = some d) : DataSem Tryz.prog 34 ds d := data_sound (H := H_records_Inputs) (SpOk.cons ds_oidsets_Check SpOk.nil) mixed InlOk.nil Tryz.func34 en_records_Inputs h
noncomputable def sp_records_Inputs : List D → Option D
  | [.agg [.list a0_0n a0_0c a0_0, .v (.bool a0_1), .v (.bool a0_2), .v (.bool a0_3)]] => F_records_Inputs M a0_0n a0_0c a0_0 a0_1 a0_2 a0_3
  | _ => none
theorem ds_records_Inputs : ∀ ds d, sp_records_Inputs ds = some d → DataSem Tryz.prog 34 ds d := by
  intro ds d h
  unfold sp_records_Inputs at h
  split at h
  · exact dt_records_Inputs ((F_records_Inputs_eq M _ _ _ _ _ _).trans h)
  · cases h

-- ('str', '"vidimus/vidimusref06.Check"')
end Go.Ev
