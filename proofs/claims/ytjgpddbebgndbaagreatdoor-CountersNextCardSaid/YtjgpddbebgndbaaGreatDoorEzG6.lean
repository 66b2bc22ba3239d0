/- Functions of the given program in plain form, printed: each with the proof that it is what the evaluator comes to, and that the program function returns what it says. No conditions. -/
import Derived.Test.YtjgpddbebgndbaaGreatDoorEzG4
import Derived.Test.YtjgpddbebgndbaaGreatDoorEzG5
set_option linter.unusedVariables false
set_option maxRecDepth 100000
namespace Go.Ev
open Go Go.Proofs

-- ('str', '"vidimus/vidimuslaw24.CountersNext"')
def fh_law24_CountersNext__law24_CountersNext : FnH := ⟨[], [(8, ⟨[false, false, true, false, false, false, true, false, true, false, false, false, false, false, false, false, false, false, false, false, false, false, false, false, false, false, false, false, false, false, false, false, false, false, false, false, false, false, false, false, false, false, false, false, false, false, false, false, false, false, false, false, false, false, false, false, false, false, false, false, false, false, false, false, false, false, false, false, false, false, false, false, false, false, false, false, false, false, false, false, false, false, false, false, false, false, false, false, false, false, false, false, false], [], (some 4)⟩)]⟩
noncomputable def H_law24_CountersNext : Hints := ⟨[(10, sp_law24_lives), (14, sp_law24_check), (15, sp_law24_three), (25, sp_law23_R_Of), (26, sp_counters_Next), (27, sp_counters_Wrap), (28, sp_ref24_Next), (29, sp_ref24_Wrap)], [], []⟩
noncomputable def F_law24_CountersNext_j8 (m : Nat) (u0_0 : Int) (u0_1 : Int) (u0_2 : Int) (u0_3 : Int) (u0_4 : Int) (u0_5 : Nat) (u0_6 : Option Nat) (u0_7 : List D) (u0_8 : Nat) (u0_9 : Option Nat) (u0_10 : List D) (u0_11 : Int) (u0_12 : Int) (u0_13 : Int) (u0_14 : List D) (u0_15 : List D) : Option D :=
 cutK m (codeK Tryz.prog H_law24_CountersNext.sp ⟨0, [], false, []⟩ (inlK Tryz.prog H_law24_CountersNext m 4) m fh_law24_CountersNext__law24_CountersNext (subc [1, 1, 1, 1, 1, 1] (bodyOf Tryz.f8)) ⟨[.junk, .junk, (AV.ptr 0 0), .junk, .junk, .junk, (AV.ptr 3 0), .junk, (AV.d (D.v (.int .i64 u0_0))), .junk, .junk, .junk, .junk, .junk, .junk, .junk, .junk, .junk, .junk, .junk, .junk, .junk, .junk, .junk, .junk, .junk, .junk, .junk, .junk, .junk, .junk, .junk, .junk, .junk, .junk, .junk, .junk, .junk, .junk, .junk, .junk, .junk, .junk, .junk, .junk, .junk, .junk, .junk, .junk, .junk, .junk, .junk, .junk, .junk, .junk, .junk, .junk, .junk, .junk, .junk, .junk, .junk, .junk, .junk, .junk, .junk, .junk, .junk, .junk, .junk, .junk, .junk, .junk, .junk, .junk, .junk, .junk, .junk, .junk, .junk, .junk, .junk, .junk, .junk, .junk, .junk, .junk, .junk, .junk, .junk, .junk, .junk, .junk], [(Blk.d 3 [(D.v (.int .i64 u0_1)), (D.v (.int .i64 u0_2)), (D.v (.int .i64 u0_3))]), (Blk.d 6 [(D.v (.int .u8 u0_4)), (D.list u0_5 u0_6 u0_7), (D.list u0_8 u0_9 u0_10), (D.v (.int .u8 u0_11)), (D.v (.int .u8 u0_12)), (D.v (.int .u8 u0_13))]), (Blk.d 8 u0_14), (Blk.d 3 u0_15)]⟩
  (contK Tryz.prog H_law24_CountersNext.sp ⟨0, [], false, []⟩ (inlK Tryz.prog H_law24_CountersNext m 4) m fh_law24_CountersNext__law24_CountersNext (endK Tryz.prog Tryz.f8 (fun v L => viewK L 8 v some)) []))
theorem F_law24_CountersNext_j8_e (m : Nat) (u0_0 : Int) (u0_1 : Int) (u0_2 : Int) (u0_3 : Int) (u0_4 : Int) (u0_5 : Nat) (u0_6 : Option Nat) (u0_7 : List D) (u0_8 : Nat) (u0_9 : Option Nat) (u0_10 : List D) (u0_11 : Int) (u0_12 : Int) (u0_13 : Int) (u0_14 : List D) (u0_15 : List D) : F_law24_CountersNext_j8 m u0_0 u0_1 u0_2 u0_3 u0_4 u0_5 u0_6 u0_7 u0_8 u0_9 u0_10 u0_11 u0_12 u0_13 u0_14 u0_15 =
 ((rdI .i64 u0_15[0]?).bind fun x23 =>
 cond (decide (x23 ≤ u0_1))
 ((rdI .i64 u0_15[1]?).bind fun x24 =>
 cond (decide (x24 ≤ u0_2))
 ((rdI .i64 u0_15[2]?).bind fun x25 =>
 cond (decide (x25 ≤ u0_3))
 (cond (decide (u0_0 ≤ u0_1))
 ((sp_law24_lives []).bind fun d26 =>
 (rdB (some d26)).bind fun b27 =>
 some (D.v (.bool b27)))
 (some (D.v (.bool false))))
 (some (D.v (.bool false))))
 (some (D.v (.bool false))))
 (some (D.v (.bool false)))) := (cutK_eq m _).trans (by kernel_rfl)
noncomputable def F_law24_CountersNext (m : Nat) (a0_0 : Int) (a0_1 : Int) (a0_2 : Int) (a1_0 : Int) (a1_1n : Nat) (a1_1c : Option Nat) (a1_1 : List D) (a1_2n : Nat) (a1_2c : Option Nat) (a1_2 : List D) (a1_3 : Int) (a1_4 : Int) (a1_5 : Int) : Option D :=
 (sp_law23_R_Of [(D.agg [(D.v (.int .u8 a1_0)), (D.list a1_1n a1_1c a1_1), (D.list a1_2n a1_2c a1_2), (D.v (.int .u8 a1_3)), (D.v (.int .u8 a1_4)), (D.v (.int .u8 a1_5))])]).bind fun d1 =>
 (rdA (some d1)).bind fun c2 =>
 if (List.length c2) = 8 then
 (sp_counters_Next [(D.agg [(D.v (.int .i64 a0_0)), (D.v (.int .i64 a0_1)), (D.v (.int .i64 a0_2))]), (D.agg c2)]).bind fun d3 =>
 (rdT d3).bind fun r4 =>
 if List.length r4 = 2 then
 (rdA r4[0]?).bind fun c5 =>
 (rdI .i64 r4[1]?).bind fun x6 =>
 if (List.length c5) = 3 then
 (sp_counters_Wrap [(D.agg [(D.v (.int .i64 a0_0)), (D.v (.int .i64 a0_1)), (D.v (.int .i64 a0_2))]), (D.agg c2)]).bind fun d7 =>
 (rdT d7).bind fun r8 =>
 if List.length r8 = 2 then
 (rdI .i64 r8[0]?).bind fun x9 =>
 (rdI .i64 r8[1]?).bind fun x10 =>
 (sp_law24_check [(D.agg [(D.v (.int .i64 a0_0)), (D.v (.int .i64 a0_1)), (D.v (.int .i64 a0_2))])]).bind fun d11 =>
 (rdI .i64 (some d11)).bind fun x12 =>
 cond (x12 != (0 : Int))
 (cond (x6 == (1 : Int))
 (cond (x10 == (1 : Int))
 ((sp_law24_three [(D.v (.int .i64 (0 : Int))), (D.v (.int .i64 (0 : Int))), (D.v (.int .i64 (0 : Int)))]).bind fun d13 =>
 (rdA (some d13)).bind fun c14 =>
 (cellsEq [.int, .int, .int] c5 c14).bind fun b15 =>
 cond b15
 (cond (x9 == (0 : Int))
 ((sp_law24_lives []).bind fun d16 =>
 (rdB (some d16)).bind fun b17 =>
 some (D.v (.bool b17)))
 (some (D.v (.bool false))))
 (some (D.v (.bool false))))
 (some (D.v (.bool false))))
 (some (D.v (.bool false))))
 (cond (x6 != (0 : Int))
 (some (D.v (.bool false)))
 (cond (x10 != (0 : Int))
 (some (D.v (.bool false)))
 ((sp_ref24_Next [(D.agg [(D.v (.int .i64 a0_0)), (D.v (.int .i64 a0_1)), (D.v (.int .i64 a0_2))]), (D.agg c2)]).bind fun d18 =>
 (rdA (some d18)).bind fun c19 =>
 (cellsEq [.int, .int, .int] c5 c19).bind fun b20 =>
 cond (!b20)
 (some (D.v (.bool false)))
 ((sp_ref24_Wrap [(D.agg [(D.v (.int .i64 a0_0)), (D.v (.int .i64 a0_1)), (D.v (.int .i64 a0_2))]), (D.agg c2)]).bind fun d21 =>
 (rdI .i64 (some d21)).bind fun x22 =>
 cond (x9 != x22)
 (some (D.v (.bool false)))
 (F_law24_CountersNext_j8 m x9 a0_0 a0_1 a0_2 a1_0 a1_1n a1_1c a1_1 a1_2n a1_2c a1_2 a1_3 a1_4 a1_5 c2 c5)))))
 else none
 else none
 else none
 else none
theorem F_law24_CountersNext_eq (m : Nat) (a0_0 : Int) (a0_1 : Int) (a0_2 : Int) (a1_0 : Int) (a1_1n : Nat) (a1_1c : Option Nat) (a1_1 : List D) (a1_2n : Nat) (a1_2c : Option Nat) (a1_2 : List D) (a1_3 : Int) (a1_4 : Int) (a1_5 : Int) : funD Tryz.prog H_law24_CountersNext m 4 fh_law24_CountersNext__law24_CountersNext Tryz.f8 [(D.agg [(D.v (.int .i64 a0_0)), (D.v (.int .i64 a0_1)), (D.v (.int .i64 a0_2))]), (D.agg [(D.v (.int .u8 a1_0)), (D.list a1_1n a1_1c a1_1), (D.list a1_2n a1_2c a1_2), (D.v (.int .u8 a1_3)), (D.v (.int .u8 a1_4)), (D.v (.int .u8 a1_5))])] = F_law24_CountersNext m a0_0 a0_1 a0_2 a1_0 a1_1n a1_1c a1_1 a1_2n a1_2c a1_2 a1_3 a1_4 a1_5 := by kernel_rfl
theorem en_law24_CountersNext : Enters Tryz.prog 8 := ⟨Tryz.f8, Tryz.func8, by kernel_rfl, by kernel_rfl⟩
theorem dt_law24_CountersNext {ds : List D} {d : D} (h : funD Tryz.prog H_law24_CountersNext M 4 fh_law24_CountersNext__law24_CountersNext Tryz.f8 ds = some d) : DataSem Tryz.prog 8 ds d := data_sound (H := H_law24_CountersNext) (SpOk.cons ds_law24_lives (SpOk.cons ds_law24_check (SpOk.cons ds_law24_three (SpOk.cons ds_law23_R_Of (SpOk.cons ds_counters_Next (SpOk.cons ds_counters_Wrap (SpOk.cons ds_ref24_Next (SpOk.cons ds_ref24_Wrap SpOk.nil)))))))) mixed InlOk.nil Tryz.func8 en_law24_CountersNext h
noncomputable def sp_law24_CountersNext : List D → Option D
  | [.agg [.v (.int .i64 a0_0), .v (.int .i64 a0_1), .v (.int .i64 a0_2)], .agg [.v (.int .u8 a1_0), .list a1_1n a1_1c a1_1, .list a1_2n a1_2c a1_2, .v (.int .u8 a1_3), .v (.int .u8 a1_4), .v (.int .u8 a1_5)]] => F_law24_CountersNext M a0_0 a0_1 a0_2 a1_0 a1_1n a1_1c a1_1 a1_2n a1_2c a1_2 a1_3 a1_4 a1_5
  | _ => none
theorem ds_law24_CountersNext : ∀ ds d, sp_law24_CountersNext ds = some d → DataSem Tryz.prog 8 ds d := by
  intro ds d h
  unfold sp_law24_CountersNext at h
  split at h
  · exact dt_law24_CountersNext ((F_law24_CountersNext_eq M _ _ _ _ _ _ _ _ _ _ _ _ _).trans h)
  · cases h

-- ('str', '"vidimus/vidimuslaw24.CountersAll"')
end Go.Ev
