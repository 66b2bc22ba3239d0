/- Functions of the given program in plain form, printed: each with the proof that it is what the evaluator comes to, and that the program function returns what it says. No conditions. -/
import Derived.Test.YtjgpddbebgndbaaGreatDoorEzG4
import Derived.Test.YtjgpddbebgndbaaGreatDoorEzG5
set_option linter.unusedVariables false
set_option maxRecDepth 100000
namespace Go.Ev
open Go Go.Proofs

-- ('str', '"vidimus/vidimuslaw24.CountersNext"')
def fh_law24_CountersAll__law24_CountersAll : FnH := ⟨[(7, ⟨[false, false, false, true, true, true, false, false, false, true, false, false, false, false, false, false, false, false, false, false, false, false, false, false, false, false, false, false, false, false, false, false, false, false, false, false, false, false, false, false, false, false, false, false, false, false, false, false, false, false, false, false, false, false, false, false, false, false, false, false, false, false, false, false, false, false, false, false, false, false, false], [], (some 2)⟩)], [(6, ⟨[false, false, false, true, true, true, false, false, false, false, false, false, false, false, false, false, false, false, false, false, false, false, false, false, false, false, false, false, false, false, false, false, false, false, false, false, false, false, false, false, false, false, false, false, false, false, false, false, false, false, false, false, false, false, false, false, false, false, false, false, false, false, false, false, false, false, false, false, false, false, false], [], (some 2)⟩)]⟩
noncomputable def H_law24_CountersAll : Hints := ⟨[(10, sp_law24_lives), (17, sp_law23_C_Of), (18, sp_counters_All), (19, sp_counters_Final), (20, sp_ref24_Final), (21, sp_ref24_Before)], [], []⟩
noncomputable def F_law24_CountersAll_j6 (m : Nat) (u0_0 : Nat) (u0_1 : Option Nat) (u0_2 : List D) (u0_3 : Nat) (u0_4 : Option Nat) (u0_5 : List D) (u0_6 : Nat) (u0_7 : Option Nat) (u0_8 : List D) (u0_9 : Int) (u0_10 : Int) (u0_11 : List D) : Option D :=
 cutK m (codeK Tryz.prog H_law24_CountersAll.sp ⟨0, [], false, []⟩ (inlK Tryz.prog H_law24_CountersAll m 4) m fh_law24_CountersAll__law24_CountersAll (subc [1, 1, 1, 1, 1] (bodyOf Tryz.f4)) ⟨[.junk, .junk, .junk, (AV.d (D.list u0_0 u0_1 u0_2)), (AV.ptr 1 0), (AV.d (D.list u0_3 u0_4 u0_5)), .junk, .junk, .junk, .junk, .junk, .junk, .junk, .junk, .junk, .junk, .junk, .junk, .junk, .junk, .junk, .junk, .junk, .junk, .junk, .junk, .junk, .junk, .junk, .junk, .junk, .junk, .junk, .junk, .junk, .junk, .junk, .junk, .junk, .junk, .junk, .junk, .junk, .junk, .junk, .junk, .junk, .junk, .junk, .junk, .junk, .junk, .junk, .junk, .junk, .junk, .junk, .junk, .junk, .junk, .junk, .junk, .junk, .junk, .junk, .junk, .junk, .junk, .junk, .junk, .junk], [(Blk.d 3 [(D.list u0_6 u0_7 u0_8), (D.v (.int .u8 u0_9)), (D.v (.int .u8 u0_10))]), (Blk.d 4 u0_11)]⟩
  (contK Tryz.prog H_law24_CountersAll.sp ⟨0, [], false, []⟩ (inlK Tryz.prog H_law24_CountersAll m 4) m fh_law24_CountersAll__law24_CountersAll (endK Tryz.prog Tryz.f4 (fun v L => viewK L 8 v some)) []))
noncomputable def F_law24_CountersAll_7 (m n0 : Nat) (y0_0 : Nat) (y0_1 : Option Nat) (y0_2 : List D) (y0_3 : Nat) (y0_4 : Option Nat) (y0_5 : List D) (y0_6 : Int) (y0_7 : Nat) (y0_8 : Option Nat) (y0_9 : List D) (y0_10 : Int) (y0_11 : Int) (y0_12 : List D) : Option D :=
 loopIter [false, false, false, true, true, true, false, false, false, true, false, false, false, false, false, false, false, false, false, false, false, false, false, false, false, false, false, false, false, false, false, false, false, false, false, false, false, false, false, false, false, false, false, false, false, false, false, false, false, false, false, false, false, false, false, false, false, false, false, false, false, false, false, false, false, false, false, false, false, false, false] 0 2 (codeK Tryz.prog H_law24_CountersAll.sp ⟨0, [], false, []⟩ (inlK Tryz.prog H_law24_CountersAll m 4) m fh_law24_CountersAll__law24_CountersAll (subc [1, 1, 1, 1, 1, 0, 1, 0, 0] (bodyOf Tryz.f4))) n0 ⟨[.junk, .junk, .junk, (AV.d (D.list y0_0 y0_1 y0_2)), (AV.ptr 1 0), (AV.d (D.list y0_3 y0_4 y0_5)), .junk, .junk, .junk, (AV.d (D.v (.int .i64 y0_6))), .junk, .junk, .junk, .junk, .junk, .junk, .junk, .junk, .junk, .junk, .junk, .junk, .junk, .junk, .junk, .junk, .junk, .junk, .junk, .junk, .junk, .junk, .junk, .junk, .junk, .junk, .junk, .junk, .junk, .junk, .junk, .junk, .junk, .junk, .junk, .junk, .junk, .junk, .junk, .junk, .junk, .junk, .junk, .junk, .junk, .junk, .junk, .junk, .junk, .junk, .junk, .junk, .junk, .junk, .junk, .junk, .junk, .junk, .junk, .junk, .junk], [(Blk.d 3 [(D.list y0_7 y0_8 y0_9), (D.v (.int .u8 y0_10)), (D.v (.int .u8 y0_11))]), (Blk.d 4 y0_12)]⟩
  (contK Tryz.prog H_law24_CountersAll.sp ⟨0, [], false, []⟩ (inlK Tryz.prog H_law24_CountersAll m 4) m fh_law24_CountersAll__law24_CountersAll (endK Tryz.prog Tryz.f4 (fun v L => viewK L 8 v some)) [.block 0, .code (subc [1, 1, 1, 1, 1, 1] (bodyOf Tryz.f4))])
theorem F_law24_CountersAll_7_s (m n0 : Nat) (y0_0 : Nat) (y0_1 : Option Nat) (y0_2 : List D) (y0_3 : Nat) (y0_4 : Option Nat) (y0_5 : List D) (y0_6 : Int) (y0_7 : Nat) (y0_8 : Option Nat) (y0_9 : List D) (y0_10 : Int) (y0_11 : Int) (y0_12 : List D) : F_law24_CountersAll_7 m (n0 + 1) y0_0 y0_1 y0_2 y0_3 y0_4 y0_5 y0_6 y0_7 y0_8 y0_9 y0_10 y0_11 y0_12 =
 (cond (decide (y0_6 < ((y0_0 : Nat) : Int)))
 (if 0 ≤ y0_6 ∧ y0_6 < ((y0_3 : Nat) : Int) then
 if (((Int.toNat y0_6) * 3) + 3) ≤ (List.length y0_5) then
 (sp_ref24_Before [(D.list y0_0 y0_1 y0_2), (D.agg y0_12), (D.v (.int .i64 (IntKind.wrap .i64 (y0_6 + (1 : Int)))))]).bind fun d22 =>
 (rdA (some d22)).bind fun c23 =>
 (cellsEq [.int, .int, .int] ((List.drop ((Int.toNat y0_6) * 3) y0_5).take 3) c23).bind fun b24 =>
 cond (!b24)
 (some (D.v (.bool false)))
 (F_law24_CountersAll_7 m n0 y0_0 y0_1 y0_2 y0_3 y0_4 y0_5 (IntKind.wrap .i64 (y0_6 + (1 : Int))) y0_7 y0_8 y0_9 y0_10 y0_11 y0_12)
 else none
 else none)
 ((sp_law24_lives []).bind fun d25 =>
 (rdB (some d25)).bind fun b26 =>
 some (D.v (.bool b26)))) := by kernel_rfl
theorem F_law24_CountersAll_j6_e (m : Nat) (u0_0 : Nat) (u0_1 : Option Nat) (u0_2 : List D) (u0_3 : Nat) (u0_4 : Option Nat) (u0_5 : List D) (u0_6 : Nat) (u0_7 : Option Nat) (u0_8 : List D) (u0_9 : Int) (u0_10 : Int) (u0_11 : List D) : F_law24_CountersAll_j6 m u0_0 u0_1 u0_2 u0_3 u0_4 u0_5 u0_6 u0_7 u0_8 u0_9 u0_10 u0_11 =
 (F_law24_CountersAll_7 m m u0_0 u0_1 u0_2 u0_3 u0_4 u0_5 (0 : Int) u0_6 u0_7 u0_8 u0_9 u0_10 u0_11) := (cutK_eq m _).trans (by kernel_rfl)
noncomputable def F_law24_CountersAll (m : Nat) (a0_0n : Nat) (a0_0c : Option Nat) (a0_0 : List D) (a0_1 : Int) (a0_2 : Int) : Option D :=
 (sp_law23_C_Of [(D.agg [(D.list a0_0n a0_0c a0_0), (D.v (.int .u8 a0_1)), (D.v (.int .u8 a0_2))])]).bind fun d1 =>
 (rdT d1).bind fun r2 =>
 if List.length r2 = 2 then
 (rdL r2[0]?).bind fun q3 =>
 (rdA r2[1]?).bind fun c4 =>
 if (List.length c4) = 4 then
 (sp_counters_All [(D.list q3.n q3.cap q3.cs), (D.agg c4)]).bind fun d5 =>
 (rdT d5).bind fun r6 =>
 if List.length r6 = 2 then
 (rdL r6[0]?).bind fun q7 =>
 (rdI .i64 r6[1]?).bind fun x8 =>
 (sp_counters_Final [(D.list q3.n q3.cap q3.cs), (D.agg c4)]).bind fun d9 =>
 (rdT d9).bind fun r10 =>
 if List.length r10 = 2 then
 (rdI .i64 r10[0]?).bind fun x11 =>
 (rdI .i64 r10[1]?).bind fun x12 =>
 cond (x8 != (0 : Int))
 (some (D.v (.bool false)))
 (cond (x12 != (0 : Int))
 (some (D.v (.bool false)))
 (cond (((q7.n : Nat) : Int) != ((q3.n : Nat) : Int))
 (some (D.v (.bool false)))
 (capO (q7.cap) fun n13 =>
 cond (((n13 : Nat) : Int) != ((q7.n : Nat) : Int))
 (some (D.v (.bool false)))
 ((sp_ref24_Final [(D.list q3.n q3.cap q3.cs), (D.agg c4)]).bind fun d14 =>
 (rdI .i64 (some d14)).bind fun x15 =>
 cond (x11 != x15)
 (some (D.v (.bool false)))
 (F_law24_CountersAll_j6 m q3.n q3.cap q3.cs q7.n q7.cap q7.cs a0_0n a0_0c a0_0 a0_1 a0_2 c4)))))
 else none
 else none
 else none
 else none
theorem F_law24_CountersAll_eq (m : Nat) (a0_0n : Nat) (a0_0c : Option Nat) (a0_0 : List D) (a0_1 : Int) (a0_2 : Int) : funD Tryz.prog H_law24_CountersAll m 4 fh_law24_CountersAll__law24_CountersAll Tryz.f4 [(D.agg [(D.list a0_0n a0_0c a0_0), (D.v (.int .u8 a0_1)), (D.v (.int .u8 a0_2))])] = F_law24_CountersAll m a0_0n a0_0c a0_0 a0_1 a0_2 := by kernel_rfl
theorem en_law24_CountersAll : Enters Tryz.prog 4 := ⟨Tryz.f4, Tryz.func4, by kernel_rfl, by kernel_rfl⟩
theorem dt_law24_CountersAll {ds : List D} {d : D} (h : funD Tryz.prog H_law24_CountersAll M 4 fh_law24_CountersAll__law24_CountersAll Tryz.f4 ds = some d) : DataSem Tryz.prog 4 ds d := data_sound (H := H_law24_CountersAll) (SpOk.cons ds_law24_lives (SpOk.cons ds_law23_C_Of (SpOk.cons ds_counters_All (SpOk.cons ds_counters_Final (SpOk.cons ds_ref24_Final (SpOk.cons ds_ref24_Before SpOk.nil)))))) mixed InlOk.nil Tryz.func4 en_law24_CountersAll h
noncomputable def sp_law24_CountersAll : List D → Option D
  | [.agg [.list a0_0n a0_0c a0_0, .v (.int .u8 a0_1), .v (.int .u8 a0_2)]] => F_law24_CountersAll M a0_0n a0_0c a0_0 a0_1 a0_2
  | _ => none
theorem ds_law24_CountersAll : ∀ ds d, sp_law24_CountersAll ds = some d → DataSem Tryz.prog 4 ds d := by
  intro ds d h
  unfold sp_law24_CountersAll at h
  split at h
  · exact dt_law24_CountersAll ((F_law24_CountersAll_eq M _ _ _ _ _).trans h)
  · cases h

-- ('str', '"vidimus/vidimuslaw24.least"')
end Go.Ev
