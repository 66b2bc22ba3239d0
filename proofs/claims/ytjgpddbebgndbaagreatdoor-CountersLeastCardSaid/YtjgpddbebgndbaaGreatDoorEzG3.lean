/- Functions of the given program in plain form, printed: each with the proof that it is what the evaluator comes to, and that the program function returns what it says. No conditions. -/
import Derived.Test.YtjgpddbebgndbaaGreatDoorEzG2
set_option linter.unusedVariables false
set_option maxRecDepth 100000
namespace Go.Ev
open Go Go.Proofs

-- ('str', '"vidimus/counters.within[int]"')
def fh_counters_within_int__counters_within_int : FnH := ⟨[], []⟩
noncomputable def H_counters_within_int : Hints := ⟨[], [], []⟩
noncomputable def F_counters_within_int (m : Nat) (a0 : Int) (a1 : Int) (a2 : Int) : Option D :=
 cond ((mm true a0 a1) == a1)
 (some (D.v (.bool ((mm false a0 a2) == a2))))
 (some (D.v (.bool false)))
theorem F_counters_within_int_eq (m : Nat) (a0 : Int) (a1 : Int) (a2 : Int) : funD Tryz.prog H_counters_within_int m 4 fh_counters_within_int__counters_within_int Tryz.f33 [(D.v (.int .i64 a0)), (D.v (.int .i64 a1)), (D.v (.int .i64 a2))] = F_counters_within_int m a0 a1 a2 := by kernel_rfl
theorem en_counters_within_int : Enters Tryz.prog 33 := ⟨Tryz.f33, Tryz.func33, by kernel_rfl, by kernel_rfl⟩
theorem dt_counters_within_int {ds : List D} {d : D} (h : funD Tryz.prog H_counters_within_int M 4 fh_counters_within_int__counters_within_int Tryz.f33 ds = some d) : DataSem Tryz.prog 33 ds d := data_sound (H := H_counters_within_int) SpOk.nil mixed InlOk.nil Tryz.func33 en_counters_within_int h
noncomputable def sp_counters_within_int : List D → Option D
  | [.v (.int .i64 a0), .v (.int .i64 a1), .v (.int .i64 a2)] => F_counters_within_int M a0 a1 a2
  | _ => none
theorem ds_counters_within_int : ∀ ds d, sp_counters_within_int ds = some d → DataSem Tryz.prog 33 ds d := by
  intro ds d h
  unfold sp_counters_within_int at h
  split at h
  · exact dt_counters_within_int ((F_counters_within_int_eq M _ _ _).trans h)
  · cases h

-- ('str', '"vidimus/counters.Check"')
def fh_counters_Check__counters_Check : FnH := ⟨[], []⟩
noncomputable def H_counters_Check : Hints := ⟨[(33, sp_counters_within_int)], [], []⟩
noncomputable def F_counters_Check (m : Nat) (a0_0 : Int) (a0_1 : Int) (a0_2 : Int) : Option D :=
 (sp_counters_within_int [(D.v (.int .i64 a0_0)), (D.v (.int .i64 (0 : Int))), (D.v (.int .i64 (65 : Int)))]).bind fun d1 =>
 (rdB (some d1)).bind fun b2 =>
 cond b2
 ((sp_counters_within_int [(D.v (.int .i64 a0_1)), (D.v (.int .i64 (0 : Int))), (D.v (.int .i64 (65 : Int)))]).bind fun d3 =>
 (rdB (some d3)).bind fun b4 =>
 cond b4
 ((sp_counters_within_int [(D.v (.int .i64 a0_2)), (D.v (.int .i64 (0 : Int))), (D.v (.int .i64 (65 : Int)))]).bind fun d5 =>
 (rdB (some d5)).bind fun b6 =>
 cond b6
 (some (D.v (.int .i64 (0 : Int))))
 (some (D.v (.int .i64 (1 : Int)))))
 (some (D.v (.int .i64 (1 : Int)))))
 (some (D.v (.int .i64 (1 : Int))))
theorem F_counters_Check_eq (m : Nat) (a0_0 : Int) (a0_1 : Int) (a0_2 : Int) : funD Tryz.prog H_counters_Check m 4 fh_counters_Check__counters_Check Tryz.f13 [(D.agg [(D.v (.int .i64 a0_0)), (D.v (.int .i64 a0_1)), (D.v (.int .i64 a0_2))])] = F_counters_Check m a0_0 a0_1 a0_2 := by kernel_rfl
theorem en_counters_Check : Enters Tryz.prog 13 := ⟨Tryz.f13, Tryz.func13, by kernel_rfl, by kernel_rfl⟩
theorem dt_counters_Check {ds : List D} {d : D} (h : funD Tryz.prog H_counters_Check M 4 fh_counters_Check__counters_Check Tryz.f13 ds = some d) : DataSem Tryz.prog 13 ds d := data_sound (H := H_counters_Check) (SpOk.cons ds_counters_within_int SpOk.nil) mixed InlOk.nil Tryz.func13 en_counters_Check h
noncomputable def sp_counters_Check : List D → Option D
  | [.agg [.v (.int .i64 a0_0), .v (.int .i64 a0_1), .v (.int .i64 a0_2)]] => F_counters_Check M a0_0 a0_1 a0_2
  | _ => none
theorem ds_counters_Check : ∀ ds d, sp_counters_Check ds = some d → DataSem Tryz.prog 13 ds d := by
  intro ds d h
  unfold sp_counters_Check at h
  split at h
  · exact dt_counters_Check ((F_counters_Check_eq M _ _ _).trans h)
  · cases h

-- ('str', '"vidimus/counters.start"')
def fh_counters_start__counters_start : FnH := ⟨[], []⟩
def fh_counters_start__counters_start_1 : FnH := ⟨[], []⟩
noncomputable def H_counters_start : Hints := ⟨[], [(52, Tryz.f52, fh_counters_start__counters_start_1)], []⟩
noncomputable def F_counters_start (m : Nat) (a0 : Int) (a1_0n : Nat) (a1_0c : Option Nat) (a1_0 : List D) (a1_1 : Bool) (a1_2 : Bool) (a1_3 : Bool) : Option D :=
 cond a1_1
 (cond a1_2
 (cond a1_3
 (some (D.agg [(D.v (.int .i64 (0 : Int))), (D.v (.int .i64 (0 : Int))), (D.v (.int .i64 (0 : Int)))]))
 (some (D.agg [(D.v (.int .i64 (0 : Int))), (D.v (.int .i64 (0 : Int))), (D.v (.int .i64 (IntKind.wrap .i64 (a0 + (1 : Int)))))])))
 (cond a1_3
 (some (D.agg [(D.v (.int .i64 (0 : Int))), (D.v (.int .i64 (IntKind.wrap .i64 (a0 + (1 : Int))))), (D.v (.int .i64 (0 : Int)))]))
 (some (D.agg [(D.v (.int .i64 (0 : Int))), (D.v (.int .i64 (IntKind.wrap .i64 (a0 + (1 : Int))))), (D.v (.int .i64 (IntKind.wrap .i64 (a0 + (1 : Int)))))]))))
 (cond a1_2
 (cond a1_3
 (some (D.agg [(D.v (.int .i64 (IntKind.wrap .i64 (a0 + (1 : Int))))), (D.v (.int .i64 (0 : Int))), (D.v (.int .i64 (0 : Int)))]))
 (some (D.agg [(D.v (.int .i64 (IntKind.wrap .i64 (a0 + (1 : Int))))), (D.v (.int .i64 (0 : Int))), (D.v (.int .i64 (IntKind.wrap .i64 (a0 + (1 : Int)))))])))
 (cond a1_3
 (some (D.agg [(D.v (.int .i64 (IntKind.wrap .i64 (a0 + (1 : Int))))), (D.v (.int .i64 (IntKind.wrap .i64 (a0 + (1 : Int))))), (D.v (.int .i64 (0 : Int)))]))
 (some (D.agg [(D.v (.int .i64 (IntKind.wrap .i64 (a0 + (1 : Int))))), (D.v (.int .i64 (IntKind.wrap .i64 (a0 + (1 : Int))))), (D.v (.int .i64 (IntKind.wrap .i64 (a0 + (1 : Int)))))]))))
theorem F_counters_start_eq (m : Nat) (a0 : Int) (a1_0n : Nat) (a1_0c : Option Nat) (a1_0 : List D) (a1_1 : Bool) (a1_2 : Bool) (a1_3 : Bool) : funD Tryz.prog H_counters_start m 4 fh_counters_start__counters_start Tryz.f35 [(D.v (.int .i64 a0)), (D.agg [(D.list a1_0n a1_0c a1_0), (D.v (.bool a1_1)), (D.v (.bool a1_2)), (D.v (.bool a1_3))])] = F_counters_start m a0 a1_0n a1_0c a1_0 a1_1 a1_2 a1_3 := by kernel_rfl
theorem en_counters_start : Enters Tryz.prog 35 := ⟨Tryz.f35, Tryz.func35, by kernel_rfl, by kernel_rfl⟩
theorem dt_counters_start {ds : List D} {d : D} (h : funD Tryz.prog H_counters_start M 4 fh_counters_start__counters_start Tryz.f35 ds = some d) : DataSem Tryz.prog 35 ds d := data_sound (H := H_counters_start) SpOk.nil mixed (InlOk.cons Tryz.func52 en_counters_start_1 InlOk.nil) Tryz.func35 en_counters_start h
noncomputable def sp_counters_start : List D → Option D
  | [.v (.int .i64 a0), .agg [.list a1_0n a1_0c a1_0, .v (.bool a1_1), .v (.bool a1_2), .v (.bool a1_3)]] => F_counters_start M a0 a1_0n a1_0c a1_0 a1_1 a1_2 a1_3
  | _ => none
theorem ds_counters_start : ∀ ds d, sp_counters_start ds = some d → DataSem Tryz.prog 35 ds d := by
  intro ds d h
  unfold sp_counters_start at h
  split at h
  · exact dt_counters_start ((F_counters_start_eq M _ _ _ _ _ _ _).trans h)
  · cases h

-- ('str', '"vidimus/counters.next"')
def fh_counters_next__counters_next : FnH := ⟨[], []⟩
def fh_counters_next__counters_next_1 : FnH := ⟨[], [(3, ⟨[true, true, false, false, false, false, false, false, false, false, false, false, false, false, false, false, false, false, false, false, false], [], (some 0)⟩)]⟩
noncomputable def H_counters_next : Hints := ⟨[], [(56, Tryz.f56, fh_counters_next__counters_next_1)], []⟩
noncomputable def F_counters_next_counters_next_1_j3 (m : Nat) (a0_0 : Int) (a0_1 : Int) (a0_2 : Int) (a1_0 : Bool) (a1_1 : Bool) (a1_2n : Nat) (a1_2c : Option Nat) (a1_2 : List D) (a1_3 : Bool) (a1_4n : Nat) (a1_4c : Option Nat) (a1_4 : List D) (a1_5 : Int) (a1_6 : Int) (a1_7 : Int) (u0_0 : Int) (u0_1 : Int) (u0_2 : Int) (u0_3 : Int) (u0_4 : Int) (u0_5 : Bool) (u0_6 : Bool) (u0_7 : Nat) (u0_8 : Option Nat) (u0_9 : List D) (u0_10 : Bool) (u0_11 : Nat) (u0_12 : Option Nat) (u0_13 : List D) (u0_14 : Int) (u0_15 : Int) (u0_16 : Int) (u0_17 : Int) (u0_18 : Int) (u0_19 : Int) : Option D :=
 cutK m (codeK Tryz.prog H_counters_next.sp ⟨3, [], true, []⟩ (inlK Tryz.prog H_counters_next m 3) m fh_counters_next__counters_next_1 (subc [1, 1] (bodyOf Tryz.f56)) ⟨[(AV.d (D.v (.int .i64 u0_0))), (AV.d (D.v (.int .i64 u0_1))), .junk, .junk, .junk, .junk, .junk, .junk, .junk, .junk, .junk, .junk, .junk, .junk, .junk, .junk, .junk, .junk, .junk, .junk, .junk], [(Blk.d 3 [(D.v (.int .i64 u0_2)), (D.v (.int .i64 u0_3)), (D.v (.int .i64 u0_4))]), (Blk.d 8 [(D.v (.bool u0_5)), (D.v (.bool u0_6)), (D.list u0_7 u0_8 u0_9), (D.v (.bool u0_10)), (D.list u0_11 u0_12 u0_13), (D.v (.int .i64 u0_14)), (D.v (.int .i64 u0_15)), (D.v (.int .i64 u0_16))]), (Blk.d 3 [(D.v (.int .i64 u0_17)), (D.v (.int .i64 u0_18)), (D.v (.int .i64 u0_19))])]⟩
  (contK Tryz.prog H_counters_next.sp ⟨3, [], true, []⟩ (inlK Tryz.prog H_counters_next m 3) m fh_counters_next__counters_next_1 (endK Tryz.prog Tryz.f56 (fun v L => opsK Tryz.prog H_counters_next.sp ⟨0, [], false, []⟩ [true, true] (inlK Tryz.prog H_counters_next m 4) (regOps (subc [1, 1, 0] (bodyOf Tryz.f49))) (List.drop 18 (Array.toList (regOps (subc [1, 1, 0] (bodyOf Tryz.f49))))) ⟨setSl [(AV.d (D.agg [(D.v (.int .i64 a0_0)), (D.v (.int .i64 a0_1)), (D.v (.int .i64 a0_2))])), (AV.d (D.agg [(D.v (.bool a1_0)), (D.v (.bool a1_1)), (D.list a1_2n a1_2c a1_2), (D.v (.bool a1_3)), (D.list a1_4n a1_4c a1_4), (D.v (.int .i64 a1_5)), (D.v (.int .i64 a1_6)), (D.v (.int .i64 a1_7))])), (AV.ptr 0 0), (AV.ptr 1 0), (AV.ptr 2 0), (AV.clo 56 [(AV.ptr 1 0)]), (AV.clo 56 [(AV.ptr 1 0)]), (AV.clo 56 [(AV.ptr 1 0)]), (AV.ptr 0 0), (AV.d (D.v (.int .i64 a0_0))), (AV.ptr 1 5), (AV.d (D.v (.int .i64 a1_5))), (AV.d (D.v (.int .i64 (mm true (IntKind.wrap .i64 (a0_0 - (1 : Int))) a1_5)))), (AV.clo 56 [(AV.ptr 1 0)]), (AV.ptr 0 1), (AV.d (D.v (.int .i64 a0_1))), (AV.ptr 1 6), (AV.d (D.v (.int .i64 a1_6))), (AV.d (D.v (.int .i64 (mm true (IntKind.wrap .i64 (a0_1 - (1 : Int))) a1_6)))), (AV.clo 56 [(AV.ptr 1 0)]), (AV.ptr 0 2), (AV.d (D.v (.int .i64 a0_2))), (AV.ptr 1 7), (AV.d (D.v (.int .i64 a1_7))), .junk, .junk] (some 24) v, L⟩ (fun st => contK Tryz.prog H_counters_next.sp ⟨0, [], false, []⟩ (inlK Tryz.prog H_counters_next m 4) m fh_counters_next__counters_next (endK Tryz.prog Tryz.f49 (fun v L => viewK L 8 v some)) [.code (subc [1, 1, 1] (bodyOf Tryz.f49))] .normal st))) []))
theorem F_counters_next_counters_next_1_j3_e (m : Nat) (a0_0 : Int) (a0_1 : Int) (a0_2 : Int) (a1_0 : Bool) (a1_1 : Bool) (a1_2n : Nat) (a1_2c : Option Nat) (a1_2 : List D) (a1_3 : Bool) (a1_4n : Nat) (a1_4c : Option Nat) (a1_4 : List D) (a1_5 : Int) (a1_6 : Int) (a1_7 : Int) (u0_0 : Int) (u0_1 : Int) (u0_2 : Int) (u0_3 : Int) (u0_4 : Int) (u0_5 : Bool) (u0_6 : Bool) (u0_7 : Nat) (u0_8 : Option Nat) (u0_9 : List D) (u0_10 : Bool) (u0_11 : Nat) (u0_12 : Option Nat) (u0_13 : List D) (u0_14 : Int) (u0_15 : Int) (u0_16 : Int) (u0_17 : Int) (u0_18 : Int) (u0_19 : Int) : F_counters_next_counters_next_1_j3 m a0_0 a0_1 a0_2 a1_0 a1_1 a1_2n a1_2c a1_2 a1_3 a1_4n a1_4c a1_4 a1_5 a1_6 a1_7 u0_0 u0_1 u0_2 u0_3 u0_4 u0_5 u0_6 u0_7 u0_8 u0_9 u0_10 u0_11 u0_12 u0_13 u0_14 u0_15 u0_16 u0_17 u0_18 u0_19 =
 (cond (u0_1 != (-1 : Int))
 (some (D.agg [(D.v (.int .i64 (mm true (IntKind.wrap .i64 (a0_0 - (1 : Int))) a1_5))), (D.v (.int .i64 (mm true (IntKind.wrap .i64 (a0_1 - (1 : Int))) a1_6))), (D.v (.int .i64 (mm true u0_0 u0_1)))]))
 (some (D.agg [(D.v (.int .i64 (mm true (IntKind.wrap .i64 (a0_0 - (1 : Int))) a1_5))), (D.v (.int .i64 (mm true (IntKind.wrap .i64 (a0_1 - (1 : Int))) a1_6))), (D.v (.int .i64 u0_0))]))) := (cutK_eq m _).trans (by kernel_rfl)
noncomputable def F_counters_next_counters_next_1_j3v1 (m : Nat) (a0_0 : Int) (a0_1 : Int) (a0_2 : Int) (a1_0 : Bool) (a1_1 : Bool) (a1_2n : Nat) (a1_2c : Option Nat) (a1_2 : List D) (a1_3 : Bool) (a1_4n : Nat) (a1_4c : Option Nat) (a1_4 : List D) (a1_5 : Int) (a1_6 : Int) (a1_7 : Int) (u1_0 : Int) (u1_1 : Int) (u1_2 : Int) (u1_3 : Int) (u1_4 : Int) (u1_5 : Bool) (u1_6 : Bool) (u1_7 : Nat) (u1_8 : Option Nat) (u1_9 : List D) (u1_10 : Bool) (u1_11 : Nat) (u1_12 : Option Nat) (u1_13 : List D) (u1_14 : Int) (u1_15 : Int) (u1_16 : Int) (u1_17 : Int) (u1_18 : Int) (u1_19 : Int) : Option D :=
 cutK m (codeK Tryz.prog H_counters_next.sp ⟨3, [], true, []⟩ (inlK Tryz.prog H_counters_next m 3) m fh_counters_next__counters_next_1 (subc [1, 1] (bodyOf Tryz.f56)) ⟨[(AV.d (D.v (.int .i64 u1_0))), (AV.d (D.v (.int .i64 u1_1))), .junk, .junk, .junk, .junk, .junk, .junk, .junk, .junk, .junk, .junk, .junk, .junk, .junk, .junk, .junk, .junk, .junk, .junk, .junk], [(Blk.d 3 [(D.v (.int .i64 u1_2)), (D.v (.int .i64 u1_3)), (D.v (.int .i64 u1_4))]), (Blk.d 8 [(D.v (.bool u1_5)), (D.v (.bool u1_6)), (D.list u1_7 u1_8 u1_9), (D.v (.bool u1_10)), (D.list u1_11 u1_12 u1_13), (D.v (.int .i64 u1_14)), (D.v (.int .i64 u1_15)), (D.v (.int .i64 u1_16))]), (Blk.d 3 [(D.v (.int .i64 u1_17)), (D.v (.int .i64 u1_18)), (D.v (.int .i64 u1_19))])]⟩
  (contK Tryz.prog H_counters_next.sp ⟨3, [], true, []⟩ (inlK Tryz.prog H_counters_next m 3) m fh_counters_next__counters_next_1 (endK Tryz.prog Tryz.f56 (fun v L => opsK Tryz.prog H_counters_next.sp ⟨0, [], false, []⟩ [true, true] (inlK Tryz.prog H_counters_next m 4) (regOps (subc [1, 1, 0] (bodyOf Tryz.f49))) (List.drop 18 (Array.toList (regOps (subc [1, 1, 0] (bodyOf Tryz.f49))))) ⟨setSl [(AV.d (D.agg [(D.v (.int .i64 a0_0)), (D.v (.int .i64 a0_1)), (D.v (.int .i64 a0_2))])), (AV.d (D.agg [(D.v (.bool a1_0)), (D.v (.bool a1_1)), (D.list a1_2n a1_2c a1_2), (D.v (.bool a1_3)), (D.list a1_4n a1_4c a1_4), (D.v (.int .i64 a1_5)), (D.v (.int .i64 a1_6)), (D.v (.int .i64 a1_7))])), (AV.ptr 0 0), (AV.ptr 1 0), (AV.ptr 2 0), (AV.clo 56 [(AV.ptr 1 0)]), (AV.clo 56 [(AV.ptr 1 0)]), (AV.clo 56 [(AV.ptr 1 0)]), (AV.ptr 0 0), (AV.d (D.v (.int .i64 a0_0))), (AV.ptr 1 5), (AV.d (D.v (.int .i64 a1_5))), (AV.d (D.v (.int .i64 (mm true (IntKind.wrap .i64 (a0_0 - (1 : Int))) a1_5)))), (AV.clo 56 [(AV.ptr 1 0)]), (AV.ptr 0 1), (AV.d (D.v (.int .i64 a0_1))), (AV.ptr 1 6), (AV.d (D.v (.int .i64 a1_6))), (AV.d (D.v (.int .i64 (IntKind.wrap .i64 (a0_1 - (1 : Int)))))), (AV.clo 56 [(AV.ptr 1 0)]), (AV.ptr 0 2), (AV.d (D.v (.int .i64 a0_2))), (AV.ptr 1 7), (AV.d (D.v (.int .i64 a1_7))), .junk, .junk] (some 24) v, L⟩ (fun st => contK Tryz.prog H_counters_next.sp ⟨0, [], false, []⟩ (inlK Tryz.prog H_counters_next m 4) m fh_counters_next__counters_next (endK Tryz.prog Tryz.f49 (fun v L => viewK L 8 v some)) [.code (subc [1, 1, 1] (bodyOf Tryz.f49))] .normal st))) []))
theorem F_counters_next_counters_next_1_j3v1_e (m : Nat) (a0_0 : Int) (a0_1 : Int) (a0_2 : Int) (a1_0 : Bool) (a1_1 : Bool) (a1_2n : Nat) (a1_2c : Option Nat) (a1_2 : List D) (a1_3 : Bool) (a1_4n : Nat) (a1_4c : Option Nat) (a1_4 : List D) (a1_5 : Int) (a1_6 : Int) (a1_7 : Int) (u1_0 : Int) (u1_1 : Int) (u1_2 : Int) (u1_3 : Int) (u1_4 : Int) (u1_5 : Bool) (u1_6 : Bool) (u1_7 : Nat) (u1_8 : Option Nat) (u1_9 : List D) (u1_10 : Bool) (u1_11 : Nat) (u1_12 : Option Nat) (u1_13 : List D) (u1_14 : Int) (u1_15 : Int) (u1_16 : Int) (u1_17 : Int) (u1_18 : Int) (u1_19 : Int) : F_counters_next_counters_next_1_j3v1 m a0_0 a0_1 a0_2 a1_0 a1_1 a1_2n a1_2c a1_2 a1_3 a1_4n a1_4c a1_4 a1_5 a1_6 a1_7 u1_0 u1_1 u1_2 u1_3 u1_4 u1_5 u1_6 u1_7 u1_8 u1_9 u1_10 u1_11 u1_12 u1_13 u1_14 u1_15 u1_16 u1_17 u1_18 u1_19 =
 (cond (u1_1 != (-1 : Int))
 (some (D.agg [(D.v (.int .i64 (mm true (IntKind.wrap .i64 (a0_0 - (1 : Int))) a1_5))), (D.v (.int .i64 (IntKind.wrap .i64 (a0_1 - (1 : Int))))), (D.v (.int .i64 (mm true u1_0 u1_1)))]))
 (some (D.agg [(D.v (.int .i64 (mm true (IntKind.wrap .i64 (a0_0 - (1 : Int))) a1_5))), (D.v (.int .i64 (IntKind.wrap .i64 (a0_1 - (1 : Int))))), (D.v (.int .i64 u1_0))]))) := (cutK_eq m _).trans (by kernel_rfl)
noncomputable def F_counters_next_counters_next_1_j3v2 (m : Nat) (a0_0 : Int) (a0_1 : Int) (a0_2 : Int) (a1_0 : Bool) (a1_1 : Bool) (a1_2n : Nat) (a1_2c : Option Nat) (a1_2 : List D) (a1_3 : Bool) (a1_4n : Nat) (a1_4c : Option Nat) (a1_4 : List D) (a1_5 : Int) (a1_6 : Int) (a1_7 : Int) (u2_0 : Int) (u2_1 : Int) (u2_2 : Int) (u2_3 : Int) (u2_4 : Int) (u2_5 : Bool) (u2_6 : Bool) (u2_7 : Nat) (u2_8 : Option Nat) (u2_9 : List D) (u2_10 : Bool) (u2_11 : Nat) (u2_12 : Option Nat) (u2_13 : List D) (u2_14 : Int) (u2_15 : Int) (u2_16 : Int) (u2_17 : Int) (u2_18 : Int) (u2_19 : Int) : Option D :=
 cutK m (codeK Tryz.prog H_counters_next.sp ⟨3, [], true, []⟩ (inlK Tryz.prog H_counters_next m 3) m fh_counters_next__counters_next_1 (subc [1, 1] (bodyOf Tryz.f56)) ⟨[(AV.d (D.v (.int .i64 u2_0))), (AV.d (D.v (.int .i64 u2_1))), .junk, .junk, .junk, .junk, .junk, .junk, .junk, .junk, .junk, .junk, .junk, .junk, .junk, .junk, .junk, .junk, .junk, .junk, .junk], [(Blk.d 3 [(D.v (.int .i64 u2_2)), (D.v (.int .i64 u2_3)), (D.v (.int .i64 u2_4))]), (Blk.d 8 [(D.v (.bool u2_5)), (D.v (.bool u2_6)), (D.list u2_7 u2_8 u2_9), (D.v (.bool u2_10)), (D.list u2_11 u2_12 u2_13), (D.v (.int .i64 u2_14)), (D.v (.int .i64 u2_15)), (D.v (.int .i64 u2_16))]), (Blk.d 3 [(D.v (.int .i64 u2_17)), (D.v (.int .i64 u2_18)), (D.v (.int .i64 u2_19))])]⟩
  (contK Tryz.prog H_counters_next.sp ⟨3, [], true, []⟩ (inlK Tryz.prog H_counters_next m 3) m fh_counters_next__counters_next_1 (endK Tryz.prog Tryz.f56 (fun v L => opsK Tryz.prog H_counters_next.sp ⟨0, [], false, []⟩ [true, true] (inlK Tryz.prog H_counters_next m 4) (regOps (subc [1, 1, 0] (bodyOf Tryz.f49))) (List.drop 18 (Array.toList (regOps (subc [1, 1, 0] (bodyOf Tryz.f49))))) ⟨setSl [(AV.d (D.agg [(D.v (.int .i64 a0_0)), (D.v (.int .i64 a0_1)), (D.v (.int .i64 a0_2))])), (AV.d (D.agg [(D.v (.bool a1_0)), (D.v (.bool a1_1)), (D.list a1_2n a1_2c a1_2), (D.v (.bool a1_3)), (D.list a1_4n a1_4c a1_4), (D.v (.int .i64 a1_5)), (D.v (.int .i64 a1_6)), (D.v (.int .i64 a1_7))])), (AV.ptr 0 0), (AV.ptr 1 0), (AV.ptr 2 0), (AV.clo 56 [(AV.ptr 1 0)]), (AV.clo 56 [(AV.ptr 1 0)]), (AV.clo 56 [(AV.ptr 1 0)]), (AV.ptr 0 0), (AV.d (D.v (.int .i64 a0_0))), (AV.ptr 1 5), (AV.d (D.v (.int .i64 a1_5))), (AV.d (D.v (.int .i64 (mm true (IntKind.wrap .i64 (a0_0 - (1 : Int))) a1_5)))), (AV.clo 56 [(AV.ptr 1 0)]), (AV.ptr 0 1), (AV.d (D.v (.int .i64 a0_1))), (AV.ptr 1 6), (AV.d (D.v (.int .i64 a1_6))), (AV.d (D.v (.int .i64 (mm true a0_1 a1_6)))), (AV.clo 56 [(AV.ptr 1 0)]), (AV.ptr 0 2), (AV.d (D.v (.int .i64 a0_2))), (AV.ptr 1 7), (AV.d (D.v (.int .i64 a1_7))), .junk, .junk] (some 24) v, L⟩ (fun st => contK Tryz.prog H_counters_next.sp ⟨0, [], false, []⟩ (inlK Tryz.prog H_counters_next m 4) m fh_counters_next__counters_next (endK Tryz.prog Tryz.f49 (fun v L => viewK L 8 v some)) [.code (subc [1, 1, 1] (bodyOf Tryz.f49))] .normal st))) []))
theorem F_counters_next_counters_next_1_j3v2_e (m : Nat) (a0_0 : Int) (a0_1 : Int) (a0_2 : Int) (a1_0 : Bool) (a1_1 : Bool) (a1_2n : Nat) (a1_2c : Option Nat) (a1_2 : List D) (a1_3 : Bool) (a1_4n : Nat) (a1_4c : Option Nat) (a1_4 : List D) (a1_5 : Int) (a1_6 : Int) (a1_7 : Int) (u2_0 : Int) (u2_1 : Int) (u2_2 : Int) (u2_3 : Int) (u2_4 : Int) (u2_5 : Bool) (u2_6 : Bool) (u2_7 : Nat) (u2_8 : Option Nat) (u2_9 : List D) (u2_10 : Bool) (u2_11 : Nat) (u2_12 : Option Nat) (u2_13 : List D) (u2_14 : Int) (u2_15 : Int) (u2_16 : Int) (u2_17 : Int) (u2_18 : Int) (u2_19 : Int) : F_counters_next_counters_next_1_j3v2 m a0_0 a0_1 a0_2 a1_0 a1_1 a1_2n a1_2c a1_2 a1_3 a1_4n a1_4c a1_4 a1_5 a1_6 a1_7 u2_0 u2_1 u2_2 u2_3 u2_4 u2_5 u2_6 u2_7 u2_8 u2_9 u2_10 u2_11 u2_12 u2_13 u2_14 u2_15 u2_16 u2_17 u2_18 u2_19 =
 (cond (u2_1 != (-1 : Int))
 (some (D.agg [(D.v (.int .i64 (mm true (IntKind.wrap .i64 (a0_0 - (1 : Int))) a1_5))), (D.v (.int .i64 (mm true a0_1 a1_6))), (D.v (.int .i64 (mm true u2_0 u2_1)))]))
 (some (D.agg [(D.v (.int .i64 (mm true (IntKind.wrap .i64 (a0_0 - (1 : Int))) a1_5))), (D.v (.int .i64 (mm true a0_1 a1_6))), (D.v (.int .i64 u2_0))]))) := (cutK_eq m _).trans (by kernel_rfl)
noncomputable def F_counters_next_counters_next_1_j3v3 (m : Nat) (a0_0 : Int) (a0_1 : Int) (a0_2 : Int) (a1_0 : Bool) (a1_1 : Bool) (a1_2n : Nat) (a1_2c : Option Nat) (a1_2 : List D) (a1_3 : Bool) (a1_4n : Nat) (a1_4c : Option Nat) (a1_4 : List D) (a1_5 : Int) (a1_6 : Int) (a1_7 : Int) (u3_0 : Int) (u3_1 : Int) (u3_2 : Int) (u3_3 : Int) (u3_4 : Int) (u3_5 : Bool) (u3_6 : Bool) (u3_7 : Nat) (u3_8 : Option Nat) (u3_9 : List D) (u3_10 : Bool) (u3_11 : Nat) (u3_12 : Option Nat) (u3_13 : List D) (u3_14 : Int) (u3_15 : Int) (u3_16 : Int) (u3_17 : Int) (u3_18 : Int) (u3_19 : Int) : Option D :=
 cutK m (codeK Tryz.prog H_counters_next.sp ⟨3, [], true, []⟩ (inlK Tryz.prog H_counters_next m 3) m fh_counters_next__counters_next_1 (subc [1, 1] (bodyOf Tryz.f56)) ⟨[(AV.d (D.v (.int .i64 u3_0))), (AV.d (D.v (.int .i64 u3_1))), .junk, .junk, .junk, .junk, .junk, .junk, .junk, .junk, .junk, .junk, .junk, .junk, .junk, .junk, .junk, .junk, .junk, .junk, .junk], [(Blk.d 3 [(D.v (.int .i64 u3_2)), (D.v (.int .i64 u3_3)), (D.v (.int .i64 u3_4))]), (Blk.d 8 [(D.v (.bool u3_5)), (D.v (.bool u3_6)), (D.list u3_7 u3_8 u3_9), (D.v (.bool u3_10)), (D.list u3_11 u3_12 u3_13), (D.v (.int .i64 u3_14)), (D.v (.int .i64 u3_15)), (D.v (.int .i64 u3_16))]), (Blk.d 3 [(D.v (.int .i64 u3_17)), (D.v (.int .i64 u3_18)), (D.v (.int .i64 u3_19))])]⟩
  (contK Tryz.prog H_counters_next.sp ⟨3, [], true, []⟩ (inlK Tryz.prog H_counters_next m 3) m fh_counters_next__counters_next_1 (endK Tryz.prog Tryz.f56 (fun v L => opsK Tryz.prog H_counters_next.sp ⟨0, [], false, []⟩ [true, true] (inlK Tryz.prog H_counters_next m 4) (regOps (subc [1, 1, 0] (bodyOf Tryz.f49))) (List.drop 18 (Array.toList (regOps (subc [1, 1, 0] (bodyOf Tryz.f49))))) ⟨setSl [(AV.d (D.agg [(D.v (.int .i64 a0_0)), (D.v (.int .i64 a0_1)), (D.v (.int .i64 a0_2))])), (AV.d (D.agg [(D.v (.bool a1_0)), (D.v (.bool a1_1)), (D.list a1_2n a1_2c a1_2), (D.v (.bool a1_3)), (D.list a1_4n a1_4c a1_4), (D.v (.int .i64 a1_5)), (D.v (.int .i64 a1_6)), (D.v (.int .i64 a1_7))])), (AV.ptr 0 0), (AV.ptr 1 0), (AV.ptr 2 0), (AV.clo 56 [(AV.ptr 1 0)]), (AV.clo 56 [(AV.ptr 1 0)]), (AV.clo 56 [(AV.ptr 1 0)]), (AV.ptr 0 0), (AV.d (D.v (.int .i64 a0_0))), (AV.ptr 1 5), (AV.d (D.v (.int .i64 a1_5))), (AV.d (D.v (.int .i64 (mm true (IntKind.wrap .i64 (a0_0 - (1 : Int))) a1_5)))), (AV.clo 56 [(AV.ptr 1 0)]), (AV.ptr 0 1), (AV.d (D.v (.int .i64 a0_1))), (AV.ptr 1 6), (AV.d (D.v (.int .i64 a1_6))), (AV.d (D.v (.int .i64 a0_1))), (AV.clo 56 [(AV.ptr 1 0)]), (AV.ptr 0 2), (AV.d (D.v (.int .i64 a0_2))), (AV.ptr 1 7), (AV.d (D.v (.int .i64 a1_7))), .junk, .junk] (some 24) v, L⟩ (fun st => contK Tryz.prog H_counters_next.sp ⟨0, [], false, []⟩ (inlK Tryz.prog H_counters_next m 4) m fh_counters_next__counters_next (endK Tryz.prog Tryz.f49 (fun v L => viewK L 8 v some)) [.code (subc [1, 1, 1] (bodyOf Tryz.f49))] .normal st))) []))
theorem F_counters_next_counters_next_1_j3v3_e (m : Nat) (a0_0 : Int) (a0_1 : Int) (a0_2 : Int) (a1_0 : Bool) (a1_1 : Bool) (a1_2n : Nat) (a1_2c : Option Nat) (a1_2 : List D) (a1_3 : Bool) (a1_4n : Nat) (a1_4c : Option Nat) (a1_4 : List D) (a1_5 : Int) (a1_6 : Int) (a1_7 : Int) (u3_0 : Int) (u3_1 : Int) (u3_2 : Int) (u3_3 : Int) (u3_4 : Int) (u3_5 : Bool) (u3_6 : Bool) (u3_7 : Nat) (u3_8 : Option Nat) (u3_9 : List D) (u3_10 : Bool) (u3_11 : Nat) (u3_12 : Option Nat) (u3_13 : List D) (u3_14 : Int) (u3_15 : Int) (u3_16 : Int) (u3_17 : Int) (u3_18 : Int) (u3_19 : Int) : F_counters_next_counters_next_1_j3v3 m a0_0 a0_1 a0_2 a1_0 a1_1 a1_2n a1_2c a1_2 a1_3 a1_4n a1_4c a1_4 a1_5 a1_6 a1_7 u3_0 u3_1 u3_2 u3_3 u3_4 u3_5 u3_6 u3_7 u3_8 u3_9 u3_10 u3_11 u3_12 u3_13 u3_14 u3_15 u3_16 u3_17 u3_18 u3_19 =
 (cond (u3_1 != (-1 : Int))
 (some (D.agg [(D.v (.int .i64 (mm true (IntKind.wrap .i64 (a0_0 - (1 : Int))) a1_5))), (D.v (.int .i64 a0_1)), (D.v (.int .i64 (mm true u3_0 u3_1)))]))
 (some (D.agg [(D.v (.int .i64 (mm true (IntKind.wrap .i64 (a0_0 - (1 : Int))) a1_5))), (D.v (.int .i64 a0_1)), (D.v (.int .i64 u3_0))]))) := (cutK_eq m _).trans (by kernel_rfl)
noncomputable def F_counters_next_counters_next_1_j3v4 (m : Nat) (a0_0 : Int) (a0_1 : Int) (a0_2 : Int) (a1_0 : Bool) (a1_1 : Bool) (a1_2n : Nat) (a1_2c : Option Nat) (a1_2 : List D) (a1_3 : Bool) (a1_4n : Nat) (a1_4c : Option Nat) (a1_4 : List D) (a1_5 : Int) (a1_6 : Int) (a1_7 : Int) (u4_0 : Int) (u4_1 : Int) (u4_2 : Int) (u4_3 : Int) (u4_4 : Int) (u4_5 : Bool) (u4_6 : Bool) (u4_7 : Nat) (u4_8 : Option Nat) (u4_9 : List D) (u4_10 : Bool) (u4_11 : Nat) (u4_12 : Option Nat) (u4_13 : List D) (u4_14 : Int) (u4_15 : Int) (u4_16 : Int) (u4_17 : Int) (u4_18 : Int) (u4_19 : Int) : Option D :=
 cutK m (codeK Tryz.prog H_counters_next.sp ⟨3, [], true, []⟩ (inlK Tryz.prog H_counters_next m 3) m fh_counters_next__counters_next_1 (subc [1, 1] (bodyOf Tryz.f56)) ⟨[(AV.d (D.v (.int .i64 u4_0))), (AV.d (D.v (.int .i64 u4_1))), .junk, .junk, .junk, .junk, .junk, .junk, .junk, .junk, .junk, .junk, .junk, .junk, .junk, .junk, .junk, .junk, .junk, .junk, .junk], [(Blk.d 3 [(D.v (.int .i64 u4_2)), (D.v (.int .i64 u4_3)), (D.v (.int .i64 u4_4))]), (Blk.d 8 [(D.v (.bool u4_5)), (D.v (.bool u4_6)), (D.list u4_7 u4_8 u4_9), (D.v (.bool u4_10)), (D.list u4_11 u4_12 u4_13), (D.v (.int .i64 u4_14)), (D.v (.int .i64 u4_15)), (D.v (.int .i64 u4_16))]), (Blk.d 3 [(D.v (.int .i64 u4_17)), (D.v (.int .i64 u4_18)), (D.v (.int .i64 u4_19))])]⟩
  (contK Tryz.prog H_counters_next.sp ⟨3, [], true, []⟩ (inlK Tryz.prog H_counters_next m 3) m fh_counters_next__counters_next_1 (endK Tryz.prog Tryz.f56 (fun v L => opsK Tryz.prog H_counters_next.sp ⟨0, [], false, []⟩ [true, true] (inlK Tryz.prog H_counters_next m 4) (regOps (subc [1, 1, 0] (bodyOf Tryz.f49))) (List.drop 18 (Array.toList (regOps (subc [1, 1, 0] (bodyOf Tryz.f49))))) ⟨setSl [(AV.d (D.agg [(D.v (.int .i64 a0_0)), (D.v (.int .i64 a0_1)), (D.v (.int .i64 a0_2))])), (AV.d (D.agg [(D.v (.bool a1_0)), (D.v (.bool a1_1)), (D.list a1_2n a1_2c a1_2), (D.v (.bool a1_3)), (D.list a1_4n a1_4c a1_4), (D.v (.int .i64 a1_5)), (D.v (.int .i64 a1_6)), (D.v (.int .i64 a1_7))])), (AV.ptr 0 0), (AV.ptr 1 0), (AV.ptr 2 0), (AV.clo 56 [(AV.ptr 1 0)]), (AV.clo 56 [(AV.ptr 1 0)]), (AV.clo 56 [(AV.ptr 1 0)]), (AV.ptr 0 0), (AV.d (D.v (.int .i64 a0_0))), (AV.ptr 1 5), (AV.d (D.v (.int .i64 a1_5))), (AV.d (D.v (.int .i64 (IntKind.wrap .i64 (a0_0 - (1 : Int)))))), (AV.clo 56 [(AV.ptr 1 0)]), (AV.ptr 0 1), (AV.d (D.v (.int .i64 a0_1))), (AV.ptr 1 6), (AV.d (D.v (.int .i64 a1_6))), (AV.d (D.v (.int .i64 (mm true (IntKind.wrap .i64 (a0_1 - (1 : Int))) a1_6)))), (AV.clo 56 [(AV.ptr 1 0)]), (AV.ptr 0 2), (AV.d (D.v (.int .i64 a0_2))), (AV.ptr 1 7), (AV.d (D.v (.int .i64 a1_7))), .junk, .junk] (some 24) v, L⟩ (fun st => contK Tryz.prog H_counters_next.sp ⟨0, [], false, []⟩ (inlK Tryz.prog H_counters_next m 4) m fh_counters_next__counters_next (endK Tryz.prog Tryz.f49 (fun v L => viewK L 8 v some)) [.code (subc [1, 1, 1] (bodyOf Tryz.f49))] .normal st))) []))
theorem F_counters_next_counters_next_1_j3v4_e (m : Nat) (a0_0 : Int) (a0_1 : Int) (a0_2 : Int) (a1_0 : Bool) (a1_1 : Bool) (a1_2n : Nat) (a1_2c : Option Nat) (a1_2 : List D) (a1_3 : Bool) (a1_4n : Nat) (a1_4c : Option Nat) (a1_4 : List D) (a1_5 : Int) (a1_6 : Int) (a1_7 : Int) (u4_0 : Int) (u4_1 : Int) (u4_2 : Int) (u4_3 : Int) (u4_4 : Int) (u4_5 : Bool) (u4_6 : Bool) (u4_7 : Nat) (u4_8 : Option Nat) (u4_9 : List D) (u4_10 : Bool) (u4_11 : Nat) (u4_12 : Option Nat) (u4_13 : List D) (u4_14 : Int) (u4_15 : Int) (u4_16 : Int) (u4_17 : Int) (u4_18 : Int) (u4_19 : Int) : F_counters_next_counters_next_1_j3v4 m a0_0 a0_1 a0_2 a1_0 a1_1 a1_2n a1_2c a1_2 a1_3 a1_4n a1_4c a1_4 a1_5 a1_6 a1_7 u4_0 u4_1 u4_2 u4_3 u4_4 u4_5 u4_6 u4_7 u4_8 u4_9 u4_10 u4_11 u4_12 u4_13 u4_14 u4_15 u4_16 u4_17 u4_18 u4_19 =
 (cond (u4_1 != (-1 : Int))
 (some (D.agg [(D.v (.int .i64 (IntKind.wrap .i64 (a0_0 - (1 : Int))))), (D.v (.int .i64 (mm true (IntKind.wrap .i64 (a0_1 - (1 : Int))) a1_6))), (D.v (.int .i64 (mm true u4_0 u4_1)))]))
 (some (D.agg [(D.v (.int .i64 (IntKind.wrap .i64 (a0_0 - (1 : Int))))), (D.v (.int .i64 (mm true (IntKind.wrap .i64 (a0_1 - (1 : Int))) a1_6))), (D.v (.int .i64 u4_0))]))) := (cutK_eq m _).trans (by kernel_rfl)
noncomputable def F_counters_next_counters_next_1_j3v5 (m : Nat) (a0_0 : Int) (a0_1 : Int) (a0_2 : Int) (a1_0 : Bool) (a1_1 : Bool) (a1_2n : Nat) (a1_2c : Option Nat) (a1_2 : List D) (a1_3 : Bool) (a1_4n : Nat) (a1_4c : Option Nat) (a1_4 : List D) (a1_5 : Int) (a1_6 : Int) (a1_7 : Int) (u5_0 : Int) (u5_1 : Int) (u5_2 : Int) (u5_3 : Int) (u5_4 : Int) (u5_5 : Bool) (u5_6 : Bool) (u5_7 : Nat) (u5_8 : Option Nat) (u5_9 : List D) (u5_10 : Bool) (u5_11 : Nat) (u5_12 : Option Nat) (u5_13 : List D) (u5_14 : Int) (u5_15 : Int) (u5_16 : Int) (u5_17 : Int) (u5_18 : Int) (u5_19 : Int) : Option D :=
 cutK m (codeK Tryz.prog H_counters_next.sp ⟨3, [], true, []⟩ (inlK Tryz.prog H_counters_next m 3) m fh_counters_next__counters_next_1 (subc [1, 1] (bodyOf Tryz.f56)) ⟨[(AV.d (D.v (.int .i64 u5_0))), (AV.d (D.v (.int .i64 u5_1))), .junk, .junk, .junk, .junk, .junk, .junk, .junk, .junk, .junk, .junk, .junk, .junk, .junk, .junk, .junk, .junk, .junk, .junk, .junk], [(Blk.d 3 [(D.v (.int .i64 u5_2)), (D.v (.int .i64 u5_3)), (D.v (.int .i64 u5_4))]), (Blk.d 8 [(D.v (.bool u5_5)), (D.v (.bool u5_6)), (D.list u5_7 u5_8 u5_9), (D.v (.bool u5_10)), (D.list u5_11 u5_12 u5_13), (D.v (.int .i64 u5_14)), (D.v (.int .i64 u5_15)), (D.v (.int .i64 u5_16))]), (Blk.d 3 [(D.v (.int .i64 u5_17)), (D.v (.int .i64 u5_18)), (D.v (.int .i64 u5_19))])]⟩
  (contK Tryz.prog H_counters_next.sp ⟨3, [], true, []⟩ (inlK Tryz.prog H_counters_next m 3) m fh_counters_next__counters_next_1 (endK Tryz.prog Tryz.f56 (fun v L => opsK Tryz.prog H_counters_next.sp ⟨0, [], false, []⟩ [true, true] (inlK Tryz.prog H_counters_next m 4) (regOps (subc [1, 1, 0] (bodyOf Tryz.f49))) (List.drop 18 (Array.toList (regOps (subc [1, 1, 0] (bodyOf Tryz.f49))))) ⟨setSl [(AV.d (D.agg [(D.v (.int .i64 a0_0)), (D.v (.int .i64 a0_1)), (D.v (.int .i64 a0_2))])), (AV.d (D.agg [(D.v (.bool a1_0)), (D.v (.bool a1_1)), (D.list a1_2n a1_2c a1_2), (D.v (.bool a1_3)), (D.list a1_4n a1_4c a1_4), (D.v (.int .i64 a1_5)), (D.v (.int .i64 a1_6)), (D.v (.int .i64 a1_7))])), (AV.ptr 0 0), (AV.ptr 1 0), (AV.ptr 2 0), (AV.clo 56 [(AV.ptr 1 0)]), (AV.clo 56 [(AV.ptr 1 0)]), (AV.clo 56 [(AV.ptr 1 0)]), (AV.ptr 0 0), (AV.d (D.v (.int .i64 a0_0))), (AV.ptr 1 5), (AV.d (D.v (.int .i64 a1_5))), (AV.d (D.v (.int .i64 (IntKind.wrap .i64 (a0_0 - (1 : Int)))))), (AV.clo 56 [(AV.ptr 1 0)]), (AV.ptr 0 1), (AV.d (D.v (.int .i64 a0_1))), (AV.ptr 1 6), (AV.d (D.v (.int .i64 a1_6))), (AV.d (D.v (.int .i64 (IntKind.wrap .i64 (a0_1 - (1 : Int)))))), (AV.clo 56 [(AV.ptr 1 0)]), (AV.ptr 0 2), (AV.d (D.v (.int .i64 a0_2))), (AV.ptr 1 7), (AV.d (D.v (.int .i64 a1_7))), .junk, .junk] (some 24) v, L⟩ (fun st => contK Tryz.prog H_counters_next.sp ⟨0, [], false, []⟩ (inlK Tryz.prog H_counters_next m 4) m fh_counters_next__counters_next (endK Tryz.prog Tryz.f49 (fun v L => viewK L 8 v some)) [.code (subc [1, 1, 1] (bodyOf Tryz.f49))] .normal st))) []))
theorem F_counters_next_counters_next_1_j3v5_e (m : Nat) (a0_0 : Int) (a0_1 : Int) (a0_2 : Int) (a1_0 : Bool) (a1_1 : Bool) (a1_2n : Nat) (a1_2c : Option Nat) (a1_2 : List D) (a1_3 : Bool) (a1_4n : Nat) (a1_4c : Option Nat) (a1_4 : List D) (a1_5 : Int) (a1_6 : Int) (a1_7 : Int) (u5_0 : Int) (u5_1 : Int) (u5_2 : Int) (u5_3 : Int) (u5_4 : Int) (u5_5 : Bool) (u5_6 : Bool) (u5_7 : Nat) (u5_8 : Option Nat) (u5_9 : List D) (u5_10 : Bool) (u5_11 : Nat) (u5_12 : Option Nat) (u5_13 : List D) (u5_14 : Int) (u5_15 : Int) (u5_16 : Int) (u5_17 : Int) (u5_18 : Int) (u5_19 : Int) : F_counters_next_counters_next_1_j3v5 m a0_0 a0_1 a0_2 a1_0 a1_1 a1_2n a1_2c a1_2 a1_3 a1_4n a1_4c a1_4 a1_5 a1_6 a1_7 u5_0 u5_1 u5_2 u5_3 u5_4 u5_5 u5_6 u5_7 u5_8 u5_9 u5_10 u5_11 u5_12 u5_13 u5_14 u5_15 u5_16 u5_17 u5_18 u5_19 =
 (cond (u5_1 != (-1 : Int))
 (some (D.agg [(D.v (.int .i64 (IntKind.wrap .i64 (a0_0 - (1 : Int))))), (D.v (.int .i64 (IntKind.wrap .i64 (a0_1 - (1 : Int))))), (D.v (.int .i64 (mm true u5_0 u5_1)))]))
 (some (D.agg [(D.v (.int .i64 (IntKind.wrap .i64 (a0_0 - (1 : Int))))), (D.v (.int .i64 (IntKind.wrap .i64 (a0_1 - (1 : Int))))), (D.v (.int .i64 u5_0))]))) := (cutK_eq m _).trans (by kernel_rfl)
noncomputable def F_counters_next_counters_next_1_j3v6 (m : Nat) (a0_0 : Int) (a0_1 : Int) (a0_2 : Int) (a1_0 : Bool) (a1_1 : Bool) (a1_2n : Nat) (a1_2c : Option Nat) (a1_2 : List D) (a1_3 : Bool) (a1_4n : Nat) (a1_4c : Option Nat) (a1_4 : List D) (a1_5 : Int) (a1_6 : Int) (a1_7 : Int) (u6_0 : Int) (u6_1 : Int) (u6_2 : Int) (u6_3 : Int) (u6_4 : Int) (u6_5 : Bool) (u6_6 : Bool) (u6_7 : Nat) (u6_8 : Option Nat) (u6_9 : List D) (u6_10 : Bool) (u6_11 : Nat) (u6_12 : Option Nat) (u6_13 : List D) (u6_14 : Int) (u6_15 : Int) (u6_16 : Int) (u6_17 : Int) (u6_18 : Int) (u6_19 : Int) : Option D :=
 cutK m (codeK Tryz.prog H_counters_next.sp ⟨3, [], true, []⟩ (inlK Tryz.prog H_counters_next m 3) m fh_counters_next__counters_next_1 (subc [1, 1] (bodyOf Tryz.f56)) ⟨[(AV.d (D.v (.int .i64 u6_0))), (AV.d (D.v (.int .i64 u6_1))), .junk, .junk, .junk, .junk, .junk, .junk, .junk, .junk, .junk, .junk, .junk, .junk, .junk, .junk, .junk, .junk, .junk, .junk, .junk], [(Blk.d 3 [(D.v (.int .i64 u6_2)), (D.v (.int .i64 u6_3)), (D.v (.int .i64 u6_4))]), (Blk.d 8 [(D.v (.bool u6_5)), (D.v (.bool u6_6)), (D.list u6_7 u6_8 u6_9), (D.v (.bool u6_10)), (D.list u6_11 u6_12 u6_13), (D.v (.int .i64 u6_14)), (D.v (.int .i64 u6_15)), (D.v (.int .i64 u6_16))]), (Blk.d 3 [(D.v (.int .i64 u6_17)), (D.v (.int .i64 u6_18)), (D.v (.int .i64 u6_19))])]⟩
  (contK Tryz.prog H_counters_next.sp ⟨3, [], true, []⟩ (inlK Tryz.prog H_counters_next m 3) m fh_counters_next__counters_next_1 (endK Tryz.prog Tryz.f56 (fun v L => opsK Tryz.prog H_counters_next.sp ⟨0, [], false, []⟩ [true, true] (inlK Tryz.prog H_counters_next m 4) (regOps (subc [1, 1, 0] (bodyOf Tryz.f49))) (List.drop 18 (Array.toList (regOps (subc [1, 1, 0] (bodyOf Tryz.f49))))) ⟨setSl [(AV.d (D.agg [(D.v (.int .i64 a0_0)), (D.v (.int .i64 a0_1)), (D.v (.int .i64 a0_2))])), (AV.d (D.agg [(D.v (.bool a1_0)), (D.v (.bool a1_1)), (D.list a1_2n a1_2c a1_2), (D.v (.bool a1_3)), (D.list a1_4n a1_4c a1_4), (D.v (.int .i64 a1_5)), (D.v (.int .i64 a1_6)), (D.v (.int .i64 a1_7))])), (AV.ptr 0 0), (AV.ptr 1 0), (AV.ptr 2 0), (AV.clo 56 [(AV.ptr 1 0)]), (AV.clo 56 [(AV.ptr 1 0)]), (AV.clo 56 [(AV.ptr 1 0)]), (AV.ptr 0 0), (AV.d (D.v (.int .i64 a0_0))), (AV.ptr 1 5), (AV.d (D.v (.int .i64 a1_5))), (AV.d (D.v (.int .i64 (IntKind.wrap .i64 (a0_0 - (1 : Int)))))), (AV.clo 56 [(AV.ptr 1 0)]), (AV.ptr 0 1), (AV.d (D.v (.int .i64 a0_1))), (AV.ptr 1 6), (AV.d (D.v (.int .i64 a1_6))), (AV.d (D.v (.int .i64 (mm true a0_1 a1_6)))), (AV.clo 56 [(AV.ptr 1 0)]), (AV.ptr 0 2), (AV.d (D.v (.int .i64 a0_2))), (AV.ptr 1 7), (AV.d (D.v (.int .i64 a1_7))), .junk, .junk] (some 24) v, L⟩ (fun st => contK Tryz.prog H_counters_next.sp ⟨0, [], false, []⟩ (inlK Tryz.prog H_counters_next m 4) m fh_counters_next__counters_next (endK Tryz.prog Tryz.f49 (fun v L => viewK L 8 v some)) [.code (subc [1, 1, 1] (bodyOf Tryz.f49))] .normal st))) []))
theorem F_counters_next_counters_next_1_j3v6_e (m : Nat) (a0_0 : Int) (a0_1 : Int) (a0_2 : Int) (a1_0 : Bool) (a1_1 : Bool) (a1_2n : Nat) (a1_2c : Option Nat) (a1_2 : List D) (a1_3 : Bool) (a1_4n : Nat) (a1_4c : Option Nat) (a1_4 : List D) (a1_5 : Int) (a1_6 : Int) (a1_7 : Int) (u6_0 : Int) (u6_1 : Int) (u6_2 : Int) (u6_3 : Int) (u6_4 : Int) (u6_5 : Bool) (u6_6 : Bool) (u6_7 : Nat) (u6_8 : Option Nat) (u6_9 : List D) (u6_10 : Bool) (u6_11 : Nat) (u6_12 : Option Nat) (u6_13 : List D) (u6_14 : Int) (u6_15 : Int) (u6_16 : Int) (u6_17 : Int) (u6_18 : Int) (u6_19 : Int) : F_counters_next_counters_next_1_j3v6 m a0_0 a0_1 a0_2 a1_0 a1_1 a1_2n a1_2c a1_2 a1_3 a1_4n a1_4c a1_4 a1_5 a1_6 a1_7 u6_0 u6_1 u6_2 u6_3 u6_4 u6_5 u6_6 u6_7 u6_8 u6_9 u6_10 u6_11 u6_12 u6_13 u6_14 u6_15 u6_16 u6_17 u6_18 u6_19 =
 (cond (u6_1 != (-1 : Int))
 (some (D.agg [(D.v (.int .i64 (IntKind.wrap .i64 (a0_0 - (1 : Int))))), (D.v (.int .i64 (mm true a0_1 a1_6))), (D.v (.int .i64 (mm true u6_0 u6_1)))]))
 (some (D.agg [(D.v (.int .i64 (IntKind.wrap .i64 (a0_0 - (1 : Int))))), (D.v (.int .i64 (mm true a0_1 a1_6))), (D.v (.int .i64 u6_0))]))) := (cutK_eq m _).trans (by kernel_rfl)
noncomputable def F_counters_next_counters_next_1_j3v7 (m : Nat) (a0_0 : Int) (a0_1 : Int) (a0_2 : Int) (a1_0 : Bool) (a1_1 : Bool) (a1_2n : Nat) (a1_2c : Option Nat) (a1_2 : List D) (a1_3 : Bool) (a1_4n : Nat) (a1_4c : Option Nat) (a1_4 : List D) (a1_5 : Int) (a1_6 : Int) (a1_7 : Int) (u7_0 : Int) (u7_1 : Int) (u7_2 : Int) (u7_3 : Int) (u7_4 : Int) (u7_5 : Bool) (u7_6 : Bool) (u7_7 : Nat) (u7_8 : Option Nat) (u7_9 : List D) (u7_10 : Bool) (u7_11 : Nat) (u7_12 : Option Nat) (u7_13 : List D) (u7_14 : Int) (u7_15 : Int) (u7_16 : Int) (u7_17 : Int) (u7_18 : Int) (u7_19 : Int) : Option D :=
 cutK m (codeK Tryz.prog H_counters_next.sp ⟨3, [], true, []⟩ (inlK Tryz.prog H_counters_next m 3) m fh_counters_next__counters_next_1 (subc [1, 1] (bodyOf Tryz.f56)) ⟨[(AV.d (D.v (.int .i64 u7_0))), (AV.d (D.v (.int .i64 u7_1))), .junk, .junk, .junk, .junk, .junk, .junk, .junk, .junk, .junk, .junk, .junk, .junk, .junk, .junk, .junk, .junk, .junk, .junk, .junk], [(Blk.d 3 [(D.v (.int .i64 u7_2)), (D.v (.int .i64 u7_3)), (D.v (.int .i64 u7_4))]), (Blk.d 8 [(D.v (.bool u7_5)), (D.v (.bool u7_6)), (D.list u7_7 u7_8 u7_9), (D.v (.bool u7_10)), (D.list u7_11 u7_12 u7_13), (D.v (.int .i64 u7_14)), (D.v (.int .i64 u7_15)), (D.v (.int .i64 u7_16))]), (Blk.d 3 [(D.v (.int .i64 u7_17)), (D.v (.int .i64 u7_18)), (D.v (.int .i64 u7_19))])]⟩
  (contK Tryz.prog H_counters_next.sp ⟨3, [], true, []⟩ (inlK Tryz.prog H_counters_next m 3) m fh_counters_next__counters_next_1 (endK Tryz.prog Tryz.f56 (fun v L => opsK Tryz.prog H_counters_next.sp ⟨0, [], false, []⟩ [true, true] (inlK Tryz.prog H_counters_next m 4) (regOps (subc [1, 1, 0] (bodyOf Tryz.f49))) (List.drop 18 (Array.toList (regOps (subc [1, 1, 0] (bodyOf Tryz.f49))))) ⟨setSl [(AV.d (D.agg [(D.v (.int .i64 a0_0)), (D.v (.int .i64 a0_1)), (D.v (.int .i64 a0_2))])), (AV.d (D.agg [(D.v (.bool a1_0)), (D.v (.bool a1_1)), (D.list a1_2n a1_2c a1_2), (D.v (.bool a1_3)), (D.list a1_4n a1_4c a1_4), (D.v (.int .i64 a1_5)), (D.v (.int .i64 a1_6)), (D.v (.int .i64 a1_7))])), (AV.ptr 0 0), (AV.ptr 1 0), (AV.ptr 2 0), (AV.clo 56 [(AV.ptr 1 0)]), (AV.clo 56 [(AV.ptr 1 0)]), (AV.clo 56 [(AV.ptr 1 0)]), (AV.ptr 0 0), (AV.d (D.v (.int .i64 a0_0))), (AV.ptr 1 5), (AV.d (D.v (.int .i64 a1_5))), (AV.d (D.v (.int .i64 (IntKind.wrap .i64 (a0_0 - (1 : Int)))))), (AV.clo 56 [(AV.ptr 1 0)]), (AV.ptr 0 1), (AV.d (D.v (.int .i64 a0_1))), (AV.ptr 1 6), (AV.d (D.v (.int .i64 a1_6))), (AV.d (D.v (.int .i64 a0_1))), (AV.clo 56 [(AV.ptr 1 0)]), (AV.ptr 0 2), (AV.d (D.v (.int .i64 a0_2))), (AV.ptr 1 7), (AV.d (D.v (.int .i64 a1_7))), .junk, .junk] (some 24) v, L⟩ (fun st => contK Tryz.prog H_counters_next.sp ⟨0, [], false, []⟩ (inlK Tryz.prog H_counters_next m 4) m fh_counters_next__counters_next (endK Tryz.prog Tryz.f49 (fun v L => viewK L 8 v some)) [.code (subc [1, 1, 1] (bodyOf Tryz.f49))] .normal st))) []))
theorem F_counters_next_counters_next_1_j3v7_e (m : Nat) (a0_0 : Int) (a0_1 : Int) (a0_2 : Int) (a1_0 : Bool) (a1_1 : Bool) (a1_2n : Nat) (a1_2c : Option Nat) (a1_2 : List D) (a1_3 : Bool) (a1_4n : Nat) (a1_4c : Option Nat) (a1_4 : List D) (a1_5 : Int) (a1_6 : Int) (a1_7 : Int) (u7_0 : Int) (u7_1 : Int) (u7_2 : Int) (u7_3 : Int) (u7_4 : Int) (u7_5 : Bool) (u7_6 : Bool) (u7_7 : Nat) (u7_8 : Option Nat) (u7_9 : List D) (u7_10 : Bool) (u7_11 : Nat) (u7_12 : Option Nat) (u7_13 : List D) (u7_14 : Int) (u7_15 : Int) (u7_16 : Int) (u7_17 : Int) (u7_18 : Int) (u7_19 : Int) : F_counters_next_counters_next_1_j3v7 m a0_0 a0_1 a0_2 a1_0 a1_1 a1_2n a1_2c a1_2 a1_3 a1_4n a1_4c a1_4 a1_5 a1_6 a1_7 u7_0 u7_1 u7_2 u7_3 u7_4 u7_5 u7_6 u7_7 u7_8 u7_9 u7_10 u7_11 u7_12 u7_13 u7_14 u7_15 u7_16 u7_17 u7_18 u7_19 =
 (cond (u7_1 != (-1 : Int))
 (some (D.agg [(D.v (.int .i64 (IntKind.wrap .i64 (a0_0 - (1 : Int))))), (D.v (.int .i64 a0_1)), (D.v (.int .i64 (mm true u7_0 u7_1)))]))
 (some (D.agg [(D.v (.int .i64 (IntKind.wrap .i64 (a0_0 - (1 : Int))))), (D.v (.int .i64 a0_1)), (D.v (.int .i64 u7_0))]))) := (cutK_eq m _).trans (by kernel_rfl)
noncomputable def F_counters_next_counters_next_1_j3v8 (m : Nat) (a0_0 : Int) (a0_1 : Int) (a0_2 : Int) (a1_0 : Bool) (a1_1 : Bool) (a1_2n : Nat) (a1_2c : Option Nat) (a1_2 : List D) (a1_3 : Bool) (a1_4n : Nat) (a1_4c : Option Nat) (a1_4 : List D) (a1_5 : Int) (a1_6 : Int) (a1_7 : Int) (u8_0 : Int) (u8_1 : Int) (u8_2 : Int) (u8_3 : Int) (u8_4 : Int) (u8_5 : Bool) (u8_6 : Bool) (u8_7 : Nat) (u8_8 : Option Nat) (u8_9 : List D) (u8_10 : Bool) (u8_11 : Nat) (u8_12 : Option Nat) (u8_13 : List D) (u8_14 : Int) (u8_15 : Int) (u8_16 : Int) (u8_17 : Int) (u8_18 : Int) (u8_19 : Int) : Option D :=
 cutK m (codeK Tryz.prog H_counters_next.sp ⟨3, [], true, []⟩ (inlK Tryz.prog H_counters_next m 3) m fh_counters_next__counters_next_1 (subc [1, 1] (bodyOf Tryz.f56)) ⟨[(AV.d (D.v (.int .i64 u8_0))), (AV.d (D.v (.int .i64 u8_1))), .junk, .junk, .junk, .junk, .junk, .junk, .junk, .junk, .junk, .junk, .junk, .junk, .junk, .junk, .junk, .junk, .junk, .junk, .junk], [(Blk.d 3 [(D.v (.int .i64 u8_2)), (D.v (.int .i64 u8_3)), (D.v (.int .i64 u8_4))]), (Blk.d 8 [(D.v (.bool u8_5)), (D.v (.bool u8_6)), (D.list u8_7 u8_8 u8_9), (D.v (.bool u8_10)), (D.list u8_11 u8_12 u8_13), (D.v (.int .i64 u8_14)), (D.v (.int .i64 u8_15)), (D.v (.int .i64 u8_16))]), (Blk.d 3 [(D.v (.int .i64 u8_17)), (D.v (.int .i64 u8_18)), (D.v (.int .i64 u8_19))])]⟩
  (contK Tryz.prog H_counters_next.sp ⟨3, [], true, []⟩ (inlK Tryz.prog H_counters_next m 3) m fh_counters_next__counters_next_1 (endK Tryz.prog Tryz.f56 (fun v L => opsK Tryz.prog H_counters_next.sp ⟨0, [], false, []⟩ [true, true] (inlK Tryz.prog H_counters_next m 4) (regOps (subc [1, 1, 0] (bodyOf Tryz.f49))) (List.drop 18 (Array.toList (regOps (subc [1, 1, 0] (bodyOf Tryz.f49))))) ⟨setSl [(AV.d (D.agg [(D.v (.int .i64 a0_0)), (D.v (.int .i64 a0_1)), (D.v (.int .i64 a0_2))])), (AV.d (D.agg [(D.v (.bool a1_0)), (D.v (.bool a1_1)), (D.list a1_2n a1_2c a1_2), (D.v (.bool a1_3)), (D.list a1_4n a1_4c a1_4), (D.v (.int .i64 a1_5)), (D.v (.int .i64 a1_6)), (D.v (.int .i64 a1_7))])), (AV.ptr 0 0), (AV.ptr 1 0), (AV.ptr 2 0), (AV.clo 56 [(AV.ptr 1 0)]), (AV.clo 56 [(AV.ptr 1 0)]), (AV.clo 56 [(AV.ptr 1 0)]), (AV.ptr 0 0), (AV.d (D.v (.int .i64 a0_0))), (AV.ptr 1 5), (AV.d (D.v (.int .i64 a1_5))), (AV.d (D.v (.int .i64 (mm true a0_0 a1_5)))), (AV.clo 56 [(AV.ptr 1 0)]), (AV.ptr 0 1), (AV.d (D.v (.int .i64 a0_1))), (AV.ptr 1 6), (AV.d (D.v (.int .i64 a1_6))), (AV.d (D.v (.int .i64 (mm true (IntKind.wrap .i64 (a0_1 - (1 : Int))) a1_6)))), (AV.clo 56 [(AV.ptr 1 0)]), (AV.ptr 0 2), (AV.d (D.v (.int .i64 a0_2))), (AV.ptr 1 7), (AV.d (D.v (.int .i64 a1_7))), .junk, .junk] (some 24) v, L⟩ (fun st => contK Tryz.prog H_counters_next.sp ⟨0, [], false, []⟩ (inlK Tryz.prog H_counters_next m 4) m fh_counters_next__counters_next (endK Tryz.prog Tryz.f49 (fun v L => viewK L 8 v some)) [.code (subc [1, 1, 1] (bodyOf Tryz.f49))] .normal st))) []))
theorem F_counters_next_counters_next_1_j3v8_e (m : Nat) (a0_0 : Int) (a0_1 : Int) (a0_2 : Int) (a1_0 : Bool) (a1_1 : Bool) (a1_2n : Nat) (a1_2c : Option Nat) (a1_2 : List D) (a1_3 : Bool) (a1_4n : Nat) (a1_4c : Option Nat) (a1_4 : List D) (a1_5 : Int) (a1_6 : Int) (a1_7 : Int) (u8_0 : Int) (u8_1 : Int) (u8_2 : Int) (u8_3 : Int) (u8_4 : Int) (u8_5 : Bool) (u8_6 : Bool) (u8_7 : Nat) (u8_8 : Option Nat) (u8_9 : List D) (u8_10 : Bool) (u8_11 : Nat) (u8_12 : Option Nat) (u8_13 : List D) (u8_14 : Int) (u8_15 : Int) (u8_16 : Int) (u8_17 : Int) (u8_18 : Int) (u8_19 : Int) : F_counters_next_counters_next_1_j3v8 m a0_0 a0_1 a0_2 a1_0 a1_1 a1_2n a1_2c a1_2 a1_3 a1_4n a1_4c a1_4 a1_5 a1_6 a1_7 u8_0 u8_1 u8_2 u8_3 u8_4 u8_5 u8_6 u8_7 u8_8 u8_9 u8_10 u8_11 u8_12 u8_13 u8_14 u8_15 u8_16 u8_17 u8_18 u8_19 =
 (cond (u8_1 != (-1 : Int))
 (some (D.agg [(D.v (.int .i64 (mm true a0_0 a1_5))), (D.v (.int .i64 (mm true (IntKind.wrap .i64 (a0_1 - (1 : Int))) a1_6))), (D.v (.int .i64 (mm true u8_0 u8_1)))]))
 (some (D.agg [(D.v (.int .i64 (mm true a0_0 a1_5))), (D.v (.int .i64 (mm true (IntKind.wrap .i64 (a0_1 - (1 : Int))) a1_6))), (D.v (.int .i64 u8_0))]))) := (cutK_eq m _).trans (by kernel_rfl)
noncomputable def F_counters_next_counters_next_1_j3v9 (m : Nat) (a0_0 : Int) (a0_1 : Int) (a0_2 : Int) (a1_0 : Bool) (a1_1 : Bool) (a1_2n : Nat) (a1_2c : Option Nat) (a1_2 : List D) (a1_3 : Bool) (a1_4n : Nat) (a1_4c : Option Nat) (a1_4 : List D) (a1_5 : Int) (a1_6 : Int) (a1_7 : Int) (u9_0 : Int) (u9_1 : Int) (u9_2 : Int) (u9_3 : Int) (u9_4 : Int) (u9_5 : Bool) (u9_6 : Bool) (u9_7 : Nat) (u9_8 : Option Nat) (u9_9 : List D) (u9_10 : Bool) (u9_11 : Nat) (u9_12 : Option Nat) (u9_13 : List D) (u9_14 : Int) (u9_15 : Int) (u9_16 : Int) (u9_17 : Int) (u9_18 : Int) (u9_19 : Int) : Option D :=
 cutK m (codeK Tryz.prog H_counters_next.sp ⟨3, [], true, []⟩ (inlK Tryz.prog H_counters_next m 3) m fh_counters_next__counters_next_1 (subc [1, 1] (bodyOf Tryz.f56)) ⟨[(AV.d (D.v (.int .i64 u9_0))), (AV.d (D.v (.int .i64 u9_1))), .junk, .junk, .junk, .junk, .junk, .junk, .junk, .junk, .junk, .junk, .junk, .junk, .junk, .junk, .junk, .junk, .junk, .junk, .junk], [(Blk.d 3 [(D.v (.int .i64 u9_2)), (D.v (.int .i64 u9_3)), (D.v (.int .i64 u9_4))]), (Blk.d 8 [(D.v (.bool u9_5)), (D.v (.bool u9_6)), (D.list u9_7 u9_8 u9_9), (D.v (.bool u9_10)), (D.list u9_11 u9_12 u9_13), (D.v (.int .i64 u9_14)), (D.v (.int .i64 u9_15)), (D.v (.int .i64 u9_16))]), (Blk.d 3 [(D.v (.int .i64 u9_17)), (D.v (.int .i64 u9_18)), (D.v (.int .i64 u9_19))])]⟩
  (contK Tryz.prog H_counters_next.sp ⟨3, [], true, []⟩ (inlK Tryz.prog H_counters_next m 3) m fh_counters_next__counters_next_1 (endK Tryz.prog Tryz.f56 (fun v L => opsK Tryz.prog H_counters_next.sp ⟨0, [], false, []⟩ [true, true] (inlK Tryz.prog H_counters_next m 4) (regOps (subc [1, 1, 0] (bodyOf Tryz.f49))) (List.drop 18 (Array.toList (regOps (subc [1, 1, 0] (bodyOf Tryz.f49))))) ⟨setSl [(AV.d (D.agg [(D.v (.int .i64 a0_0)), (D.v (.int .i64 a0_1)), (D.v (.int .i64 a0_2))])), (AV.d (D.agg [(D.v (.bool a1_0)), (D.v (.bool a1_1)), (D.list a1_2n a1_2c a1_2), (D.v (.bool a1_3)), (D.list a1_4n a1_4c a1_4), (D.v (.int .i64 a1_5)), (D.v (.int .i64 a1_6)), (D.v (.int .i64 a1_7))])), (AV.ptr 0 0), (AV.ptr 1 0), (AV.ptr 2 0), (AV.clo 56 [(AV.ptr 1 0)]), (AV.clo 56 [(AV.ptr 1 0)]), (AV.clo 56 [(AV.ptr 1 0)]), (AV.ptr 0 0), (AV.d (D.v (.int .i64 a0_0))), (AV.ptr 1 5), (AV.d (D.v (.int .i64 a1_5))), (AV.d (D.v (.int .i64 (mm true a0_0 a1_5)))), (AV.clo 56 [(AV.ptr 1 0)]), (AV.ptr 0 1), (AV.d (D.v (.int .i64 a0_1))), (AV.ptr 1 6), (AV.d (D.v (.int .i64 a1_6))), (AV.d (D.v (.int .i64 (IntKind.wrap .i64 (a0_1 - (1 : Int)))))), (AV.clo 56 [(AV.ptr 1 0)]), (AV.ptr 0 2), (AV.d (D.v (.int .i64 a0_2))), (AV.ptr 1 7), (AV.d (D.v (.int .i64 a1_7))), .junk, .junk] (some 24) v, L⟩ (fun st => contK Tryz.prog H_counters_next.sp ⟨0, [], false, []⟩ (inlK Tryz.prog H_counters_next m 4) m fh_counters_next__counters_next (endK Tryz.prog Tryz.f49 (fun v L => viewK L 8 v some)) [.code (subc [1, 1, 1] (bodyOf Tryz.f49))] .normal st))) []))
theorem F_counters_next_counters_next_1_j3v9_e (m : Nat) (a0_0 : Int) (a0_1 : Int) (a0_2 : Int) (a1_0 : Bool) (a1_1 : Bool) (a1_2n : Nat) (a1_2c : Option Nat) (a1_2 : List D) (a1_3 : Bool) (a1_4n : Nat) (a1_4c : Option Nat) (a1_4 : List D) (a1_5 : Int) (a1_6 : Int) (a1_7 : Int) (u9_0 : Int) (u9_1 : Int) (u9_2 : Int) (u9_3 : Int) (u9_4 : Int) (u9_5 : Bool) (u9_6 : Bool) (u9_7 : Nat) (u9_8 : Option Nat) (u9_9 : List D) (u9_10 : Bool) (u9_11 : Nat) (u9_12 : Option Nat) (u9_13 : List D) (u9_14 : Int) (u9_15 : Int) (u9_16 : Int) (u9_17 : Int) (u9_18 : Int) (u9_19 : Int) : F_counters_next_counters_next_1_j3v9 m a0_0 a0_1 a0_2 a1_0 a1_1 a1_2n a1_2c a1_2 a1_3 a1_4n a1_4c a1_4 a1_5 a1_6 a1_7 u9_0 u9_1 u9_2 u9_3 u9_4 u9_5 u9_6 u9_7 u9_8 u9_9 u9_10 u9_11 u9_12 u9_13 u9_14 u9_15 u9_16 u9_17 u9_18 u9_19 =
 (cond (u9_1 != (-1 : Int))
 (some (D.agg [(D.v (.int .i64 (mm true a0_0 a1_5))), (D.v (.int .i64 (IntKind.wrap .i64 (a0_1 - (1 : Int))))), (D.v (.int .i64 (mm true u9_0 u9_1)))]))
 (some (D.agg [(D.v (.int .i64 (mm true a0_0 a1_5))), (D.v (.int .i64 (IntKind.wrap .i64 (a0_1 - (1 : Int))))), (D.v (.int .i64 u9_0))]))) := (cutK_eq m _).trans (by kernel_rfl)
noncomputable def F_counters_next_counters_next_1_j3v10 (m : Nat) (a0_0 : Int) (a0_1 : Int) (a0_2 : Int) (a1_0 : Bool) (a1_1 : Bool) (a1_2n : Nat) (a1_2c : Option Nat) (a1_2 : List D) (a1_3 : Bool) (a1_4n : Nat) (a1_4c : Option Nat) (a1_4 : List D) (a1_5 : Int) (a1_6 : Int) (a1_7 : Int) (u10_0 : Int) (u10_1 : Int) (u10_2 : Int) (u10_3 : Int) (u10_4 : Int) (u10_5 : Bool) (u10_6 : Bool) (u10_7 : Nat) (u10_8 : Option Nat) (u10_9 : List D) (u10_10 : Bool) (u10_11 : Nat) (u10_12 : Option Nat) (u10_13 : List D) (u10_14 : Int) (u10_15 : Int) (u10_16 : Int) (u10_17 : Int) (u10_18 : Int) (u10_19 : Int) : Option D :=
 cutK m (codeK Tryz.prog H_counters_next.sp ⟨3, [], true, []⟩ (inlK Tryz.prog H_counters_next m 3) m fh_counters_next__counters_next_1 (subc [1, 1] (bodyOf Tryz.f56)) ⟨[(AV.d (D.v (.int .i64 u10_0))), (AV.d (D.v (.int .i64 u10_1))), .junk, .junk, .junk, .junk, .junk, .junk, .junk, .junk, .junk, .junk, .junk, .junk, .junk, .junk, .junk, .junk, .junk, .junk, .junk], [(Blk.d 3 [(D.v (.int .i64 u10_2)), (D.v (.int .i64 u10_3)), (D.v (.int .i64 u10_4))]), (Blk.d 8 [(D.v (.bool u10_5)), (D.v (.bool u10_6)), (D.list u10_7 u10_8 u10_9), (D.v (.bool u10_10)), (D.list u10_11 u10_12 u10_13), (D.v (.int .i64 u10_14)), (D.v (.int .i64 u10_15)), (D.v (.int .i64 u10_16))]), (Blk.d 3 [(D.v (.int .i64 u10_17)), (D.v (.int .i64 u10_18)), (D.v (.int .i64 u10_19))])]⟩
  (contK Tryz.prog H_counters_next.sp ⟨3, [], true, []⟩ (inlK Tryz.prog H_counters_next m 3) m fh_counters_next__counters_next_1 (endK Tryz.prog Tryz.f56 (fun v L => opsK Tryz.prog H_counters_next.sp ⟨0, [], false, []⟩ [true, true] (inlK Tryz.prog H_counters_next m 4) (regOps (subc [1, 1, 0] (bodyOf Tryz.f49))) (List.drop 18 (Array.toList (regOps (subc [1, 1, 0] (bodyOf Tryz.f49))))) ⟨setSl [(AV.d (D.agg [(D.v (.int .i64 a0_0)), (D.v (.int .i64 a0_1)), (D.v (.int .i64 a0_2))])), (AV.d (D.agg [(D.v (.bool a1_0)), (D.v (.bool a1_1)), (D.list a1_2n a1_2c a1_2), (D.v (.bool a1_3)), (D.list a1_4n a1_4c a1_4), (D.v (.int .i64 a1_5)), (D.v (.int .i64 a1_6)), (D.v (.int .i64 a1_7))])), (AV.ptr 0 0), (AV.ptr 1 0), (AV.ptr 2 0), (AV.clo 56 [(AV.ptr 1 0)]), (AV.clo 56 [(AV.ptr 1 0)]), (AV.clo 56 [(AV.ptr 1 0)]), (AV.ptr 0 0), (AV.d (D.v (.int .i64 a0_0))), (AV.ptr 1 5), (AV.d (D.v (.int .i64 a1_5))), (AV.d (D.v (.int .i64 (mm true a0_0 a1_5)))), (AV.clo 56 [(AV.ptr 1 0)]), (AV.ptr 0 1), (AV.d (D.v (.int .i64 a0_1))), (AV.ptr 1 6), (AV.d (D.v (.int .i64 a1_6))), (AV.d (D.v (.int .i64 (mm true a0_1 a1_6)))), (AV.clo 56 [(AV.ptr 1 0)]), (AV.ptr 0 2), (AV.d (D.v (.int .i64 a0_2))), (AV.ptr 1 7), (AV.d (D.v (.int .i64 a1_7))), .junk, .junk] (some 24) v, L⟩ (fun st => contK Tryz.prog H_counters_next.sp ⟨0, [], false, []⟩ (inlK Tryz.prog H_counters_next m 4) m fh_counters_next__counters_next (endK Tryz.prog Tryz.f49 (fun v L => viewK L 8 v some)) [.code (subc [1, 1, 1] (bodyOf Tryz.f49))] .normal st))) []))
theorem F_counters_next_counters_next_1_j3v10_e (m : Nat) (a0_0 : Int) (a0_1 : Int) (a0_2 : Int) (a1_0 : Bool) (a1_1 : Bool) (a1_2n : Nat) (a1_2c : Option Nat) (a1_2 : List D) (a1_3 : Bool) (a1_4n : Nat) (a1_4c : Option Nat) (a1_4 : List D) (a1_5 : Int) (a1_6 : Int) (a1_7 : Int) (u10_0 : Int) (u10_1 : Int) (u10_2 : Int) (u10_3 : Int) (u10_4 : Int) (u10_5 : Bool) (u10_6 : Bool) (u10_7 : Nat) (u10_8 : Option Nat) (u10_9 : List D) (u10_10 : Bool) (u10_11 : Nat) (u10_12 : Option Nat) (u10_13 : List D) (u10_14 : Int) (u10_15 : Int) (u10_16 : Int) (u10_17 : Int) (u10_18 : Int) (u10_19 : Int) : F_counters_next_counters_next_1_j3v10 m a0_0 a0_1 a0_2 a1_0 a1_1 a1_2n a1_2c a1_2 a1_3 a1_4n a1_4c a1_4 a1_5 a1_6 a1_7 u10_0 u10_1 u10_2 u10_3 u10_4 u10_5 u10_6 u10_7 u10_8 u10_9 u10_10 u10_11 u10_12 u10_13 u10_14 u10_15 u10_16 u10_17 u10_18 u10_19 =
 (cond (u10_1 != (-1 : Int))
 (some (D.agg [(D.v (.int .i64 (mm true a0_0 a1_5))), (D.v (.int .i64 (mm true a0_1 a1_6))), (D.v (.int .i64 (mm true u10_0 u10_1)))]))
 (some (D.agg [(D.v (.int .i64 (mm true a0_0 a1_5))), (D.v (.int .i64 (mm true a0_1 a1_6))), (D.v (.int .i64 u10_0))]))) := (cutK_eq m _).trans (by kernel_rfl)
noncomputable def F_counters_next_counters_next_1_j3v11 (m : Nat) (a0_0 : Int) (a0_1 : Int) (a0_2 : Int) (a1_0 : Bool) (a1_1 : Bool) (a1_2n : Nat) (a1_2c : Option Nat) (a1_2 : List D) (a1_3 : Bool) (a1_4n : Nat) (a1_4c : Option Nat) (a1_4 : List D) (a1_5 : Int) (a1_6 : Int) (a1_7 : Int) (u11_0 : Int) (u11_1 : Int) (u11_2 : Int) (u11_3 : Int) (u11_4 : Int) (u11_5 : Bool) (u11_6 : Bool) (u11_7 : Nat) (u11_8 : Option Nat) (u11_9 : List D) (u11_10 : Bool) (u11_11 : Nat) (u11_12 : Option Nat) (u11_13 : List D) (u11_14 : Int) (u11_15 : Int) (u11_16 : Int) (u11_17 : Int) (u11_18 : Int) (u11_19 : Int) : Option D :=
 cutK m (codeK Tryz.prog H_counters_next.sp ⟨3, [], true, []⟩ (inlK Tryz.prog H_counters_next m 3) m fh_counters_next__counters_next_1 (subc [1, 1] (bodyOf Tryz.f56)) ⟨[(AV.d (D.v (.int .i64 u11_0))), (AV.d (D.v (.int .i64 u11_1))), .junk, .junk, .junk, .junk, .junk, .junk, .junk, .junk, .junk, .junk, .junk, .junk, .junk, .junk, .junk, .junk, .junk, .junk, .junk], [(Blk.d 3 [(D.v (.int .i64 u11_2)), (D.v (.int .i64 u11_3)), (D.v (.int .i64 u11_4))]), (Blk.d 8 [(D.v (.bool u11_5)), (D.v (.bool u11_6)), (D.list u11_7 u11_8 u11_9), (D.v (.bool u11_10)), (D.list u11_11 u11_12 u11_13), (D.v (.int .i64 u11_14)), (D.v (.int .i64 u11_15)), (D.v (.int .i64 u11_16))]), (Blk.d 3 [(D.v (.int .i64 u11_17)), (D.v (.int .i64 u11_18)), (D.v (.int .i64 u11_19))])]⟩
  (contK Tryz.prog H_counters_next.sp ⟨3, [], true, []⟩ (inlK Tryz.prog H_counters_next m 3) m fh_counters_next__counters_next_1 (endK Tryz.prog Tryz.f56 (fun v L => opsK Tryz.prog H_counters_next.sp ⟨0, [], false, []⟩ [true, true] (inlK Tryz.prog H_counters_next m 4) (regOps (subc [1, 1, 0] (bodyOf Tryz.f49))) (List.drop 18 (Array.toList (regOps (subc [1, 1, 0] (bodyOf Tryz.f49))))) ⟨setSl [(AV.d (D.agg [(D.v (.int .i64 a0_0)), (D.v (.int .i64 a0_1)), (D.v (.int .i64 a0_2))])), (AV.d (D.agg [(D.v (.bool a1_0)), (D.v (.bool a1_1)), (D.list a1_2n a1_2c a1_2), (D.v (.bool a1_3)), (D.list a1_4n a1_4c a1_4), (D.v (.int .i64 a1_5)), (D.v (.int .i64 a1_6)), (D.v (.int .i64 a1_7))])), (AV.ptr 0 0), (AV.ptr 1 0), (AV.ptr 2 0), (AV.clo 56 [(AV.ptr 1 0)]), (AV.clo 56 [(AV.ptr 1 0)]), (AV.clo 56 [(AV.ptr 1 0)]), (AV.ptr 0 0), (AV.d (D.v (.int .i64 a0_0))), (AV.ptr 1 5), (AV.d (D.v (.int .i64 a1_5))), (AV.d (D.v (.int .i64 (mm true a0_0 a1_5)))), (AV.clo 56 [(AV.ptr 1 0)]), (AV.ptr 0 1), (AV.d (D.v (.int .i64 a0_1))), (AV.ptr 1 6), (AV.d (D.v (.int .i64 a1_6))), (AV.d (D.v (.int .i64 a0_1))), (AV.clo 56 [(AV.ptr 1 0)]), (AV.ptr 0 2), (AV.d (D.v (.int .i64 a0_2))), (AV.ptr 1 7), (AV.d (D.v (.int .i64 a1_7))), .junk, .junk] (some 24) v, L⟩ (fun st => contK Tryz.prog H_counters_next.sp ⟨0, [], false, []⟩ (inlK Tryz.prog H_counters_next m 4) m fh_counters_next__counters_next (endK Tryz.prog Tryz.f49 (fun v L => viewK L 8 v some)) [.code (subc [1, 1, 1] (bodyOf Tryz.f49))] .normal st))) []))
theorem F_counters_next_counters_next_1_j3v11_e (m : Nat) (a0_0 : Int) (a0_1 : Int) (a0_2 : Int) (a1_0 : Bool) (a1_1 : Bool) (a1_2n : Nat) (a1_2c : Option Nat) (a1_2 : List D) (a1_3 : Bool) (a1_4n : Nat) (a1_4c : Option Nat) (a1_4 : List D) (a1_5 : Int) (a1_6 : Int) (a1_7 : Int) (u11_0 : Int) (u11_1 : Int) (u11_2 : Int) (u11_3 : Int) (u11_4 : Int) (u11_5 : Bool) (u11_6 : Bool) (u11_7 : Nat) (u11_8 : Option Nat) (u11_9 : List D) (u11_10 : Bool) (u11_11 : Nat) (u11_12 : Option Nat) (u11_13 : List D) (u11_14 : Int) (u11_15 : Int) (u11_16 : Int) (u11_17 : Int) (u11_18 : Int) (u11_19 : Int) : F_counters_next_counters_next_1_j3v11 m a0_0 a0_1 a0_2 a1_0 a1_1 a1_2n a1_2c a1_2 a1_3 a1_4n a1_4c a1_4 a1_5 a1_6 a1_7 u11_0 u11_1 u11_2 u11_3 u11_4 u11_5 u11_6 u11_7 u11_8 u11_9 u11_10 u11_11 u11_12 u11_13 u11_14 u11_15 u11_16 u11_17 u11_18 u11_19 =
 (cond (u11_1 != (-1 : Int))
 (some (D.agg [(D.v (.int .i64 (mm true a0_0 a1_5))), (D.v (.int .i64 a0_1)), (D.v (.int .i64 (mm true u11_0 u11_1)))]))
 (some (D.agg [(D.v (.int .i64 (mm true a0_0 a1_5))), (D.v (.int .i64 a0_1)), (D.v (.int .i64 u11_0))]))) := (cutK_eq m _).trans (by kernel_rfl)
noncomputable def F_counters_next_counters_next_1_j3v12 (m : Nat) (a0_0 : Int) (a0_1 : Int) (a0_2 : Int) (a1_0 : Bool) (a1_1 : Bool) (a1_2n : Nat) (a1_2c : Option Nat) (a1_2 : List D) (a1_3 : Bool) (a1_4n : Nat) (a1_4c : Option Nat) (a1_4 : List D) (a1_5 : Int) (a1_6 : Int) (a1_7 : Int) (u12_0 : Int) (u12_1 : Int) (u12_2 : Int) (u12_3 : Int) (u12_4 : Int) (u12_5 : Bool) (u12_6 : Bool) (u12_7 : Nat) (u12_8 : Option Nat) (u12_9 : List D) (u12_10 : Bool) (u12_11 : Nat) (u12_12 : Option Nat) (u12_13 : List D) (u12_14 : Int) (u12_15 : Int) (u12_16 : Int) (u12_17 : Int) (u12_18 : Int) (u12_19 : Int) : Option D :=
 cutK m (codeK Tryz.prog H_counters_next.sp ⟨3, [], true, []⟩ (inlK Tryz.prog H_counters_next m 3) m fh_counters_next__counters_next_1 (subc [1, 1] (bodyOf Tryz.f56)) ⟨[(AV.d (D.v (.int .i64 u12_0))), (AV.d (D.v (.int .i64 u12_1))), .junk, .junk, .junk, .junk, .junk, .junk, .junk, .junk, .junk, .junk, .junk, .junk, .junk, .junk, .junk, .junk, .junk, .junk, .junk], [(Blk.d 3 [(D.v (.int .i64 u12_2)), (D.v (.int .i64 u12_3)), (D.v (.int .i64 u12_4))]), (Blk.d 8 [(D.v (.bool u12_5)), (D.v (.bool u12_6)), (D.list u12_7 u12_8 u12_9), (D.v (.bool u12_10)), (D.list u12_11 u12_12 u12_13), (D.v (.int .i64 u12_14)), (D.v (.int .i64 u12_15)), (D.v (.int .i64 u12_16))]), (Blk.d 3 [(D.v (.int .i64 u12_17)), (D.v (.int .i64 u12_18)), (D.v (.int .i64 u12_19))])]⟩
  (contK Tryz.prog H_counters_next.sp ⟨3, [], true, []⟩ (inlK Tryz.prog H_counters_next m 3) m fh_counters_next__counters_next_1 (endK Tryz.prog Tryz.f56 (fun v L => opsK Tryz.prog H_counters_next.sp ⟨0, [], false, []⟩ [true, true] (inlK Tryz.prog H_counters_next m 4) (regOps (subc [1, 1, 0] (bodyOf Tryz.f49))) (List.drop 18 (Array.toList (regOps (subc [1, 1, 0] (bodyOf Tryz.f49))))) ⟨setSl [(AV.d (D.agg [(D.v (.int .i64 a0_0)), (D.v (.int .i64 a0_1)), (D.v (.int .i64 a0_2))])), (AV.d (D.agg [(D.v (.bool a1_0)), (D.v (.bool a1_1)), (D.list a1_2n a1_2c a1_2), (D.v (.bool a1_3)), (D.list a1_4n a1_4c a1_4), (D.v (.int .i64 a1_5)), (D.v (.int .i64 a1_6)), (D.v (.int .i64 a1_7))])), (AV.ptr 0 0), (AV.ptr 1 0), (AV.ptr 2 0), (AV.clo 56 [(AV.ptr 1 0)]), (AV.clo 56 [(AV.ptr 1 0)]), (AV.clo 56 [(AV.ptr 1 0)]), (AV.ptr 0 0), (AV.d (D.v (.int .i64 a0_0))), (AV.ptr 1 5), (AV.d (D.v (.int .i64 a1_5))), (AV.d (D.v (.int .i64 a0_0))), (AV.clo 56 [(AV.ptr 1 0)]), (AV.ptr 0 1), (AV.d (D.v (.int .i64 a0_1))), (AV.ptr 1 6), (AV.d (D.v (.int .i64 a1_6))), (AV.d (D.v (.int .i64 (mm true (IntKind.wrap .i64 (a0_1 - (1 : Int))) a1_6)))), (AV.clo 56 [(AV.ptr 1 0)]), (AV.ptr 0 2), (AV.d (D.v (.int .i64 a0_2))), (AV.ptr 1 7), (AV.d (D.v (.int .i64 a1_7))), .junk, .junk] (some 24) v, L⟩ (fun st => contK Tryz.prog H_counters_next.sp ⟨0, [], false, []⟩ (inlK Tryz.prog H_counters_next m 4) m fh_counters_next__counters_next (endK Tryz.prog Tryz.f49 (fun v L => viewK L 8 v some)) [.code (subc [1, 1, 1] (bodyOf Tryz.f49))] .normal st))) []))
theorem F_counters_next_counters_next_1_j3v12_e (m : Nat) (a0_0 : Int) (a0_1 : Int) (a0_2 : Int) (a1_0 : Bool) (a1_1 : Bool) (a1_2n : Nat) (a1_2c : Option Nat) (a1_2 : List D) (a1_3 : Bool) (a1_4n : Nat) (a1_4c : Option Nat) (a1_4 : List D) (a1_5 : Int) (a1_6 : Int) (a1_7 : Int) (u12_0 : Int) (u12_1 : Int) (u12_2 : Int) (u12_3 : Int) (u12_4 : Int) (u12_5 : Bool) (u12_6 : Bool) (u12_7 : Nat) (u12_8 : Option Nat) (u12_9 : List D) (u12_10 : Bool) (u12_11 : Nat) (u12_12 : Option Nat) (u12_13 : List D) (u12_14 : Int) (u12_15 : Int) (u12_16 : Int) (u12_17 : Int) (u12_18 : Int) (u12_19 : Int) : F_counters_next_counters_next_1_j3v12 m a0_0 a0_1 a0_2 a1_0 a1_1 a1_2n a1_2c a1_2 a1_3 a1_4n a1_4c a1_4 a1_5 a1_6 a1_7 u12_0 u12_1 u12_2 u12_3 u12_4 u12_5 u12_6 u12_7 u12_8 u12_9 u12_10 u12_11 u12_12 u12_13 u12_14 u12_15 u12_16 u12_17 u12_18 u12_19 =
 (cond (u12_1 != (-1 : Int))
 (some (D.agg [(D.v (.int .i64 a0_0)), (D.v (.int .i64 (mm true (IntKind.wrap .i64 (a0_1 - (1 : Int))) a1_6))), (D.v (.int .i64 (mm true u12_0 u12_1)))]))
 (some (D.agg [(D.v (.int .i64 a0_0)), (D.v (.int .i64 (mm true (IntKind.wrap .i64 (a0_1 - (1 : Int))) a1_6))), (D.v (.int .i64 u12_0))]))) := (cutK_eq m _).trans (by kernel_rfl)
noncomputable def F_counters_next_counters_next_1_j3v13 (m : Nat) (a0_0 : Int) (a0_1 : Int) (a0_2 : Int) (a1_0 : Bool) (a1_1 : Bool) (a1_2n : Nat) (a1_2c : Option Nat) (a1_2 : List D) (a1_3 : Bool) (a1_4n : Nat) (a1_4c : Option Nat) (a1_4 : List D) (a1_5 : Int) (a1_6 : Int) (a1_7 : Int) (u13_0 : Int) (u13_1 : Int) (u13_2 : Int) (u13_3 : Int) (u13_4 : Int) (u13_5 : Bool) (u13_6 : Bool) (u13_7 : Nat) (u13_8 : Option Nat) (u13_9 : List D) (u13_10 : Bool) (u13_11 : Nat) (u13_12 : Option Nat) (u13_13 : List D) (u13_14 : Int) (u13_15 : Int) (u13_16 : Int) (u13_17 : Int) (u13_18 : Int) (u13_19 : Int) : Option D :=
 cutK m (codeK Tryz.prog H_counters_next.sp ⟨3, [], true, []⟩ (inlK Tryz.prog H_counters_next m 3) m fh_counters_next__counters_next_1 (subc [1, 1] (bodyOf Tryz.f56)) ⟨[(AV.d (D.v (.int .i64 u13_0))), (AV.d (D.v (.int .i64 u13_1))), .junk, .junk, .junk, .junk, .junk, .junk, .junk, .junk, .junk, .junk, .junk, .junk, .junk, .junk, .junk, .junk, .junk, .junk, .junk], [(Blk.d 3 [(D.v (.int .i64 u13_2)), (D.v (.int .i64 u13_3)), (D.v (.int .i64 u13_4))]), (Blk.d 8 [(D.v (.bool u13_5)), (D.v (.bool u13_6)), (D.list u13_7 u13_8 u13_9), (D.v (.bool u13_10)), (D.list u13_11 u13_12 u13_13), (D.v (.int .i64 u13_14)), (D.v (.int .i64 u13_15)), (D.v (.int .i64 u13_16))]), (Blk.d 3 [(D.v (.int .i64 u13_17)), (D.v (.int .i64 u13_18)), (D.v (.int .i64 u13_19))])]⟩
  (contK Tryz.prog H_counters_next.sp ⟨3, [], true, []⟩ (inlK Tryz.prog H_counters_next m 3) m fh_counters_next__counters_next_1 (endK Tryz.prog Tryz.f56 (fun v L => opsK Tryz.prog H_counters_next.sp ⟨0, [], false, []⟩ [true, true] (inlK Tryz.prog H_counters_next m 4) (regOps (subc [1, 1, 0] (bodyOf Tryz.f49))) (List.drop 18 (Array.toList (regOps (subc [1, 1, 0] (bodyOf Tryz.f49))))) ⟨setSl [(AV.d (D.agg [(D.v (.int .i64 a0_0)), (D.v (.int .i64 a0_1)), (D.v (.int .i64 a0_2))])), (AV.d (D.agg [(D.v (.bool a1_0)), (D.v (.bool a1_1)), (D.list a1_2n a1_2c a1_2), (D.v (.bool a1_3)), (D.list a1_4n a1_4c a1_4), (D.v (.int .i64 a1_5)), (D.v (.int .i64 a1_6)), (D.v (.int .i64 a1_7))])), (AV.ptr 0 0), (AV.ptr 1 0), (AV.ptr 2 0), (AV.clo 56 [(AV.ptr 1 0)]), (AV.clo 56 [(AV.ptr 1 0)]), (AV.clo 56 [(AV.ptr 1 0)]), (AV.ptr 0 0), (AV.d (D.v (.int .i64 a0_0))), (AV.ptr 1 5), (AV.d (D.v (.int .i64 a1_5))), (AV.d (D.v (.int .i64 a0_0))), (AV.clo 56 [(AV.ptr 1 0)]), (AV.ptr 0 1), (AV.d (D.v (.int .i64 a0_1))), (AV.ptr 1 6), (AV.d (D.v (.int .i64 a1_6))), (AV.d (D.v (.int .i64 (IntKind.wrap .i64 (a0_1 - (1 : Int)))))), (AV.clo 56 [(AV.ptr 1 0)]), (AV.ptr 0 2), (AV.d (D.v (.int .i64 a0_2))), (AV.ptr 1 7), (AV.d (D.v (.int .i64 a1_7))), .junk, .junk] (some 24) v, L⟩ (fun st => contK Tryz.prog H_counters_next.sp ⟨0, [], false, []⟩ (inlK Tryz.prog H_counters_next m 4) m fh_counters_next__counters_next (endK Tryz.prog Tryz.f49 (fun v L => viewK L 8 v some)) [.code (subc [1, 1, 1] (bodyOf Tryz.f49))] .normal st))) []))
theorem F_counters_next_counters_next_1_j3v13_e (m : Nat) (a0_0 : Int) (a0_1 : Int) (a0_2 : Int) (a1_0 : Bool) (a1_1 : Bool) (a1_2n : Nat) (a1_2c : Option Nat) (a1_2 : List D) (a1_3 : Bool) (a1_4n : Nat) (a1_4c : Option Nat) (a1_4 : List D) (a1_5 : Int) (a1_6 : Int) (a1_7 : Int) (u13_0 : Int) (u13_1 : Int) (u13_2 : Int) (u13_3 : Int) (u13_4 : Int) (u13_5 : Bool) (u13_6 : Bool) (u13_7 : Nat) (u13_8 : Option Nat) (u13_9 : List D) (u13_10 : Bool) (u13_11 : Nat) (u13_12 : Option Nat) (u13_13 : List D) (u13_14 : Int) (u13_15 : Int) (u13_16 : Int) (u13_17 : Int) (u13_18 : Int) (u13_19 : Int) : F_counters_next_counters_next_1_j3v13 m a0_0 a0_1 a0_2 a1_0 a1_1 a1_2n a1_2c a1_2 a1_3 a1_4n a1_4c a1_4 a1_5 a1_6 a1_7 u13_0 u13_1 u13_2 u13_3 u13_4 u13_5 u13_6 u13_7 u13_8 u13_9 u13_10 u13_11 u13_12 u13_13 u13_14 u13_15 u13_16 u13_17 u13_18 u13_19 =
 (cond (u13_1 != (-1 : Int))
 (some (D.agg [(D.v (.int .i64 a0_0)), (D.v (.int .i64 (IntKind.wrap .i64 (a0_1 - (1 : Int))))), (D.v (.int .i64 (mm true u13_0 u13_1)))]))
 (some (D.agg [(D.v (.int .i64 a0_0)), (D.v (.int .i64 (IntKind.wrap .i64 (a0_1 - (1 : Int))))), (D.v (.int .i64 u13_0))]))) := (cutK_eq m _).trans (by kernel_rfl)
noncomputable def F_counters_next_counters_next_1_j3v14 (m : Nat) (a0_0 : Int) (a0_1 : Int) (a0_2 : Int) (a1_0 : Bool) (a1_1 : Bool) (a1_2n : Nat) (a1_2c : Option Nat) (a1_2 : List D) (a1_3 : Bool) (a1_4n : Nat) (a1_4c : Option Nat) (a1_4 : List D) (a1_5 : Int) (a1_6 : Int) (a1_7 : Int) (u14_0 : Int) (u14_1 : Int) (u14_2 : Int) (u14_3 : Int) (u14_4 : Int) (u14_5 : Bool) (u14_6 : Bool) (u14_7 : Nat) (u14_8 : Option Nat) (u14_9 : List D) (u14_10 : Bool) (u14_11 : Nat) (u14_12 : Option Nat) (u14_13 : List D) (u14_14 : Int) (u14_15 : Int) (u14_16 : Int) (u14_17 : Int) (u14_18 : Int) (u14_19 : Int) : Option D :=
 cutK m (codeK Tryz.prog H_counters_next.sp ⟨3, [], true, []⟩ (inlK Tryz.prog H_counters_next m 3) m fh_counters_next__counters_next_1 (subc [1, 1] (bodyOf Tryz.f56)) ⟨[(AV.d (D.v (.int .i64 u14_0))), (AV.d (D.v (.int .i64 u14_1))), .junk, .junk, .junk, .junk, .junk, .junk, .junk, .junk, .junk, .junk, .junk, .junk, .junk, .junk, .junk, .junk, .junk, .junk, .junk], [(Blk.d 3 [(D.v (.int .i64 u14_2)), (D.v (.int .i64 u14_3)), (D.v (.int .i64 u14_4))]), (Blk.d 8 [(D.v (.bool u14_5)), (D.v (.bool u14_6)), (D.list u14_7 u14_8 u14_9), (D.v (.bool u14_10)), (D.list u14_11 u14_12 u14_13), (D.v (.int .i64 u14_14)), (D.v (.int .i64 u14_15)), (D.v (.int .i64 u14_16))]), (Blk.d 3 [(D.v (.int .i64 u14_17)), (D.v (.int .i64 u14_18)), (D.v (.int .i64 u14_19))])]⟩
  (contK Tryz.prog H_counters_next.sp ⟨3, [], true, []⟩ (inlK Tryz.prog H_counters_next m 3) m fh_counters_next__counters_next_1 (endK Tryz.prog Tryz.f56 (fun v L => opsK Tryz.prog H_counters_next.sp ⟨0, [], false, []⟩ [true, true] (inlK Tryz.prog H_counters_next m 4) (regOps (subc [1, 1, 0] (bodyOf Tryz.f49))) (List.drop 18 (Array.toList (regOps (subc [1, 1, 0] (bodyOf Tryz.f49))))) ⟨setSl [(AV.d (D.agg [(D.v (.int .i64 a0_0)), (D.v (.int .i64 a0_1)), (D.v (.int .i64 a0_2))])), (AV.d (D.agg [(D.v (.bool a1_0)), (D.v (.bool a1_1)), (D.list a1_2n a1_2c a1_2), (D.v (.bool a1_3)), (D.list a1_4n a1_4c a1_4), (D.v (.int .i64 a1_5)), (D.v (.int .i64 a1_6)), (D.v (.int .i64 a1_7))])), (AV.ptr 0 0), (AV.ptr 1 0), (AV.ptr 2 0), (AV.clo 56 [(AV.ptr 1 0)]), (AV.clo 56 [(AV.ptr 1 0)]), (AV.clo 56 [(AV.ptr 1 0)]), (AV.ptr 0 0), (AV.d (D.v (.int .i64 a0_0))), (AV.ptr 1 5), (AV.d (D.v (.int .i64 a1_5))), (AV.d (D.v (.int .i64 a0_0))), (AV.clo 56 [(AV.ptr 1 0)]), (AV.ptr 0 1), (AV.d (D.v (.int .i64 a0_1))), (AV.ptr 1 6), (AV.d (D.v (.int .i64 a1_6))), (AV.d (D.v (.int .i64 (mm true a0_1 a1_6)))), (AV.clo 56 [(AV.ptr 1 0)]), (AV.ptr 0 2), (AV.d (D.v (.int .i64 a0_2))), (AV.ptr 1 7), (AV.d (D.v (.int .i64 a1_7))), .junk, .junk] (some 24) v, L⟩ (fun st => contK Tryz.prog H_counters_next.sp ⟨0, [], false, []⟩ (inlK Tryz.prog H_counters_next m 4) m fh_counters_next__counters_next (endK Tryz.prog Tryz.f49 (fun v L => viewK L 8 v some)) [.code (subc [1, 1, 1] (bodyOf Tryz.f49))] .normal st))) []))
theorem F_counters_next_counters_next_1_j3v14_e (m : Nat) (a0_0 : Int) (a0_1 : Int) (a0_2 : Int) (a1_0 : Bool) (a1_1 : Bool) (a1_2n : Nat) (a1_2c : Option Nat) (a1_2 : List D) (a1_3 : Bool) (a1_4n : Nat) (a1_4c : Option Nat) (a1_4 : List D) (a1_5 : Int) (a1_6 : Int) (a1_7 : Int) (u14_0 : Int) (u14_1 : Int) (u14_2 : Int) (u14_3 : Int) (u14_4 : Int) (u14_5 : Bool) (u14_6 : Bool) (u14_7 : Nat) (u14_8 : Option Nat) (u14_9 : List D) (u14_10 : Bool) (u14_11 : Nat) (u14_12 : Option Nat) (u14_13 : List D) (u14_14 : Int) (u14_15 : Int) (u14_16 : Int) (u14_17 : Int) (u14_18 : Int) (u14_19 : Int) : F_counters_next_counters_next_1_j3v14 m a0_0 a0_1 a0_2 a1_0 a1_1 a1_2n a1_2c a1_2 a1_3 a1_4n a1_4c a1_4 a1_5 a1_6 a1_7 u14_0 u14_1 u14_2 u14_3 u14_4 u14_5 u14_6 u14_7 u14_8 u14_9 u14_10 u14_11 u14_12 u14_13 u14_14 u14_15 u14_16 u14_17 u14_18 u14_19 =
 (cond (u14_1 != (-1 : Int))
 (some (D.agg [(D.v (.int .i64 a0_0)), (D.v (.int .i64 (mm true a0_1 a1_6))), (D.v (.int .i64 (mm true u14_0 u14_1)))]))
 (some (D.agg [(D.v (.int .i64 a0_0)), (D.v (.int .i64 (mm true a0_1 a1_6))), (D.v (.int .i64 u14_0))]))) := (cutK_eq m _).trans (by kernel_rfl)
noncomputable def F_counters_next_counters_next_1_j3v15 (m : Nat) (a0_0 : Int) (a0_1 : Int) (a0_2 : Int) (a1_0 : Bool) (a1_1 : Bool) (a1_2n : Nat) (a1_2c : Option Nat) (a1_2 : List D) (a1_3 : Bool) (a1_4n : Nat) (a1_4c : Option Nat) (a1_4 : List D) (a1_5 : Int) (a1_6 : Int) (a1_7 : Int) (u15_0 : Int) (u15_1 : Int) (u15_2 : Int) (u15_3 : Int) (u15_4 : Int) (u15_5 : Bool) (u15_6 : Bool) (u15_7 : Nat) (u15_8 : Option Nat) (u15_9 : List D) (u15_10 : Bool) (u15_11 : Nat) (u15_12 : Option Nat) (u15_13 : List D) (u15_14 : Int) (u15_15 : Int) (u15_16 : Int) (u15_17 : Int) (u15_18 : Int) (u15_19 : Int) : Option D :=
 cutK m (codeK Tryz.prog H_counters_next.sp ⟨3, [], true, []⟩ (inlK Tryz.prog H_counters_next m 3) m fh_counters_next__counters_next_1 (subc [1, 1] (bodyOf Tryz.f56)) ⟨[(AV.d (D.v (.int .i64 u15_0))), (AV.d (D.v (.int .i64 u15_1))), .junk, .junk, .junk, .junk, .junk, .junk, .junk, .junk, .junk, .junk, .junk, .junk, .junk, .junk, .junk, .junk, .junk, .junk, .junk], [(Blk.d 3 [(D.v (.int .i64 u15_2)), (D.v (.int .i64 u15_3)), (D.v (.int .i64 u15_4))]), (Blk.d 8 [(D.v (.bool u15_5)), (D.v (.bool u15_6)), (D.list u15_7 u15_8 u15_9), (D.v (.bool u15_10)), (D.list u15_11 u15_12 u15_13), (D.v (.int .i64 u15_14)), (D.v (.int .i64 u15_15)), (D.v (.int .i64 u15_16))]), (Blk.d 3 [(D.v (.int .i64 u15_17)), (D.v (.int .i64 u15_18)), (D.v (.int .i64 u15_19))])]⟩
  (contK Tryz.prog H_counters_next.sp ⟨3, [], true, []⟩ (inlK Tryz.prog H_counters_next m 3) m fh_counters_next__counters_next_1 (endK Tryz.prog Tryz.f56 (fun v L => opsK Tryz.prog H_counters_next.sp ⟨0, [], false, []⟩ [true, true] (inlK Tryz.prog H_counters_next m 4) (regOps (subc [1, 1, 0] (bodyOf Tryz.f49))) (List.drop 18 (Array.toList (regOps (subc [1, 1, 0] (bodyOf Tryz.f49))))) ⟨setSl [(AV.d (D.agg [(D.v (.int .i64 a0_0)), (D.v (.int .i64 a0_1)), (D.v (.int .i64 a0_2))])), (AV.d (D.agg [(D.v (.bool a1_0)), (D.v (.bool a1_1)), (D.list a1_2n a1_2c a1_2), (D.v (.bool a1_3)), (D.list a1_4n a1_4c a1_4), (D.v (.int .i64 a1_5)), (D.v (.int .i64 a1_6)), (D.v (.int .i64 a1_7))])), (AV.ptr 0 0), (AV.ptr 1 0), (AV.ptr 2 0), (AV.clo 56 [(AV.ptr 1 0)]), (AV.clo 56 [(AV.ptr 1 0)]), (AV.clo 56 [(AV.ptr 1 0)]), (AV.ptr 0 0), (AV.d (D.v (.int .i64 a0_0))), (AV.ptr 1 5), (AV.d (D.v (.int .i64 a1_5))), (AV.d (D.v (.int .i64 a0_0))), (AV.clo 56 [(AV.ptr 1 0)]), (AV.ptr 0 1), (AV.d (D.v (.int .i64 a0_1))), (AV.ptr 1 6), (AV.d (D.v (.int .i64 a1_6))), (AV.d (D.v (.int .i64 a0_1))), (AV.clo 56 [(AV.ptr 1 0)]), (AV.ptr 0 2), (AV.d (D.v (.int .i64 a0_2))), (AV.ptr 1 7), (AV.d (D.v (.int .i64 a1_7))), .junk, .junk] (some 24) v, L⟩ (fun st => contK Tryz.prog H_counters_next.sp ⟨0, [], false, []⟩ (inlK Tryz.prog H_counters_next m 4) m fh_counters_next__counters_next (endK Tryz.prog Tryz.f49 (fun v L => viewK L 8 v some)) [.code (subc [1, 1, 1] (bodyOf Tryz.f49))] .normal st))) []))
theorem F_counters_next_counters_next_1_j3v15_e (m : Nat) (a0_0 : Int) (a0_1 : Int) (a0_2 : Int) (a1_0 : Bool) (a1_1 : Bool) (a1_2n : Nat) (a1_2c : Option Nat) (a1_2 : List D) (a1_3 : Bool) (a1_4n : Nat) (a1_4c : Option Nat) (a1_4 : List D) (a1_5 : Int) (a1_6 : Int) (a1_7 : Int) (u15_0 : Int) (u15_1 : Int) (u15_2 : Int) (u15_3 : Int) (u15_4 : Int) (u15_5 : Bool) (u15_6 : Bool) (u15_7 : Nat) (u15_8 : Option Nat) (u15_9 : List D) (u15_10 : Bool) (u15_11 : Nat) (u15_12 : Option Nat) (u15_13 : List D) (u15_14 : Int) (u15_15 : Int) (u15_16 : Int) (u15_17 : Int) (u15_18 : Int) (u15_19 : Int) : F_counters_next_counters_next_1_j3v15 m a0_0 a0_1 a0_2 a1_0 a1_1 a1_2n a1_2c a1_2 a1_3 a1_4n a1_4c a1_4 a1_5 a1_6 a1_7 u15_0 u15_1 u15_2 u15_3 u15_4 u15_5 u15_6 u15_7 u15_8 u15_9 u15_10 u15_11 u15_12 u15_13 u15_14 u15_15 u15_16 u15_17 u15_18 u15_19 =
 (cond (u15_1 != (-1 : Int))
 (some (D.agg [(D.v (.int .i64 a0_0)), (D.v (.int .i64 a0_1)), (D.v (.int .i64 (mm true u15_0 u15_1)))]))
 (some (D.agg [(D.v (.int .i64 a0_0)), (D.v (.int .i64 a0_1)), (D.v (.int .i64 u15_0))]))) := (cutK_eq m _).trans (by kernel_rfl)
noncomputable def F_counters_next (m : Nat) (a0_0 : Int) (a0_1 : Int) (a0_2 : Int) (a1_0 : Bool) (a1_1 : Bool) (a1_2n : Nat) (a1_2c : Option Nat) (a1_2 : List D) (a1_3 : Bool) (a1_4n : Nat) (a1_4c : Option Nat) (a1_4 : List D) (a1_5 : Int) (a1_6 : Int) (a1_7 : Int) : Option D :=
 cond (!a1_0)
 (cond (decide (a0_0 > (0 : Int)))
 (cond (a1_5 != (-1 : Int))
 (cond (!a1_0)
 (cond (decide (a0_1 > (0 : Int)))
 (cond (a1_6 != (-1 : Int))
 (cond (!a1_0)
 (cond (decide (a0_2 > (0 : Int)))
 (F_counters_next_counters_next_1_j3 m a0_0 a0_1 a0_2 a1_0 a1_1 a1_2n a1_2c a1_2 a1_3 a1_4n a1_4c a1_4 a1_5 a1_6 a1_7 (IntKind.wrap .i64 (a0_2 - (1 : Int))) a1_7 a0_0 a0_1 a0_2 a1_0 a1_1 a1_2n a1_2c a1_2 a1_3 a1_4n a1_4c a1_4 a1_5 a1_6 a1_7 (0 : Int) (0 : Int) (0 : Int))
 (F_counters_next_counters_next_1_j3 m a0_0 a0_1 a0_2 a1_0 a1_1 a1_2n a1_2c a1_2 a1_3 a1_4n a1_4c a1_4 a1_5 a1_6 a1_7 a0_2 a1_7 a0_0 a0_1 a0_2 a1_0 a1_1 a1_2n a1_2c a1_2 a1_3 a1_4n a1_4c a1_4 a1_5 a1_6 a1_7 (0 : Int) (0 : Int) (0 : Int)))
 (F_counters_next_counters_next_1_j3 m a0_0 a0_1 a0_2 a1_0 a1_1 a1_2n a1_2c a1_2 a1_3 a1_4n a1_4c a1_4 a1_5 a1_6 a1_7 a0_2 a1_7 a0_0 a0_1 a0_2 a1_0 a1_1 a1_2n a1_2c a1_2 a1_3 a1_4n a1_4c a1_4 a1_5 a1_6 a1_7 (0 : Int) (0 : Int) (0 : Int)))
 (cond (!a1_0)
 (cond (decide (a0_2 > (0 : Int)))
 (F_counters_next_counters_next_1_j3v1 m a0_0 a0_1 a0_2 a1_0 a1_1 a1_2n a1_2c a1_2 a1_3 a1_4n a1_4c a1_4 a1_5 a1_6 a1_7 (IntKind.wrap .i64 (a0_2 - (1 : Int))) a1_7 a0_0 a0_1 a0_2 a1_0 a1_1 a1_2n a1_2c a1_2 a1_3 a1_4n a1_4c a1_4 a1_5 a1_6 a1_7 (0 : Int) (0 : Int) (0 : Int))
 (F_counters_next_counters_next_1_j3v1 m a0_0 a0_1 a0_2 a1_0 a1_1 a1_2n a1_2c a1_2 a1_3 a1_4n a1_4c a1_4 a1_5 a1_6 a1_7 a0_2 a1_7 a0_0 a0_1 a0_2 a1_0 a1_1 a1_2n a1_2c a1_2 a1_3 a1_4n a1_4c a1_4 a1_5 a1_6 a1_7 (0 : Int) (0 : Int) (0 : Int)))
 (F_counters_next_counters_next_1_j3v1 m a0_0 a0_1 a0_2 a1_0 a1_1 a1_2n a1_2c a1_2 a1_3 a1_4n a1_4c a1_4 a1_5 a1_6 a1_7 a0_2 a1_7 a0_0 a0_1 a0_2 a1_0 a1_1 a1_2n a1_2c a1_2 a1_3 a1_4n a1_4c a1_4 a1_5 a1_6 a1_7 (0 : Int) (0 : Int) (0 : Int))))
 (cond (a1_6 != (-1 : Int))
 (cond (!a1_0)
 (cond (decide (a0_2 > (0 : Int)))
 (F_counters_next_counters_next_1_j3v2 m a0_0 a0_1 a0_2 a1_0 a1_1 a1_2n a1_2c a1_2 a1_3 a1_4n a1_4c a1_4 a1_5 a1_6 a1_7 (IntKind.wrap .i64 (a0_2 - (1 : Int))) a1_7 a0_0 a0_1 a0_2 a1_0 a1_1 a1_2n a1_2c a1_2 a1_3 a1_4n a1_4c a1_4 a1_5 a1_6 a1_7 (0 : Int) (0 : Int) (0 : Int))
 (F_counters_next_counters_next_1_j3v2 m a0_0 a0_1 a0_2 a1_0 a1_1 a1_2n a1_2c a1_2 a1_3 a1_4n a1_4c a1_4 a1_5 a1_6 a1_7 a0_2 a1_7 a0_0 a0_1 a0_2 a1_0 a1_1 a1_2n a1_2c a1_2 a1_3 a1_4n a1_4c a1_4 a1_5 a1_6 a1_7 (0 : Int) (0 : Int) (0 : Int)))
 (F_counters_next_counters_next_1_j3v2 m a0_0 a0_1 a0_2 a1_0 a1_1 a1_2n a1_2c a1_2 a1_3 a1_4n a1_4c a1_4 a1_5 a1_6 a1_7 a0_2 a1_7 a0_0 a0_1 a0_2 a1_0 a1_1 a1_2n a1_2c a1_2 a1_3 a1_4n a1_4c a1_4 a1_5 a1_6 a1_7 (0 : Int) (0 : Int) (0 : Int)))
 (cond (!a1_0)
 (cond (decide (a0_2 > (0 : Int)))
 (F_counters_next_counters_next_1_j3v3 m a0_0 a0_1 a0_2 a1_0 a1_1 a1_2n a1_2c a1_2 a1_3 a1_4n a1_4c a1_4 a1_5 a1_6 a1_7 (IntKind.wrap .i64 (a0_2 - (1 : Int))) a1_7 a0_0 a0_1 a0_2 a1_0 a1_1 a1_2n a1_2c a1_2 a1_3 a1_4n a1_4c a1_4 a1_5 a1_6 a1_7 (0 : Int) (0 : Int) (0 : Int))
 (F_counters_next_counters_next_1_j3v3 m a0_0 a0_1 a0_2 a1_0 a1_1 a1_2n a1_2c a1_2 a1_3 a1_4n a1_4c a1_4 a1_5 a1_6 a1_7 a0_2 a1_7 a0_0 a0_1 a0_2 a1_0 a1_1 a1_2n a1_2c a1_2 a1_3 a1_4n a1_4c a1_4 a1_5 a1_6 a1_7 (0 : Int) (0 : Int) (0 : Int)))
 (F_counters_next_counters_next_1_j3v3 m a0_0 a0_1 a0_2 a1_0 a1_1 a1_2n a1_2c a1_2 a1_3 a1_4n a1_4c a1_4 a1_5 a1_6 a1_7 a0_2 a1_7 a0_0 a0_1 a0_2 a1_0 a1_1 a1_2n a1_2c a1_2 a1_3 a1_4n a1_4c a1_4 a1_5 a1_6 a1_7 (0 : Int) (0 : Int) (0 : Int)))))
 (cond (a1_6 != (-1 : Int))
 (cond (!a1_0)
 (cond (decide (a0_2 > (0 : Int)))
 (F_counters_next_counters_next_1_j3v2 m a0_0 a0_1 a0_2 a1_0 a1_1 a1_2n a1_2c a1_2 a1_3 a1_4n a1_4c a1_4 a1_5 a1_6 a1_7 (IntKind.wrap .i64 (a0_2 - (1 : Int))) a1_7 a0_0 a0_1 a0_2 a1_0 a1_1 a1_2n a1_2c a1_2 a1_3 a1_4n a1_4c a1_4 a1_5 a1_6 a1_7 (0 : Int) (0 : Int) (0 : Int))
 (F_counters_next_counters_next_1_j3v2 m a0_0 a0_1 a0_2 a1_0 a1_1 a1_2n a1_2c a1_2 a1_3 a1_4n a1_4c a1_4 a1_5 a1_6 a1_7 a0_2 a1_7 a0_0 a0_1 a0_2 a1_0 a1_1 a1_2n a1_2c a1_2 a1_3 a1_4n a1_4c a1_4 a1_5 a1_6 a1_7 (0 : Int) (0 : Int) (0 : Int)))
 (F_counters_next_counters_next_1_j3v2 m a0_0 a0_1 a0_2 a1_0 a1_1 a1_2n a1_2c a1_2 a1_3 a1_4n a1_4c a1_4 a1_5 a1_6 a1_7 a0_2 a1_7 a0_0 a0_1 a0_2 a1_0 a1_1 a1_2n a1_2c a1_2 a1_3 a1_4n a1_4c a1_4 a1_5 a1_6 a1_7 (0 : Int) (0 : Int) (0 : Int)))
 (cond (!a1_0)
 (cond (decide (a0_2 > (0 : Int)))
 (F_counters_next_counters_next_1_j3v3 m a0_0 a0_1 a0_2 a1_0 a1_1 a1_2n a1_2c a1_2 a1_3 a1_4n a1_4c a1_4 a1_5 a1_6 a1_7 (IntKind.wrap .i64 (a0_2 - (1 : Int))) a1_7 a0_0 a0_1 a0_2 a1_0 a1_1 a1_2n a1_2c a1_2 a1_3 a1_4n a1_4c a1_4 a1_5 a1_6 a1_7 (0 : Int) (0 : Int) (0 : Int))
 (F_counters_next_counters_next_1_j3v3 m a0_0 a0_1 a0_2 a1_0 a1_1 a1_2n a1_2c a1_2 a1_3 a1_4n a1_4c a1_4 a1_5 a1_6 a1_7 a0_2 a1_7 a0_0 a0_1 a0_2 a1_0 a1_1 a1_2n a1_2c a1_2 a1_3 a1_4n a1_4c a1_4 a1_5 a1_6 a1_7 (0 : Int) (0 : Int) (0 : Int)))
 (F_counters_next_counters_next_1_j3v3 m a0_0 a0_1 a0_2 a1_0 a1_1 a1_2n a1_2c a1_2 a1_3 a1_4n a1_4c a1_4 a1_5 a1_6 a1_7 a0_2 a1_7 a0_0 a0_1 a0_2 a1_0 a1_1 a1_2n a1_2c a1_2 a1_3 a1_4n a1_4c a1_4 a1_5 a1_6 a1_7 (0 : Int) (0 : Int) (0 : Int)))))
 (cond (!a1_0)
 (cond (decide (a0_1 > (0 : Int)))
 (cond (a1_6 != (-1 : Int))
 (cond (!a1_0)
 (cond (decide (a0_2 > (0 : Int)))
 (F_counters_next_counters_next_1_j3v4 m a0_0 a0_1 a0_2 a1_0 a1_1 a1_2n a1_2c a1_2 a1_3 a1_4n a1_4c a1_4 a1_5 a1_6 a1_7 (IntKind.wrap .i64 (a0_2 - (1 : Int))) a1_7 a0_0 a0_1 a0_2 a1_0 a1_1 a1_2n a1_2c a1_2 a1_3 a1_4n a1_4c a1_4 a1_5 a1_6 a1_7 (0 : Int) (0 : Int) (0 : Int))
 (F_counters_next_counters_next_1_j3v4 m a0_0 a0_1 a0_2 a1_0 a1_1 a1_2n a1_2c a1_2 a1_3 a1_4n a1_4c a1_4 a1_5 a1_6 a1_7 a0_2 a1_7 a0_0 a0_1 a0_2 a1_0 a1_1 a1_2n a1_2c a1_2 a1_3 a1_4n a1_4c a1_4 a1_5 a1_6 a1_7 (0 : Int) (0 : Int) (0 : Int)))
 (F_counters_next_counters_next_1_j3v4 m a0_0 a0_1 a0_2 a1_0 a1_1 a1_2n a1_2c a1_2 a1_3 a1_4n a1_4c a1_4 a1_5 a1_6 a1_7 a0_2 a1_7 a0_0 a0_1 a0_2 a1_0 a1_1 a1_2n a1_2c a1_2 a1_3 a1_4n a1_4c a1_4 a1_5 a1_6 a1_7 (0 : Int) (0 : Int) (0 : Int)))
 (cond (!a1_0)
 (cond (decide (a0_2 > (0 : Int)))
 (F_counters_next_counters_next_1_j3v5 m a0_0 a0_1 a0_2 a1_0 a1_1 a1_2n a1_2c a1_2 a1_3 a1_4n a1_4c a1_4 a1_5 a1_6 a1_7 (IntKind.wrap .i64 (a0_2 - (1 : Int))) a1_7 a0_0 a0_1 a0_2 a1_0 a1_1 a1_2n a1_2c a1_2 a1_3 a1_4n a1_4c a1_4 a1_5 a1_6 a1_7 (0 : Int) (0 : Int) (0 : Int))
 (F_counters_next_counters_next_1_j3v5 m a0_0 a0_1 a0_2 a1_0 a1_1 a1_2n a1_2c a1_2 a1_3 a1_4n a1_4c a1_4 a1_5 a1_6 a1_7 a0_2 a1_7 a0_0 a0_1 a0_2 a1_0 a1_1 a1_2n a1_2c a1_2 a1_3 a1_4n a1_4c a1_4 a1_5 a1_6 a1_7 (0 : Int) (0 : Int) (0 : Int)))
 (F_counters_next_counters_next_1_j3v5 m a0_0 a0_1 a0_2 a1_0 a1_1 a1_2n a1_2c a1_2 a1_3 a1_4n a1_4c a1_4 a1_5 a1_6 a1_7 a0_2 a1_7 a0_0 a0_1 a0_2 a1_0 a1_1 a1_2n a1_2c a1_2 a1_3 a1_4n a1_4c a1_4 a1_5 a1_6 a1_7 (0 : Int) (0 : Int) (0 : Int))))
 (cond (a1_6 != (-1 : Int))
 (cond (!a1_0)
 (cond (decide (a0_2 > (0 : Int)))
 (F_counters_next_counters_next_1_j3v6 m a0_0 a0_1 a0_2 a1_0 a1_1 a1_2n a1_2c a1_2 a1_3 a1_4n a1_4c a1_4 a1_5 a1_6 a1_7 (IntKind.wrap .i64 (a0_2 - (1 : Int))) a1_7 a0_0 a0_1 a0_2 a1_0 a1_1 a1_2n a1_2c a1_2 a1_3 a1_4n a1_4c a1_4 a1_5 a1_6 a1_7 (0 : Int) (0 : Int) (0 : Int))
 (F_counters_next_counters_next_1_j3v6 m a0_0 a0_1 a0_2 a1_0 a1_1 a1_2n a1_2c a1_2 a1_3 a1_4n a1_4c a1_4 a1_5 a1_6 a1_7 a0_2 a1_7 a0_0 a0_1 a0_2 a1_0 a1_1 a1_2n a1_2c a1_2 a1_3 a1_4n a1_4c a1_4 a1_5 a1_6 a1_7 (0 : Int) (0 : Int) (0 : Int)))
 (F_counters_next_counters_next_1_j3v6 m a0_0 a0_1 a0_2 a1_0 a1_1 a1_2n a1_2c a1_2 a1_3 a1_4n a1_4c a1_4 a1_5 a1_6 a1_7 a0_2 a1_7 a0_0 a0_1 a0_2 a1_0 a1_1 a1_2n a1_2c a1_2 a1_3 a1_4n a1_4c a1_4 a1_5 a1_6 a1_7 (0 : Int) (0 : Int) (0 : Int)))
 (cond (!a1_0)
 (cond (decide (a0_2 > (0 : Int)))
 (F_counters_next_counters_next_1_j3v7 m a0_0 a0_1 a0_2 a1_0 a1_1 a1_2n a1_2c a1_2 a1_3 a1_4n a1_4c a1_4 a1_5 a1_6 a1_7 (IntKind.wrap .i64 (a0_2 - (1 : Int))) a1_7 a0_0 a0_1 a0_2 a1_0 a1_1 a1_2n a1_2c a1_2 a1_3 a1_4n a1_4c a1_4 a1_5 a1_6 a1_7 (0 : Int) (0 : Int) (0 : Int))
 (F_counters_next_counters_next_1_j3v7 m a0_0 a0_1 a0_2 a1_0 a1_1 a1_2n a1_2c a1_2 a1_3 a1_4n a1_4c a1_4 a1_5 a1_6 a1_7 a0_2 a1_7 a0_0 a0_1 a0_2 a1_0 a1_1 a1_2n a1_2c a1_2 a1_3 a1_4n a1_4c a1_4 a1_5 a1_6 a1_7 (0 : Int) (0 : Int) (0 : Int)))
 (F_counters_next_counters_next_1_j3v7 m a0_0 a0_1 a0_2 a1_0 a1_1 a1_2n a1_2c a1_2 a1_3 a1_4n a1_4c a1_4 a1_5 a1_6 a1_7 a0_2 a1_7 a0_0 a0_1 a0_2 a1_0 a1_1 a1_2n a1_2c a1_2 a1_3 a1_4n a1_4c a1_4 a1_5 a1_6 a1_7 (0 : Int) (0 : Int) (0 : Int)))))
 (cond (a1_6 != (-1 : Int))
 (cond (!a1_0)
 (cond (decide (a0_2 > (0 : Int)))
 (F_counters_next_counters_next_1_j3v6 m a0_0 a0_1 a0_2 a1_0 a1_1 a1_2n a1_2c a1_2 a1_3 a1_4n a1_4c a1_4 a1_5 a1_6 a1_7 (IntKind.wrap .i64 (a0_2 - (1 : Int))) a1_7 a0_0 a0_1 a0_2 a1_0 a1_1 a1_2n a1_2c a1_2 a1_3 a1_4n a1_4c a1_4 a1_5 a1_6 a1_7 (0 : Int) (0 : Int) (0 : Int))
 (F_counters_next_counters_next_1_j3v6 m a0_0 a0_1 a0_2 a1_0 a1_1 a1_2n a1_2c a1_2 a1_3 a1_4n a1_4c a1_4 a1_5 a1_6 a1_7 a0_2 a1_7 a0_0 a0_1 a0_2 a1_0 a1_1 a1_2n a1_2c a1_2 a1_3 a1_4n a1_4c a1_4 a1_5 a1_6 a1_7 (0 : Int) (0 : Int) (0 : Int)))
 (F_counters_next_counters_next_1_j3v6 m a0_0 a0_1 a0_2 a1_0 a1_1 a1_2n a1_2c a1_2 a1_3 a1_4n a1_4c a1_4 a1_5 a1_6 a1_7 a0_2 a1_7 a0_0 a0_1 a0_2 a1_0 a1_1 a1_2n a1_2c a1_2 a1_3 a1_4n a1_4c a1_4 a1_5 a1_6 a1_7 (0 : Int) (0 : Int) (0 : Int)))
 (cond (!a1_0)
 (cond (decide (a0_2 > (0 : Int)))
 (F_counters_next_counters_next_1_j3v7 m a0_0 a0_1 a0_2 a1_0 a1_1 a1_2n a1_2c a1_2 a1_3 a1_4n a1_4c a1_4 a1_5 a1_6 a1_7 (IntKind.wrap .i64 (a0_2 - (1 : Int))) a1_7 a0_0 a0_1 a0_2 a1_0 a1_1 a1_2n a1_2c a1_2 a1_3 a1_4n a1_4c a1_4 a1_5 a1_6 a1_7 (0 : Int) (0 : Int) (0 : Int))
 (F_counters_next_counters_next_1_j3v7 m a0_0 a0_1 a0_2 a1_0 a1_1 a1_2n a1_2c a1_2 a1_3 a1_4n a1_4c a1_4 a1_5 a1_6 a1_7 a0_2 a1_7 a0_0 a0_1 a0_2 a1_0 a1_1 a1_2n a1_2c a1_2 a1_3 a1_4n a1_4c a1_4 a1_5 a1_6 a1_7 (0 : Int) (0 : Int) (0 : Int)))
 (F_counters_next_counters_next_1_j3v7 m a0_0 a0_1 a0_2 a1_0 a1_1 a1_2n a1_2c a1_2 a1_3 a1_4n a1_4c a1_4 a1_5 a1_6 a1_7 a0_2 a1_7 a0_0 a0_1 a0_2 a1_0 a1_1 a1_2n a1_2c a1_2 a1_3 a1_4n a1_4c a1_4 a1_5 a1_6 a1_7 (0 : Int) (0 : Int) (0 : Int))))))
 (cond (a1_5 != (-1 : Int))
 (cond (!a1_0)
 (cond (decide (a0_1 > (0 : Int)))
 (cond (a1_6 != (-1 : Int))
 (cond (!a1_0)
 (cond (decide (a0_2 > (0 : Int)))
 (F_counters_next_counters_next_1_j3v8 m a0_0 a0_1 a0_2 a1_0 a1_1 a1_2n a1_2c a1_2 a1_3 a1_4n a1_4c a1_4 a1_5 a1_6 a1_7 (IntKind.wrap .i64 (a0_2 - (1 : Int))) a1_7 a0_0 a0_1 a0_2 a1_0 a1_1 a1_2n a1_2c a1_2 a1_3 a1_4n a1_4c a1_4 a1_5 a1_6 a1_7 (0 : Int) (0 : Int) (0 : Int))
 (F_counters_next_counters_next_1_j3v8 m a0_0 a0_1 a0_2 a1_0 a1_1 a1_2n a1_2c a1_2 a1_3 a1_4n a1_4c a1_4 a1_5 a1_6 a1_7 a0_2 a1_7 a0_0 a0_1 a0_2 a1_0 a1_1 a1_2n a1_2c a1_2 a1_3 a1_4n a1_4c a1_4 a1_5 a1_6 a1_7 (0 : Int) (0 : Int) (0 : Int)))
 (F_counters_next_counters_next_1_j3v8 m a0_0 a0_1 a0_2 a1_0 a1_1 a1_2n a1_2c a1_2 a1_3 a1_4n a1_4c a1_4 a1_5 a1_6 a1_7 a0_2 a1_7 a0_0 a0_1 a0_2 a1_0 a1_1 a1_2n a1_2c a1_2 a1_3 a1_4n a1_4c a1_4 a1_5 a1_6 a1_7 (0 : Int) (0 : Int) (0 : Int)))
 (cond (!a1_0)
 (cond (decide (a0_2 > (0 : Int)))
 (F_counters_next_counters_next_1_j3v9 m a0_0 a0_1 a0_2 a1_0 a1_1 a1_2n a1_2c a1_2 a1_3 a1_4n a1_4c a1_4 a1_5 a1_6 a1_7 (IntKind.wrap .i64 (a0_2 - (1 : Int))) a1_7 a0_0 a0_1 a0_2 a1_0 a1_1 a1_2n a1_2c a1_2 a1_3 a1_4n a1_4c a1_4 a1_5 a1_6 a1_7 (0 : Int) (0 : Int) (0 : Int))
 (F_counters_next_counters_next_1_j3v9 m a0_0 a0_1 a0_2 a1_0 a1_1 a1_2n a1_2c a1_2 a1_3 a1_4n a1_4c a1_4 a1_5 a1_6 a1_7 a0_2 a1_7 a0_0 a0_1 a0_2 a1_0 a1_1 a1_2n a1_2c a1_2 a1_3 a1_4n a1_4c a1_4 a1_5 a1_6 a1_7 (0 : Int) (0 : Int) (0 : Int)))
 (F_counters_next_counters_next_1_j3v9 m a0_0 a0_1 a0_2 a1_0 a1_1 a1_2n a1_2c a1_2 a1_3 a1_4n a1_4c a1_4 a1_5 a1_6 a1_7 a0_2 a1_7 a0_0 a0_1 a0_2 a1_0 a1_1 a1_2n a1_2c a1_2 a1_3 a1_4n a1_4c a1_4 a1_5 a1_6 a1_7 (0 : Int) (0 : Int) (0 : Int))))
 (cond (a1_6 != (-1 : Int))
 (cond (!a1_0)
 (cond (decide (a0_2 > (0 : Int)))
 (F_counters_next_counters_next_1_j3v10 m a0_0 a0_1 a0_2 a1_0 a1_1 a1_2n a1_2c a1_2 a1_3 a1_4n a1_4c a1_4 a1_5 a1_6 a1_7 (IntKind.wrap .i64 (a0_2 - (1 : Int))) a1_7 a0_0 a0_1 a0_2 a1_0 a1_1 a1_2n a1_2c a1_2 a1_3 a1_4n a1_4c a1_4 a1_5 a1_6 a1_7 (0 : Int) (0 : Int) (0 : Int))
 (F_counters_next_counters_next_1_j3v10 m a0_0 a0_1 a0_2 a1_0 a1_1 a1_2n a1_2c a1_2 a1_3 a1_4n a1_4c a1_4 a1_5 a1_6 a1_7 a0_2 a1_7 a0_0 a0_1 a0_2 a1_0 a1_1 a1_2n a1_2c a1_2 a1_3 a1_4n a1_4c a1_4 a1_5 a1_6 a1_7 (0 : Int) (0 : Int) (0 : Int)))
 (F_counters_next_counters_next_1_j3v10 m a0_0 a0_1 a0_2 a1_0 a1_1 a1_2n a1_2c a1_2 a1_3 a1_4n a1_4c a1_4 a1_5 a1_6 a1_7 a0_2 a1_7 a0_0 a0_1 a0_2 a1_0 a1_1 a1_2n a1_2c a1_2 a1_3 a1_4n a1_4c a1_4 a1_5 a1_6 a1_7 (0 : Int) (0 : Int) (0 : Int)))
 (cond (!a1_0)
 (cond (decide (a0_2 > (0 : Int)))
 (F_counters_next_counters_next_1_j3v11 m a0_0 a0_1 a0_2 a1_0 a1_1 a1_2n a1_2c a1_2 a1_3 a1_4n a1_4c a1_4 a1_5 a1_6 a1_7 (IntKind.wrap .i64 (a0_2 - (1 : Int))) a1_7 a0_0 a0_1 a0_2 a1_0 a1_1 a1_2n a1_2c a1_2 a1_3 a1_4n a1_4c a1_4 a1_5 a1_6 a1_7 (0 : Int) (0 : Int) (0 : Int))
 (F_counters_next_counters_next_1_j3v11 m a0_0 a0_1 a0_2 a1_0 a1_1 a1_2n a1_2c a1_2 a1_3 a1_4n a1_4c a1_4 a1_5 a1_6 a1_7 a0_2 a1_7 a0_0 a0_1 a0_2 a1_0 a1_1 a1_2n a1_2c a1_2 a1_3 a1_4n a1_4c a1_4 a1_5 a1_6 a1_7 (0 : Int) (0 : Int) (0 : Int)))
 (F_counters_next_counters_next_1_j3v11 m a0_0 a0_1 a0_2 a1_0 a1_1 a1_2n a1_2c a1_2 a1_3 a1_4n a1_4c a1_4 a1_5 a1_6 a1_7 a0_2 a1_7 a0_0 a0_1 a0_2 a1_0 a1_1 a1_2n a1_2c a1_2 a1_3 a1_4n a1_4c a1_4 a1_5 a1_6 a1_7 (0 : Int) (0 : Int) (0 : Int)))))
 (cond (a1_6 != (-1 : Int))
 (cond (!a1_0)
 (cond (decide (a0_2 > (0 : Int)))
 (F_counters_next_counters_next_1_j3v10 m a0_0 a0_1 a0_2 a1_0 a1_1 a1_2n a1_2c a1_2 a1_3 a1_4n a1_4c a1_4 a1_5 a1_6 a1_7 (IntKind.wrap .i64 (a0_2 - (1 : Int))) a1_7 a0_0 a0_1 a0_2 a1_0 a1_1 a1_2n a1_2c a1_2 a1_3 a1_4n a1_4c a1_4 a1_5 a1_6 a1_7 (0 : Int) (0 : Int) (0 : Int))
 (F_counters_next_counters_next_1_j3v10 m a0_0 a0_1 a0_2 a1_0 a1_1 a1_2n a1_2c a1_2 a1_3 a1_4n a1_4c a1_4 a1_5 a1_6 a1_7 a0_2 a1_7 a0_0 a0_1 a0_2 a1_0 a1_1 a1_2n a1_2c a1_2 a1_3 a1_4n a1_4c a1_4 a1_5 a1_6 a1_7 (0 : Int) (0 : Int) (0 : Int)))
 (F_counters_next_counters_next_1_j3v10 m a0_0 a0_1 a0_2 a1_0 a1_1 a1_2n a1_2c a1_2 a1_3 a1_4n a1_4c a1_4 a1_5 a1_6 a1_7 a0_2 a1_7 a0_0 a0_1 a0_2 a1_0 a1_1 a1_2n a1_2c a1_2 a1_3 a1_4n a1_4c a1_4 a1_5 a1_6 a1_7 (0 : Int) (0 : Int) (0 : Int)))
 (cond (!a1_0)
 (cond (decide (a0_2 > (0 : Int)))
 (F_counters_next_counters_next_1_j3v11 m a0_0 a0_1 a0_2 a1_0 a1_1 a1_2n a1_2c a1_2 a1_3 a1_4n a1_4c a1_4 a1_5 a1_6 a1_7 (IntKind.wrap .i64 (a0_2 - (1 : Int))) a1_7 a0_0 a0_1 a0_2 a1_0 a1_1 a1_2n a1_2c a1_2 a1_3 a1_4n a1_4c a1_4 a1_5 a1_6 a1_7 (0 : Int) (0 : Int) (0 : Int))
 (F_counters_next_counters_next_1_j3v11 m a0_0 a0_1 a0_2 a1_0 a1_1 a1_2n a1_2c a1_2 a1_3 a1_4n a1_4c a1_4 a1_5 a1_6 a1_7 a0_2 a1_7 a0_0 a0_1 a0_2 a1_0 a1_1 a1_2n a1_2c a1_2 a1_3 a1_4n a1_4c a1_4 a1_5 a1_6 a1_7 (0 : Int) (0 : Int) (0 : Int)))
 (F_counters_next_counters_next_1_j3v11 m a0_0 a0_1 a0_2 a1_0 a1_1 a1_2n a1_2c a1_2 a1_3 a1_4n a1_4c a1_4 a1_5 a1_6 a1_7 a0_2 a1_7 a0_0 a0_1 a0_2 a1_0 a1_1 a1_2n a1_2c a1_2 a1_3 a1_4n a1_4c a1_4 a1_5 a1_6 a1_7 (0 : Int) (0 : Int) (0 : Int)))))
 (cond (!a1_0)
 (cond (decide (a0_1 > (0 : Int)))
 (cond (a1_6 != (-1 : Int))
 (cond (!a1_0)
 (cond (decide (a0_2 > (0 : Int)))
 (F_counters_next_counters_next_1_j3v12 m a0_0 a0_1 a0_2 a1_0 a1_1 a1_2n a1_2c a1_2 a1_3 a1_4n a1_4c a1_4 a1_5 a1_6 a1_7 (IntKind.wrap .i64 (a0_2 - (1 : Int))) a1_7 a0_0 a0_1 a0_2 a1_0 a1_1 a1_2n a1_2c a1_2 a1_3 a1_4n a1_4c a1_4 a1_5 a1_6 a1_7 (0 : Int) (0 : Int) (0 : Int))
 (F_counters_next_counters_next_1_j3v12 m a0_0 a0_1 a0_2 a1_0 a1_1 a1_2n a1_2c a1_2 a1_3 a1_4n a1_4c a1_4 a1_5 a1_6 a1_7 a0_2 a1_7 a0_0 a0_1 a0_2 a1_0 a1_1 a1_2n a1_2c a1_2 a1_3 a1_4n a1_4c a1_4 a1_5 a1_6 a1_7 (0 : Int) (0 : Int) (0 : Int)))
 (F_counters_next_counters_next_1_j3v12 m a0_0 a0_1 a0_2 a1_0 a1_1 a1_2n a1_2c a1_2 a1_3 a1_4n a1_4c a1_4 a1_5 a1_6 a1_7 a0_2 a1_7 a0_0 a0_1 a0_2 a1_0 a1_1 a1_2n a1_2c a1_2 a1_3 a1_4n a1_4c a1_4 a1_5 a1_6 a1_7 (0 : Int) (0 : Int) (0 : Int)))
 (cond (!a1_0)
 (cond (decide (a0_2 > (0 : Int)))
 (F_counters_next_counters_next_1_j3v13 m a0_0 a0_1 a0_2 a1_0 a1_1 a1_2n a1_2c a1_2 a1_3 a1_4n a1_4c a1_4 a1_5 a1_6 a1_7 (IntKind.wrap .i64 (a0_2 - (1 : Int))) a1_7 a0_0 a0_1 a0_2 a1_0 a1_1 a1_2n a1_2c a1_2 a1_3 a1_4n a1_4c a1_4 a1_5 a1_6 a1_7 (0 : Int) (0 : Int) (0 : Int))
 (F_counters_next_counters_next_1_j3v13 m a0_0 a0_1 a0_2 a1_0 a1_1 a1_2n a1_2c a1_2 a1_3 a1_4n a1_4c a1_4 a1_5 a1_6 a1_7 a0_2 a1_7 a0_0 a0_1 a0_2 a1_0 a1_1 a1_2n a1_2c a1_2 a1_3 a1_4n a1_4c a1_4 a1_5 a1_6 a1_7 (0 : Int) (0 : Int) (0 : Int)))
 (F_counters_next_counters_next_1_j3v13 m a0_0 a0_1 a0_2 a1_0 a1_1 a1_2n a1_2c a1_2 a1_3 a1_4n a1_4c a1_4 a1_5 a1_6 a1_7 a0_2 a1_7 a0_0 a0_1 a0_2 a1_0 a1_1 a1_2n a1_2c a1_2 a1_3 a1_4n a1_4c a1_4 a1_5 a1_6 a1_7 (0 : Int) (0 : Int) (0 : Int))))
 (cond (a1_6 != (-1 : Int))
 (cond (!a1_0)
 (cond (decide (a0_2 > (0 : Int)))
 (F_counters_next_counters_next_1_j3v14 m a0_0 a0_1 a0_2 a1_0 a1_1 a1_2n a1_2c a1_2 a1_3 a1_4n a1_4c a1_4 a1_5 a1_6 a1_7 (IntKind.wrap .i64 (a0_2 - (1 : Int))) a1_7 a0_0 a0_1 a0_2 a1_0 a1_1 a1_2n a1_2c a1_2 a1_3 a1_4n a1_4c a1_4 a1_5 a1_6 a1_7 (0 : Int) (0 : Int) (0 : Int))
 (F_counters_next_counters_next_1_j3v14 m a0_0 a0_1 a0_2 a1_0 a1_1 a1_2n a1_2c a1_2 a1_3 a1_4n a1_4c a1_4 a1_5 a1_6 a1_7 a0_2 a1_7 a0_0 a0_1 a0_2 a1_0 a1_1 a1_2n a1_2c a1_2 a1_3 a1_4n a1_4c a1_4 a1_5 a1_6 a1_7 (0 : Int) (0 : Int) (0 : Int)))
 (F_counters_next_counters_next_1_j3v14 m a0_0 a0_1 a0_2 a1_0 a1_1 a1_2n a1_2c a1_2 a1_3 a1_4n a1_4c a1_4 a1_5 a1_6 a1_7 a0_2 a1_7 a0_0 a0_1 a0_2 a1_0 a1_1 a1_2n a1_2c a1_2 a1_3 a1_4n a1_4c a1_4 a1_5 a1_6 a1_7 (0 : Int) (0 : Int) (0 : Int)))
 (cond (!a1_0)
 (cond (decide (a0_2 > (0 : Int)))
 (F_counters_next_counters_next_1_j3v15 m a0_0 a0_1 a0_2 a1_0 a1_1 a1_2n a1_2c a1_2 a1_3 a1_4n a1_4c a1_4 a1_5 a1_6 a1_7 (IntKind.wrap .i64 (a0_2 - (1 : Int))) a1_7 a0_0 a0_1 a0_2 a1_0 a1_1 a1_2n a1_2c a1_2 a1_3 a1_4n a1_4c a1_4 a1_5 a1_6 a1_7 (0 : Int) (0 : Int) (0 : Int))
 (F_counters_next_counters_next_1_j3v15 m a0_0 a0_1 a0_2 a1_0 a1_1 a1_2n a1_2c a1_2 a1_3 a1_4n a1_4c a1_4 a1_5 a1_6 a1_7 a0_2 a1_7 a0_0 a0_1 a0_2 a1_0 a1_1 a1_2n a1_2c a1_2 a1_3 a1_4n a1_4c a1_4 a1_5 a1_6 a1_7 (0 : Int) (0 : Int) (0 : Int)))
 (F_counters_next_counters_next_1_j3v15 m a0_0 a0_1 a0_2 a1_0 a1_1 a1_2n a1_2c a1_2 a1_3 a1_4n a1_4c a1_4 a1_5 a1_6 a1_7 a0_2 a1_7 a0_0 a0_1 a0_2 a1_0 a1_1 a1_2n a1_2c a1_2 a1_3 a1_4n a1_4c a1_4 a1_5 a1_6 a1_7 (0 : Int) (0 : Int) (0 : Int)))))
 (cond (a1_6 != (-1 : Int))
 (cond (!a1_0)
 (cond (decide (a0_2 > (0 : Int)))
 (F_counters_next_counters_next_1_j3v14 m a0_0 a0_1 a0_2 a1_0 a1_1 a1_2n a1_2c a1_2 a1_3 a1_4n a1_4c a1_4 a1_5 a1_6 a1_7 (IntKind.wrap .i64 (a0_2 - (1 : Int))) a1_7 a0_0 a0_1 a0_2 a1_0 a1_1 a1_2n a1_2c a1_2 a1_3 a1_4n a1_4c a1_4 a1_5 a1_6 a1_7 (0 : Int) (0 : Int) (0 : Int))
 (F_counters_next_counters_next_1_j3v14 m a0_0 a0_1 a0_2 a1_0 a1_1 a1_2n a1_2c a1_2 a1_3 a1_4n a1_4c a1_4 a1_5 a1_6 a1_7 a0_2 a1_7 a0_0 a0_1 a0_2 a1_0 a1_1 a1_2n a1_2c a1_2 a1_3 a1_4n a1_4c a1_4 a1_5 a1_6 a1_7 (0 : Int) (0 : Int) (0 : Int)))
 (F_counters_next_counters_next_1_j3v14 m a0_0 a0_1 a0_2 a1_0 a1_1 a1_2n a1_2c a1_2 a1_3 a1_4n a1_4c a1_4 a1_5 a1_6 a1_7 a0_2 a1_7 a0_0 a0_1 a0_2 a1_0 a1_1 a1_2n a1_2c a1_2 a1_3 a1_4n a1_4c a1_4 a1_5 a1_6 a1_7 (0 : Int) (0 : Int) (0 : Int)))
 (cond (!a1_0)
 (cond (decide (a0_2 > (0 : Int)))
 (F_counters_next_counters_next_1_j3v15 m a0_0 a0_1 a0_2 a1_0 a1_1 a1_2n a1_2c a1_2 a1_3 a1_4n a1_4c a1_4 a1_5 a1_6 a1_7 (IntKind.wrap .i64 (a0_2 - (1 : Int))) a1_7 a0_0 a0_1 a0_2 a1_0 a1_1 a1_2n a1_2c a1_2 a1_3 a1_4n a1_4c a1_4 a1_5 a1_6 a1_7 (0 : Int) (0 : Int) (0 : Int))
 (F_counters_next_counters_next_1_j3v15 m a0_0 a0_1 a0_2 a1_0 a1_1 a1_2n a1_2c a1_2 a1_3 a1_4n a1_4c a1_4 a1_5 a1_6 a1_7 a0_2 a1_7 a0_0 a0_1 a0_2 a1_0 a1_1 a1_2n a1_2c a1_2 a1_3 a1_4n a1_4c a1_4 a1_5 a1_6 a1_7 (0 : Int) (0 : Int) (0 : Int)))
 (F_counters_next_counters_next_1_j3v15 m a0_0 a0_1 a0_2 a1_0 a1_1 a1_2n a1_2c a1_2 a1_3 a1_4n a1_4c a1_4 a1_5 a1_6 a1_7 a0_2 a1_7 a0_0 a0_1 a0_2 a1_0 a1_1 a1_2n a1_2c a1_2 a1_3 a1_4n a1_4c a1_4 a1_5 a1_6 a1_7 (0 : Int) (0 : Int) (0 : Int)))))))
 (cond (a1_5 != (-1 : Int))
 (cond (!a1_0)
 (cond (decide (a0_1 > (0 : Int)))
 (cond (a1_6 != (-1 : Int))
 (cond (!a1_0)
 (cond (decide (a0_2 > (0 : Int)))
 (F_counters_next_counters_next_1_j3v8 m a0_0 a0_1 a0_2 a1_0 a1_1 a1_2n a1_2c a1_2 a1_3 a1_4n a1_4c a1_4 a1_5 a1_6 a1_7 (IntKind.wrap .i64 (a0_2 - (1 : Int))) a1_7 a0_0 a0_1 a0_2 a1_0 a1_1 a1_2n a1_2c a1_2 a1_3 a1_4n a1_4c a1_4 a1_5 a1_6 a1_7 (0 : Int) (0 : Int) (0 : Int))
 (F_counters_next_counters_next_1_j3v8 m a0_0 a0_1 a0_2 a1_0 a1_1 a1_2n a1_2c a1_2 a1_3 a1_4n a1_4c a1_4 a1_5 a1_6 a1_7 a0_2 a1_7 a0_0 a0_1 a0_2 a1_0 a1_1 a1_2n a1_2c a1_2 a1_3 a1_4n a1_4c a1_4 a1_5 a1_6 a1_7 (0 : Int) (0 : Int) (0 : Int)))
 (F_counters_next_counters_next_1_j3v8 m a0_0 a0_1 a0_2 a1_0 a1_1 a1_2n a1_2c a1_2 a1_3 a1_4n a1_4c a1_4 a1_5 a1_6 a1_7 a0_2 a1_7 a0_0 a0_1 a0_2 a1_0 a1_1 a1_2n a1_2c a1_2 a1_3 a1_4n a1_4c a1_4 a1_5 a1_6 a1_7 (0 : Int) (0 : Int) (0 : Int)))
 (cond (!a1_0)
 (cond (decide (a0_2 > (0 : Int)))
 (F_counters_next_counters_next_1_j3v9 m a0_0 a0_1 a0_2 a1_0 a1_1 a1_2n a1_2c a1_2 a1_3 a1_4n a1_4c a1_4 a1_5 a1_6 a1_7 (IntKind.wrap .i64 (a0_2 - (1 : Int))) a1_7 a0_0 a0_1 a0_2 a1_0 a1_1 a1_2n a1_2c a1_2 a1_3 a1_4n a1_4c a1_4 a1_5 a1_6 a1_7 (0 : Int) (0 : Int) (0 : Int))
 (F_counters_next_counters_next_1_j3v9 m a0_0 a0_1 a0_2 a1_0 a1_1 a1_2n a1_2c a1_2 a1_3 a1_4n a1_4c a1_4 a1_5 a1_6 a1_7 a0_2 a1_7 a0_0 a0_1 a0_2 a1_0 a1_1 a1_2n a1_2c a1_2 a1_3 a1_4n a1_4c a1_4 a1_5 a1_6 a1_7 (0 : Int) (0 : Int) (0 : Int)))
 (F_counters_next_counters_next_1_j3v9 m a0_0 a0_1 a0_2 a1_0 a1_1 a1_2n a1_2c a1_2 a1_3 a1_4n a1_4c a1_4 a1_5 a1_6 a1_7 a0_2 a1_7 a0_0 a0_1 a0_2 a1_0 a1_1 a1_2n a1_2c a1_2 a1_3 a1_4n a1_4c a1_4 a1_5 a1_6 a1_7 (0 : Int) (0 : Int) (0 : Int))))
 (cond (a1_6 != (-1 : Int))
 (cond (!a1_0)
 (cond (decide (a0_2 > (0 : Int)))
 (F_counters_next_counters_next_1_j3v10 m a0_0 a0_1 a0_2 a1_0 a1_1 a1_2n a1_2c a1_2 a1_3 a1_4n a1_4c a1_4 a1_5 a1_6 a1_7 (IntKind.wrap .i64 (a0_2 - (1 : Int))) a1_7 a0_0 a0_1 a0_2 a1_0 a1_1 a1_2n a1_2c a1_2 a1_3 a1_4n a1_4c a1_4 a1_5 a1_6 a1_7 (0 : Int) (0 : Int) (0 : Int))
 (F_counters_next_counters_next_1_j3v10 m a0_0 a0_1 a0_2 a1_0 a1_1 a1_2n a1_2c a1_2 a1_3 a1_4n a1_4c a1_4 a1_5 a1_6 a1_7 a0_2 a1_7 a0_0 a0_1 a0_2 a1_0 a1_1 a1_2n a1_2c a1_2 a1_3 a1_4n a1_4c a1_4 a1_5 a1_6 a1_7 (0 : Int) (0 : Int) (0 : Int)))
 (F_counters_next_counters_next_1_j3v10 m a0_0 a0_1 a0_2 a1_0 a1_1 a1_2n a1_2c a1_2 a1_3 a1_4n a1_4c a1_4 a1_5 a1_6 a1_7 a0_2 a1_7 a0_0 a0_1 a0_2 a1_0 a1_1 a1_2n a1_2c a1_2 a1_3 a1_4n a1_4c a1_4 a1_5 a1_6 a1_7 (0 : Int) (0 : Int) (0 : Int)))
 (cond (!a1_0)
 (cond (decide (a0_2 > (0 : Int)))
 (F_counters_next_counters_next_1_j3v11 m a0_0 a0_1 a0_2 a1_0 a1_1 a1_2n a1_2c a1_2 a1_3 a1_4n a1_4c a1_4 a1_5 a1_6 a1_7 (IntKind.wrap .i64 (a0_2 - (1 : Int))) a1_7 a0_0 a0_1 a0_2 a1_0 a1_1 a1_2n a1_2c a1_2 a1_3 a1_4n a1_4c a1_4 a1_5 a1_6 a1_7 (0 : Int) (0 : Int) (0 : Int))
 (F_counters_next_counters_next_1_j3v11 m a0_0 a0_1 a0_2 a1_0 a1_1 a1_2n a1_2c a1_2 a1_3 a1_4n a1_4c a1_4 a1_5 a1_6 a1_7 a0_2 a1_7 a0_0 a0_1 a0_2 a1_0 a1_1 a1_2n a1_2c a1_2 a1_3 a1_4n a1_4c a1_4 a1_5 a1_6 a1_7 (0 : Int) (0 : Int) (0 : Int)))
 (F_counters_next_counters_next_1_j3v11 m a0_0 a0_1 a0_2 a1_0 a1_1 a1_2n a1_2c a1_2 a1_3 a1_4n a1_4c a1_4 a1_5 a1_6 a1_7 a0_2 a1_7 a0_0 a0_1 a0_2 a1_0 a1_1 a1_2n a1_2c a1_2 a1_3 a1_4n a1_4c a1_4 a1_5 a1_6 a1_7 (0 : Int) (0 : Int) (0 : Int)))))
 (cond (a1_6 != (-1 : Int))
 (cond (!a1_0)
 (cond (decide (a0_2 > (0 : Int)))
 (F_counters_next_counters_next_1_j3v10 m a0_0 a0_1 a0_2 a1_0 a1_1 a1_2n a1_2c a1_2 a1_3 a1_4n a1_4c a1_4 a1_5 a1_6 a1_7 (IntKind.wrap .i64 (a0_2 - (1 : Int))) a1_7 a0_0 a0_1 a0_2 a1_0 a1_1 a1_2n a1_2c a1_2 a1_3 a1_4n a1_4c a1_4 a1_5 a1_6 a1_7 (0 : Int) (0 : Int) (0 : Int))
 (F_counters_next_counters_next_1_j3v10 m a0_0 a0_1 a0_2 a1_0 a1_1 a1_2n a1_2c a1_2 a1_3 a1_4n a1_4c a1_4 a1_5 a1_6 a1_7 a0_2 a1_7 a0_0 a0_1 a0_2 a1_0 a1_1 a1_2n a1_2c a1_2 a1_3 a1_4n a1_4c a1_4 a1_5 a1_6 a1_7 (0 : Int) (0 : Int) (0 : Int)))
 (F_counters_next_counters_next_1_j3v10 m a0_0 a0_1 a0_2 a1_0 a1_1 a1_2n a1_2c a1_2 a1_3 a1_4n a1_4c a1_4 a1_5 a1_6 a1_7 a0_2 a1_7 a0_0 a0_1 a0_2 a1_0 a1_1 a1_2n a1_2c a1_2 a1_3 a1_4n a1_4c a1_4 a1_5 a1_6 a1_7 (0 : Int) (0 : Int) (0 : Int)))
 (cond (!a1_0)
 (cond (decide (a0_2 > (0 : Int)))
 (F_counters_next_counters_next_1_j3v11 m a0_0 a0_1 a0_2 a1_0 a1_1 a1_2n a1_2c a1_2 a1_3 a1_4n a1_4c a1_4 a1_5 a1_6 a1_7 (IntKind.wrap .i64 (a0_2 - (1 : Int))) a1_7 a0_0 a0_1 a0_2 a1_0 a1_1 a1_2n a1_2c a1_2 a1_3 a1_4n a1_4c a1_4 a1_5 a1_6 a1_7 (0 : Int) (0 : Int) (0 : Int))
 (F_counters_next_counters_next_1_j3v11 m a0_0 a0_1 a0_2 a1_0 a1_1 a1_2n a1_2c a1_2 a1_3 a1_4n a1_4c a1_4 a1_5 a1_6 a1_7 a0_2 a1_7 a0_0 a0_1 a0_2 a1_0 a1_1 a1_2n a1_2c a1_2 a1_3 a1_4n a1_4c a1_4 a1_5 a1_6 a1_7 (0 : Int) (0 : Int) (0 : Int)))
 (F_counters_next_counters_next_1_j3v11 m a0_0 a0_1 a0_2 a1_0 a1_1 a1_2n a1_2c a1_2 a1_3 a1_4n a1_4c a1_4 a1_5 a1_6 a1_7 a0_2 a1_7 a0_0 a0_1 a0_2 a1_0 a1_1 a1_2n a1_2c a1_2 a1_3 a1_4n a1_4c a1_4 a1_5 a1_6 a1_7 (0 : Int) (0 : Int) (0 : Int)))))
 (cond (!a1_0)
 (cond (decide (a0_1 > (0 : Int)))
 (cond (a1_6 != (-1 : Int))
 (cond (!a1_0)
 (cond (decide (a0_2 > (0 : Int)))
 (F_counters_next_counters_next_1_j3v12 m a0_0 a0_1 a0_2 a1_0 a1_1 a1_2n a1_2c a1_2 a1_3 a1_4n a1_4c a1_4 a1_5 a1_6 a1_7 (IntKind.wrap .i64 (a0_2 - (1 : Int))) a1_7 a0_0 a0_1 a0_2 a1_0 a1_1 a1_2n a1_2c a1_2 a1_3 a1_4n a1_4c a1_4 a1_5 a1_6 a1_7 (0 : Int) (0 : Int) (0 : Int))
 (F_counters_next_counters_next_1_j3v12 m a0_0 a0_1 a0_2 a1_0 a1_1 a1_2n a1_2c a1_2 a1_3 a1_4n a1_4c a1_4 a1_5 a1_6 a1_7 a0_2 a1_7 a0_0 a0_1 a0_2 a1_0 a1_1 a1_2n a1_2c a1_2 a1_3 a1_4n a1_4c a1_4 a1_5 a1_6 a1_7 (0 : Int) (0 : Int) (0 : Int)))
 (F_counters_next_counters_next_1_j3v12 m a0_0 a0_1 a0_2 a1_0 a1_1 a1_2n a1_2c a1_2 a1_3 a1_4n a1_4c a1_4 a1_5 a1_6 a1_7 a0_2 a1_7 a0_0 a0_1 a0_2 a1_0 a1_1 a1_2n a1_2c a1_2 a1_3 a1_4n a1_4c a1_4 a1_5 a1_6 a1_7 (0 : Int) (0 : Int) (0 : Int)))
 (cond (!a1_0)
 (cond (decide (a0_2 > (0 : Int)))
 (F_counters_next_counters_next_1_j3v13 m a0_0 a0_1 a0_2 a1_0 a1_1 a1_2n a1_2c a1_2 a1_3 a1_4n a1_4c a1_4 a1_5 a1_6 a1_7 (IntKind.wrap .i64 (a0_2 - (1 : Int))) a1_7 a0_0 a0_1 a0_2 a1_0 a1_1 a1_2n a1_2c a1_2 a1_3 a1_4n a1_4c a1_4 a1_5 a1_6 a1_7 (0 : Int) (0 : Int) (0 : Int))
 (F_counters_next_counters_next_1_j3v13 m a0_0 a0_1 a0_2 a1_0 a1_1 a1_2n a1_2c a1_2 a1_3 a1_4n a1_4c a1_4 a1_5 a1_6 a1_7 a0_2 a1_7 a0_0 a0_1 a0_2 a1_0 a1_1 a1_2n a1_2c a1_2 a1_3 a1_4n a1_4c a1_4 a1_5 a1_6 a1_7 (0 : Int) (0 : Int) (0 : Int)))
 (F_counters_next_counters_next_1_j3v13 m a0_0 a0_1 a0_2 a1_0 a1_1 a1_2n a1_2c a1_2 a1_3 a1_4n a1_4c a1_4 a1_5 a1_6 a1_7 a0_2 a1_7 a0_0 a0_1 a0_2 a1_0 a1_1 a1_2n a1_2c a1_2 a1_3 a1_4n a1_4c a1_4 a1_5 a1_6 a1_7 (0 : Int) (0 : Int) (0 : Int))))
 (cond (a1_6 != (-1 : Int))
 (cond (!a1_0)
 (cond (decide (a0_2 > (0 : Int)))
 (F_counters_next_counters_next_1_j3v14 m a0_0 a0_1 a0_2 a1_0 a1_1 a1_2n a1_2c a1_2 a1_3 a1_4n a1_4c a1_4 a1_5 a1_6 a1_7 (IntKind.wrap .i64 (a0_2 - (1 : Int))) a1_7 a0_0 a0_1 a0_2 a1_0 a1_1 a1_2n a1_2c a1_2 a1_3 a1_4n a1_4c a1_4 a1_5 a1_6 a1_7 (0 : Int) (0 : Int) (0 : Int))
 (F_counters_next_counters_next_1_j3v14 m a0_0 a0_1 a0_2 a1_0 a1_1 a1_2n a1_2c a1_2 a1_3 a1_4n a1_4c a1_4 a1_5 a1_6 a1_7 a0_2 a1_7 a0_0 a0_1 a0_2 a1_0 a1_1 a1_2n a1_2c a1_2 a1_3 a1_4n a1_4c a1_4 a1_5 a1_6 a1_7 (0 : Int) (0 : Int) (0 : Int)))
 (F_counters_next_counters_next_1_j3v14 m a0_0 a0_1 a0_2 a1_0 a1_1 a1_2n a1_2c a1_2 a1_3 a1_4n a1_4c a1_4 a1_5 a1_6 a1_7 a0_2 a1_7 a0_0 a0_1 a0_2 a1_0 a1_1 a1_2n a1_2c a1_2 a1_3 a1_4n a1_4c a1_4 a1_5 a1_6 a1_7 (0 : Int) (0 : Int) (0 : Int)))
 (cond (!a1_0)
 (cond (decide (a0_2 > (0 : Int)))
 (F_counters_next_counters_next_1_j3v15 m a0_0 a0_1 a0_2 a1_0 a1_1 a1_2n a1_2c a1_2 a1_3 a1_4n a1_4c a1_4 a1_5 a1_6 a1_7 (IntKind.wrap .i64 (a0_2 - (1 : Int))) a1_7 a0_0 a0_1 a0_2 a1_0 a1_1 a1_2n a1_2c a1_2 a1_3 a1_4n a1_4c a1_4 a1_5 a1_6 a1_7 (0 : Int) (0 : Int) (0 : Int))
 (F_counters_next_counters_next_1_j3v15 m a0_0 a0_1 a0_2 a1_0 a1_1 a1_2n a1_2c a1_2 a1_3 a1_4n a1_4c a1_4 a1_5 a1_6 a1_7 a0_2 a1_7 a0_0 a0_1 a0_2 a1_0 a1_1 a1_2n a1_2c a1_2 a1_3 a1_4n a1_4c a1_4 a1_5 a1_6 a1_7 (0 : Int) (0 : Int) (0 : Int)))
 (F_counters_next_counters_next_1_j3v15 m a0_0 a0_1 a0_2 a1_0 a1_1 a1_2n a1_2c a1_2 a1_3 a1_4n a1_4c a1_4 a1_5 a1_6 a1_7 a0_2 a1_7 a0_0 a0_1 a0_2 a1_0 a1_1 a1_2n a1_2c a1_2 a1_3 a1_4n a1_4c a1_4 a1_5 a1_6 a1_7 (0 : Int) (0 : Int) (0 : Int)))))
 (cond (a1_6 != (-1 : Int))
 (cond (!a1_0)
 (cond (decide (a0_2 > (0 : Int)))
 (F_counters_next_counters_next_1_j3v14 m a0_0 a0_1 a0_2 a1_0 a1_1 a1_2n a1_2c a1_2 a1_3 a1_4n a1_4c a1_4 a1_5 a1_6 a1_7 (IntKind.wrap .i64 (a0_2 - (1 : Int))) a1_7 a0_0 a0_1 a0_2 a1_0 a1_1 a1_2n a1_2c a1_2 a1_3 a1_4n a1_4c a1_4 a1_5 a1_6 a1_7 (0 : Int) (0 : Int) (0 : Int))
 (F_counters_next_counters_next_1_j3v14 m a0_0 a0_1 a0_2 a1_0 a1_1 a1_2n a1_2c a1_2 a1_3 a1_4n a1_4c a1_4 a1_5 a1_6 a1_7 a0_2 a1_7 a0_0 a0_1 a0_2 a1_0 a1_1 a1_2n a1_2c a1_2 a1_3 a1_4n a1_4c a1_4 a1_5 a1_6 a1_7 (0 : Int) (0 : Int) (0 : Int)))
 (F_counters_next_counters_next_1_j3v14 m a0_0 a0_1 a0_2 a1_0 a1_1 a1_2n a1_2c a1_2 a1_3 a1_4n a1_4c a1_4 a1_5 a1_6 a1_7 a0_2 a1_7 a0_0 a0_1 a0_2 a1_0 a1_1 a1_2n a1_2c a1_2 a1_3 a1_4n a1_4c a1_4 a1_5 a1_6 a1_7 (0 : Int) (0 : Int) (0 : Int)))
 (cond (!a1_0)
 (cond (decide (a0_2 > (0 : Int)))
 (F_counters_next_counters_next_1_j3v15 m a0_0 a0_1 a0_2 a1_0 a1_1 a1_2n a1_2c a1_2 a1_3 a1_4n a1_4c a1_4 a1_5 a1_6 a1_7 (IntKind.wrap .i64 (a0_2 - (1 : Int))) a1_7 a0_0 a0_1 a0_2 a1_0 a1_1 a1_2n a1_2c a1_2 a1_3 a1_4n a1_4c a1_4 a1_5 a1_6 a1_7 (0 : Int) (0 : Int) (0 : Int))
 (F_counters_next_counters_next_1_j3v15 m a0_0 a0_1 a0_2 a1_0 a1_1 a1_2n a1_2c a1_2 a1_3 a1_4n a1_4c a1_4 a1_5 a1_6 a1_7 a0_2 a1_7 a0_0 a0_1 a0_2 a1_0 a1_1 a1_2n a1_2c a1_2 a1_3 a1_4n a1_4c a1_4 a1_5 a1_6 a1_7 (0 : Int) (0 : Int) (0 : Int)))
 (F_counters_next_counters_next_1_j3v15 m a0_0 a0_1 a0_2 a1_0 a1_1 a1_2n a1_2c a1_2 a1_3 a1_4n a1_4c a1_4 a1_5 a1_6 a1_7 a0_2 a1_7 a0_0 a0_1 a0_2 a1_0 a1_1 a1_2n a1_2c a1_2 a1_3 a1_4n a1_4c a1_4 a1_5 a1_6 a1_7 (0 : Int) (0 : Int) (0 : Int))))))
theorem F_counters_next_eq (m : Nat) (a0_0 : Int) (a0_1 : Int) (a0_2 : Int) (a1_0 : Bool) (a1_1 : Bool) (a1_2n : Nat) (a1_2c : Option Nat) (a1_2 : List D) (a1_3 : Bool) (a1_4n : Nat) (a1_4c : Option Nat) (a1_4 : List D) (a1_5 : Int) (a1_6 : Int) (a1_7 : Int) : funD Tryz.prog H_counters_next m 4 fh_counters_next__counters_next Tryz.f49 [(D.agg [(D.v (.int .i64 a0_0)), (D.v (.int .i64 a0_1)), (D.v (.int .i64 a0_2))]), (D.agg [(D.v (.bool a1_0)), (D.v (.bool a1_1)), (D.list a1_2n a1_2c a1_2), (D.v (.bool a1_3)), (D.list a1_4n a1_4c a1_4), (D.v (.int .i64 a1_5)), (D.v (.int .i64 a1_6)), (D.v (.int .i64 a1_7))])] = F_counters_next m a0_0 a0_1 a0_2 a1_0 a1_1 a1_2n a1_2c a1_2 a1_3 a1_4n a1_4c a1_4 a1_5 a1_6 a1_7 := by kernel_rfl
theorem en_counters_next : Enters Tryz.prog 49 := ⟨Tryz.f49, Tryz.func49, by kernel_rfl, by kernel_rfl⟩
theorem dt_counters_next {ds : List D} {d : D} (h : funD Tryz.prog H_counters_next M 4 fh_counters_next__counters_next Tryz.f49 ds = some d) : DataSem Tryz.prog 49 ds d := data_sound (H := H_counters_next) SpOk.nil mixed (InlOk.cons Tryz.func56 en_counters_next_1 InlOk.nil) Tryz.func49 en_counters_next h
noncomputable def sp_counters_next : List D → Option D
  | [.agg [.v (.int .i64 a0_0), .v (.int .i64 a0_1), .v (.int .i64 a0_2)], .agg [.v (.bool a1_0), .v (.bool a1_1), .list a1_2n a1_2c a1_2, .v (.bool a1_3), .list a1_4n a1_4c a1_4, .v (.int .i64 a1_5), .v (.int .i64 a1_6), .v (.int .i64 a1_7)]] => F_counters_next M a0_0 a0_1 a0_2 a1_0 a1_1 a1_2n a1_2c a1_2 a1_3 a1_4n a1_4c a1_4 a1_5 a1_6 a1_7
  | _ => none
theorem ds_counters_next : ∀ ds d, sp_counters_next ds = some d → DataSem Tryz.prog 49 ds d := by
  intro ds d h
  unfold sp_counters_next at h
  split at h
  · exact dt_counters_next ((F_counters_next_eq M _ _ _ _ _ _ _ _ _ _ _ _ _ _ _).trans h)
  · cases h

-- ('str', '"vidimus/counters.wrap"')
def fh_counters_wrap__counters_wrap : FnH := ⟨[], []⟩
noncomputable def H_counters_wrap : Hints := ⟨[], [], []⟩
noncomputable def F_counters_wrap (m : Nat) (a0_0 : Int) (a0_1 : Int) (a0_2 : Int) (a1_0 : Bool) (a1_1 : Bool) (a1_2n : Nat) (a1_2c : Option Nat) (a1_2 : List D) (a1_3 : Bool) (a1_4n : Nat) (a1_4c : Option Nat) (a1_4 : List D) (a1_5 : Int) (a1_6 : Int) (a1_7 : Int) : Option D :=
 cond (a1_5 == (0 : Int))
 (some (D.v (.int .i64 (0 : Int))))
 (some (D.v (.int .i64 (mm false (IntKind.wrap .i64 (a0_0 - (1 : Int))) (0 : Int)))))
theorem F_counters_wrap_eq (m : Nat) (a0_0 : Int) (a0_1 : Int) (a0_2 : Int) (a1_0 : Bool) (a1_1 : Bool) (a1_2n : Nat) (a1_2c : Option Nat) (a1_2 : List D) (a1_3 : Bool) (a1_4n : Nat) (a1_4c : Option Nat) (a1_4 : List D) (a1_5 : Int) (a1_6 : Int) (a1_7 : Int) : funD Tryz.prog H_counters_wrap m 4 fh_counters_wrap__counters_wrap Tryz.f42 [(D.agg [(D.v (.int .i64 a0_0)), (D.v (.int .i64 a0_1)), (D.v (.int .i64 a0_2))]), (D.agg [(D.v (.bool a1_0)), (D.v (.bool a1_1)), (D.list a1_2n a1_2c a1_2), (D.v (.bool a1_3)), (D.list a1_4n a1_4c a1_4), (D.v (.int .i64 a1_5)), (D.v (.int .i64 a1_6)), (D.v (.int .i64 a1_7))])] = F_counters_wrap m a0_0 a0_1 a0_2 a1_0 a1_1 a1_2n a1_2c a1_2 a1_3 a1_4n a1_4c a1_4 a1_5 a1_6 a1_7 := by kernel_rfl
theorem en_counters_wrap : Enters Tryz.prog 42 := ⟨Tryz.f42, Tryz.func42, by kernel_rfl, by kernel_rfl⟩
theorem dt_counters_wrap {ds : List D} {d : D} (h : funD Tryz.prog H_counters_wrap M 4 fh_counters_wrap__counters_wrap Tryz.f42 ds = some d) : DataSem Tryz.prog 42 ds d := data_sound (H := H_counters_wrap) SpOk.nil mixed InlOk.nil Tryz.func42 en_counters_wrap h
noncomputable def sp_counters_wrap : List D → Option D
  | [.agg [.v (.int .i64 a0_0), .v (.int .i64 a0_1), .v (.int .i64 a0_2)], .agg [.v (.bool a1_0), .v (.bool a1_1), .list a1_2n a1_2c a1_2, .v (.bool a1_3), .list a1_4n a1_4c a1_4, .v (.int .i64 a1_5), .v (.int .i64 a1_6), .v (.int .i64 a1_7)]] => F_counters_wrap M a0_0 a0_1 a0_2 a1_0 a1_1 a1_2n a1_2c a1_2 a1_3 a1_4n a1_4c a1_4 a1_5 a1_6 a1_7
  | _ => none
theorem ds_counters_wrap : ∀ ds d, sp_counters_wrap ds = some d → DataSem Tryz.prog 42 ds d := by
  intro ds d h
  unfold sp_counters_wrap at h
  split at h
  · exact dt_counters_wrap ((F_counters_wrap_eq M _ _ _ _ _ _ _ _ _ _ _ _ _ _ _).trans h)
  · cases h

-- ('str', '"vidimus/counters.Start"')
def fh_counters_Start__counters_Start : FnH := ⟨[], []⟩
noncomputable def H_counters_Start : Hints := ⟨[(33, sp_counters_within_int), (34, sp_records_Inputs), (35, sp_counters_start)], [], []⟩
noncomputable def F_counters_Start (m : Nat) (a0 : Int) (a1_0n : Nat) (a1_0c : Option Nat) (a1_0 : List D) (a1_1 : Bool) (a1_2 : Bool) (a1_3 : Bool) : Option D :=
 (sp_counters_within_int [(D.v (.int .i64 a0)), (D.v (.int .i64 (1 : Int))), (D.v (.int .i64 (64 : Int)))]).bind fun d1 =>
 (rdB (some d1)).bind fun b2 =>
 cond (!b2)
 (some (D.tup [(D.agg [(D.v (.int .i64 (0 : Int))), (D.v (.int .i64 (0 : Int))), (D.v (.int .i64 (0 : Int)))]), (D.v (.int .i64 (1 : Int)))]))
 ((sp_records_Inputs [(D.agg [(D.list a1_0n a1_0c a1_0), (D.v (.bool a1_1)), (D.v (.bool a1_2)), (D.v (.bool a1_3))])]).bind fun d3 =>
 (rdI .i64 (some d3)).bind fun x4 =>
 cond (x4 != (0 : Int))
 (some (D.tup [(D.agg [(D.v (.int .i64 (0 : Int))), (D.v (.int .i64 (0 : Int))), (D.v (.int .i64 (0 : Int)))]), (D.v (.int .i64 x4))]))
 ((sp_counters_start [(D.v (.int .i64 a0)), (D.agg [(D.list a1_0n a1_0c a1_0), (D.v (.bool a1_1)), (D.v (.bool a1_2)), (D.v (.bool a1_3))])]).bind fun d5 =>
 (rdA (some d5)).bind fun c6 =>
 if (List.length c6) = 3 then
 some (D.tup [(D.agg c6), (D.v (.int .i64 (0 : Int)))])
 else none))
theorem F_counters_Start_eq (m : Nat) (a0 : Int) (a1_0n : Nat) (a1_0c : Option Nat) (a1_0 : List D) (a1_1 : Bool) (a1_2 : Bool) (a1_3 : Bool) : funD Tryz.prog H_counters_Start m 4 fh_counters_Start__counters_Start Tryz.f11 [(D.v (.int .i64 a0)), (D.agg [(D.list a1_0n a1_0c a1_0), (D.v (.bool a1_1)), (D.v (.bool a1_2)), (D.v (.bool a1_3))])] = F_counters_Start m a0 a1_0n a1_0c a1_0 a1_1 a1_2 a1_3 := by kernel_rfl
theorem en_counters_Start : Enters Tryz.prog 11 := ⟨Tryz.f11, Tryz.func11, by kernel_rfl, by kernel_rfl⟩
theorem dt_counters_Start {ds : List D} {d : D} (h : funD Tryz.prog H_counters_Start M 4 fh_counters_Start__counters_Start Tryz.f11 ds = some d) : DataSem Tryz.prog 11 ds d := data_sound (H := H_counters_Start) (SpOk.cons ds_counters_within_int (SpOk.cons ds_records_Inputs (SpOk.cons ds_counters_start SpOk.nil))) mixed InlOk.nil Tryz.func11 en_counters_Start h
noncomputable def sp_counters_Start : List D → Option D
  | [.v (.int .i64 a0), .agg [.list a1_0n a1_0c a1_0, .v (.bool a1_1), .v (.bool a1_2), .v (.bool a1_3)]] => F_counters_Start M a0 a1_0n a1_0c a1_0 a1_1 a1_2 a1_3
  | _ => none
theorem ds_counters_Start : ∀ ds d, sp_counters_Start ds = some d → DataSem Tryz.prog 11 ds d := by
  intro ds d h
  unfold sp_counters_Start at h
  split at h
  · exact dt_counters_Start ((F_counters_Start_eq M _ _ _ _ _ _ _).trans h)
  · cases h

-- ('str', '"vidimus/counters.valid"')
def fh_counters_valid__counters_valid : FnH := ⟨[], []⟩
noncomputable def H_counters_valid : Hints := ⟨[(13, sp_counters_Check), (55, sp_records_Check)], [], []⟩
noncomputable def F_counters_valid (m : Nat) (a0_0 : Int) (a0_1 : Int) (a0_2 : Int) (a1_0 : Bool) (a1_1 : Bool) (a1_2n : Nat) (a1_2c : Option Nat) (a1_2 : List D) (a1_3 : Bool) (a1_4n : Nat) (a1_4c : Option Nat) (a1_4 : List D) (a1_5 : Int) (a1_6 : Int) (a1_7 : Int) : Option D :=
 (sp_counters_Check [(D.agg [(D.v (.int .i64 a0_0)), (D.v (.int .i64 a0_1)), (D.v (.int .i64 a0_2))])]).bind fun d1 =>
 (rdI .i64 (some d1)).bind fun x2 =>
 cond (x2 != (0 : Int))
 (some (D.v (.int .i64 x2)))
 ((sp_records_Check [(D.agg [(D.v (.bool a1_0)), (D.v (.bool a1_1)), (D.list a1_2n a1_2c a1_2), (D.v (.bool a1_3)), (D.list a1_4n a1_4c a1_4), (D.v (.int .i64 a1_5)), (D.v (.int .i64 a1_6)), (D.v (.int .i64 a1_7))])]).bind fun d3 =>
 (rdI .i64 (some d3)).bind fun x4 =>
 some (D.v (.int .i64 x4)))
theorem F_counters_valid_eq (m : Nat) (a0_0 : Int) (a0_1 : Int) (a0_2 : Int) (a1_0 : Bool) (a1_1 : Bool) (a1_2n : Nat) (a1_2c : Option Nat) (a1_2 : List D) (a1_3 : Bool) (a1_4n : Nat) (a1_4c : Option Nat) (a1_4 : List D) (a1_5 : Int) (a1_6 : Int) (a1_7 : Int) : funD Tryz.prog H_counters_valid m 4 fh_counters_valid__counters_valid Tryz.f48 [(D.agg [(D.v (.int .i64 a0_0)), (D.v (.int .i64 a0_1)), (D.v (.int .i64 a0_2))]), (D.agg [(D.v (.bool a1_0)), (D.v (.bool a1_1)), (D.list a1_2n a1_2c a1_2), (D.v (.bool a1_3)), (D.list a1_4n a1_4c a1_4), (D.v (.int .i64 a1_5)), (D.v (.int .i64 a1_6)), (D.v (.int .i64 a1_7))])] = F_counters_valid m a0_0 a0_1 a0_2 a1_0 a1_1 a1_2n a1_2c a1_2 a1_3 a1_4n a1_4c a1_4 a1_5 a1_6 a1_7 := by kernel_rfl
theorem en_counters_valid : Enters Tryz.prog 48 := ⟨Tryz.f48, Tryz.func48, by kernel_rfl, by kernel_rfl⟩
theorem dt_counters_valid {ds : List D} {d : D} (h : funD Tryz.prog H_counters_valid M 4 fh_counters_valid__counters_valid Tryz.f48 ds = some d) : DataSem Tryz.prog 48 ds d := data_sound (H := H_counters_valid) (SpOk.cons ds_counters_Check (SpOk.cons ds_records_Check SpOk.nil)) mixed InlOk.nil Tryz.func48 en_counters_valid h
noncomputable def sp_counters_valid : List D → Option D
  | [.agg [.v (.int .i64 a0_0), .v (.int .i64 a0_1), .v (.int .i64 a0_2)], .agg [.v (.bool a1_0), .v (.bool a1_1), .list a1_2n a1_2c a1_2, .v (.bool a1_3), .list a1_4n a1_4c a1_4, .v (.int .i64 a1_5), .v (.int .i64 a1_6), .v (.int .i64 a1_7)]] => F_counters_valid M a0_0 a0_1 a0_2 a1_0 a1_1 a1_2n a1_2c a1_2 a1_3 a1_4n a1_4c a1_4 a1_5 a1_6 a1_7
  | _ => none
theorem ds_counters_valid : ∀ ds d, sp_counters_valid ds = some d → DataSem Tryz.prog 48 ds d := by
  intro ds d h
  unfold sp_counters_valid at h
  split at h
  · exact dt_counters_valid ((F_counters_valid_eq M _ _ _ _ _ _ _ _ _ _ _ _ _ _ _).trans h)
  · cases h

-- ('str', '"vidimus/counters.Next"')
def fh_counters_Wrap__counters_Wrap : FnH := ⟨[], []⟩
noncomputable def H_counters_Wrap : Hints := ⟨[(42, sp_counters_wrap), (48, sp_counters_valid)], [], []⟩
noncomputable def F_counters_Wrap (m : Nat) (a0_0 : Int) (a0_1 : Int) (a0_2 : Int) (a1_0 : Bool) (a1_1 : Bool) (a1_2n : Nat) (a1_2c : Option Nat) (a1_2 : List D) (a1_3 : Bool) (a1_4n : Nat) (a1_4c : Option Nat) (a1_4 : List D) (a1_5 : Int) (a1_6 : Int) (a1_7 : Int) : Option D :=
 (sp_counters_valid [(D.agg [(D.v (.int .i64 a0_0)), (D.v (.int .i64 a0_1)), (D.v (.int .i64 a0_2))]), (D.agg [(D.v (.bool a1_0)), (D.v (.bool a1_1)), (D.list a1_2n a1_2c a1_2), (D.v (.bool a1_3)), (D.list a1_4n a1_4c a1_4), (D.v (.int .i64 a1_5)), (D.v (.int .i64 a1_6)), (D.v (.int .i64 a1_7))])]).bind fun d1 =>
 (rdI .i64 (some d1)).bind fun x2 =>
 cond (x2 != (0 : Int))
 (some (D.tup [(D.v (.int .i64 (0 : Int))), (D.v (.int .i64 x2))]))
 ((sp_counters_wrap [(D.agg [(D.v (.int .i64 a0_0)), (D.v (.int .i64 a0_1)), (D.v (.int .i64 a0_2))]), (D.agg [(D.v (.bool a1_0)), (D.v (.bool a1_1)), (D.list a1_2n a1_2c a1_2), (D.v (.bool a1_3)), (D.list a1_4n a1_4c a1_4), (D.v (.int .i64 a1_5)), (D.v (.int .i64 a1_6)), (D.v (.int .i64 a1_7))])]).bind fun d3 =>
 (rdI .i64 (some d3)).bind fun x4 =>
 some (D.tup [(D.v (.int .i64 x4)), (D.v (.int .i64 (0 : Int)))]))
theorem F_counters_Wrap_eq (m : Nat) (a0_0 : Int) (a0_1 : Int) (a0_2 : Int) (a1_0 : Bool) (a1_1 : Bool) (a1_2n : Nat) (a1_2c : Option Nat) (a1_2 : List D) (a1_3 : Bool) (a1_4n : Nat) (a1_4c : Option Nat) (a1_4 : List D) (a1_5 : Int) (a1_6 : Int) (a1_7 : Int) : funD Tryz.prog H_counters_Wrap m 4 fh_counters_Wrap__counters_Wrap Tryz.f27 [(D.agg [(D.v (.int .i64 a0_0)), (D.v (.int .i64 a0_1)), (D.v (.int .i64 a0_2))]), (D.agg [(D.v (.bool a1_0)), (D.v (.bool a1_1)), (D.list a1_2n a1_2c a1_2), (D.v (.bool a1_3)), (D.list a1_4n a1_4c a1_4), (D.v (.int .i64 a1_5)), (D.v (.int .i64 a1_6)), (D.v (.int .i64 a1_7))])] = F_counters_Wrap m a0_0 a0_1 a0_2 a1_0 a1_1 a1_2n a1_2c a1_2 a1_3 a1_4n a1_4c a1_4 a1_5 a1_6 a1_7 := by kernel_rfl
theorem en_counters_Wrap : Enters Tryz.prog 27 := ⟨Tryz.f27, Tryz.func27, by kernel_rfl, by kernel_rfl⟩
theorem dt_counters_Wrap {ds : List D} {d : D} (h : funD Tryz.prog H_counters_Wrap M 4 fh_counters_Wrap__counters_Wrap Tryz.f27 ds = some d) : DataSem Tryz.prog 27 ds d := data_sound (H := H_counters_Wrap) (SpOk.cons ds_counters_wrap (SpOk.cons ds_counters_valid SpOk.nil)) mixed InlOk.nil Tryz.func27 en_counters_Wrap h
noncomputable def sp_counters_Wrap : List D → Option D
  | [.agg [.v (.int .i64 a0_0), .v (.int .i64 a0_1), .v (.int .i64 a0_2)], .agg [.v (.bool a1_0), .v (.bool a1_1), .list a1_2n a1_2c a1_2, .v (.bool a1_3), .list a1_4n a1_4c a1_4, .v (.int .i64 a1_5), .v (.int .i64 a1_6), .v (.int .i64 a1_7)]] => F_counters_Wrap M a0_0 a0_1 a0_2 a1_0 a1_1 a1_2n a1_2c a1_2 a1_3 a1_4n a1_4c a1_4 a1_5 a1_6 a1_7
  | _ => none
theorem ds_counters_Wrap : ∀ ds d, sp_counters_Wrap ds = some d → DataSem Tryz.prog 27 ds d := by
  intro ds d h
  unfold sp_counters_Wrap at h
  split at h
  · exact dt_counters_Wrap ((F_counters_Wrap_eq M _ _ _ _ _ _ _ _ _ _ _ _ _ _ _).trans h)
  · cases h

-- ('str', '"vidimus/counters.chain"')
def fh_counters_chain__counters_chain : FnH := ⟨[], []⟩
noncomputable def H_counters_chain : Hints := ⟨[(34, sp_records_Inputs), (53, sp_records_Chain)], [], []⟩
noncomputable def F_counters_chain (m : Nat) (a0n : Nat) (a0c : Option Nat) (a0 : List D) (a1_0n : Nat) (a1_0c : Option Nat) (a1_0 : List D) (a1_1 : Bool) (a1_2 : Bool) (a1_3 : Bool) : Option D :=
 (sp_records_Chain [(D.list a0n a0c a0)]).bind fun d1 =>
 (rdI .i64 (some d1)).bind fun x2 =>
 cond (x2 != (0 : Int))
 (some (D.v (.int .i64 x2)))
 ((sp_records_Inputs [(D.agg [(D.list a1_0n a1_0c a1_0), (D.v (.bool a1_1)), (D.v (.bool a1_2)), (D.v (.bool a1_3))])]).bind fun d3 =>
 (rdI .i64 (some d3)).bind fun x4 =>
 some (D.v (.int .i64 x4)))
theorem F_counters_chain_eq (m : Nat) (a0n : Nat) (a0c : Option Nat) (a0 : List D) (a1_0n : Nat) (a1_0c : Option Nat) (a1_0 : List D) (a1_1 : Bool) (a1_2 : Bool) (a1_3 : Bool) : funD Tryz.prog H_counters_chain m 4 fh_counters_chain__counters_chain Tryz.f40 [(D.list a0n a0c a0), (D.agg [(D.list a1_0n a1_0c a1_0), (D.v (.bool a1_1)), (D.v (.bool a1_2)), (D.v (.bool a1_3))])] = F_counters_chain m a0n a0c a0 a1_0n a1_0c a1_0 a1_1 a1_2 a1_3 := by kernel_rfl
theorem en_counters_chain : Enters Tryz.prog 40 := ⟨Tryz.f40, Tryz.func40, by kernel_rfl, by kernel_rfl⟩
theorem dt_counters_chain {ds : List D} {d : D} (h : funD Tryz.prog H_counters_chain M 4 fh_counters_chain__counters_chain Tryz.f40 ds = some d) : DataSem Tryz.prog 40 ds d := data_sound (H := H_counters_chain) (SpOk.cons ds_records_Inputs (SpOk.cons ds_records_Chain SpOk.nil)) mixed InlOk.nil Tryz.func40 en_counters_chain h
noncomputable def sp_counters_chain : List D → Option D
  | [.list a0n a0c a0, .agg [.list a1_0n a1_0c a1_0, .v (.bool a1_1), .v (.bool a1_2), .v (.bool a1_3)]] => F_counters_chain M a0n a0c a0 a1_0n a1_0c a1_0 a1_1 a1_2 a1_3
  | _ => none
theorem ds_counters_chain : ∀ ds d, sp_counters_chain ds = some d → DataSem Tryz.prog 40 ds d := by
  intro ds d h
  unfold sp_counters_chain at h
  split at h
  · exact dt_counters_chain ((F_counters_chain_eq M _ _ _ _ _ _ _ _ _).trans h)
  · cases h

-- ('str', '"vidimus/counters.All"')
def fh_counters_All__counters_All : FnH := ⟨[(6, ⟨[false, false, false, false, true, true, false, true, false, false, false, false, false, false, false, false, false, false, false, false, false, false, false, false, false, false, false, false, false], [], none⟩)], [(9, ⟨[false, false, false, false, false, false, false, true, false, false, false, false, false, false, false, false, false, false, false, false, false, false, false, false, false, false, false, false, false], [], (some 3)⟩)]⟩
def fh_counters_All__counters_before : FnH := ⟨[], []⟩
def fh_counters_All__counters_before_1 : FnH := ⟨[(2, ⟨[true, false, false, false, true, false, false, false, false, false, false, true, true, true, false, false, false, false, false, false, false, false, false, false, false, false, false], [], (some 1)⟩)], []⟩
noncomputable def H_counters_All : Hints := ⟨[(35, sp_counters_start), (40, sp_counters_chain), (49, sp_counters_next)], [(41, Tryz.f41, fh_counters_All__counters_before), (54, Tryz.f54, fh_counters_All__counters_before_1)], []⟩
noncomputable def F_counters_All_counters_before_1_2 (m n0 : Nat) (y0_0 : Nat) (y0_1 : Option Nat) (y0_2 : List D) (y0_3 : Int) (y0_4 : Int) (y0_5 : Nat) (y0_6 : Option Nat) (y0_7 : List D) (y0_8 : Bool) (y0_9 : Bool) (y0_10 : Bool) (y0_11 : Nat) (y0_12 : List D) (y0_13 : Nat) (y0_14 : List D) : Option D :=
 loopIter [true, false, false, false, true, false, false, false, false, false, false, true, true, true, false, false, false, false, false, false, false, false, false, false, false, false, false] 6 7 (codeK Tryz.prog H_counters_All.sp ⟨6, [0, 1, 3, 4], true, []⟩ (inlK Tryz.prog H_counters_All m 3) m fh_counters_All__counters_before_1 (subc [1, 1, 0, 0] (bodyOf Tryz.f54))) n0 ⟨[(AV.yld 5), .junk, .junk, .junk, (AV.ptr 6 0), .junk, .junk, .junk, .junk, .junk, .junk, (AV.d (D.list y0_0 y0_1 y0_2)), (AV.d (D.v (.int .i64 y0_3))), (AV.d (D.v (.int .i64 y0_4))), .junk, .junk, .junk, .junk, .junk, .junk, .junk, .junk, .junk, .junk, .junk, .junk, .junk], [(Blk.d 4 [(D.list y0_5 y0_6 y0_7), (D.v (.bool y0_8)), (D.v (.bool y0_9)), (D.v (.bool y0_10))]), (Blk.d y0_11 y0_12), (Blk.a 1 [(AV.sl 1 0 y0_13 (some y0_13) 3)]), (Blk.d 1 [(D.list y0_0 y0_1 y0_2)]), (Blk.d 4 [(D.list y0_5 y0_6 y0_7), (D.v (.bool y0_8)), (D.v (.bool y0_9)), (D.v (.bool y0_10))]), (Blk.loop 0 none [.junk, .junk, .junk, .junk, (AV.d (D.list 0 (some 0) [])), (AV.d (D.v (.int .i64 (0 : Int)))), .junk, (AV.ptr 2 0), .junk, .junk, .junk, .junk, .junk, .junk, .junk, .junk, .junk, .junk, .junk, .junk, .junk, .junk, .junk, .junk, .junk, .junk, .junk, .junk, .junk] [22, 23] (subc [1, 1, 1, 0, 1, 0, 0] (bodyOf Tryz.f18)) (subc [1, 1, 1, 0, 1, 0, 1] (bodyOf Tryz.f18)) fh_counters_All__counters_All), (Blk.d 3 y0_14)]⟩
  (contK Tryz.prog H_counters_All.sp ⟨6, [0, 1, 3, 4], true, []⟩ (inlK Tryz.prog H_counters_All m 3) m fh_counters_All__counters_before_1 (endK Tryz.prog Tryz.f54 (endLoopK 5 29 (contK Tryz.prog H_counters_All.sp ⟨0, [], false, []⟩ (inlK Tryz.prog H_counters_All m 4) m fh_counters_All__counters_All (endK Tryz.prog Tryz.f18 (fun v L => viewK L 8 v some)) [.block 0, .code (subc [1, 1, 1, 1] (bodyOf Tryz.f18))]))) [.block 0])
noncomputable def F_counters_All_j9 (m : Nat) (u0_0 : Nat) (u0_1 : Option Nat) (u0_2 : List D) (u0_3 : Bool) (u0_4 : Bool) (u0_5 : Bool) (u0_6 : Nat) (u0_7 : List D) (u0_8 : Nat) (u0_9 : Nat) : Option D :=
 cutK m (codeK Tryz.prog H_counters_All.sp ⟨0, [], false, []⟩ (inlK Tryz.prog H_counters_All m 4) m fh_counters_All__counters_All (subc [1, 1, 1, 1] (bodyOf Tryz.f18)) ⟨[.junk, .junk, .junk, .junk, .junk, .junk, .junk, (AV.ptr 2 0), .junk, .junk, .junk, .junk, .junk, .junk, .junk, .junk, .junk, .junk, .junk, .junk, .junk, .junk, .junk, .junk, .junk, .junk, .junk, .junk, .junk], [(Blk.d 4 [(D.list u0_0 u0_1 u0_2), (D.v (.bool u0_3)), (D.v (.bool u0_4)), (D.v (.bool u0_5))]), (Blk.d u0_6 u0_7), (Blk.a 1 [(AV.sl 1 0 u0_8 (some u0_9) 3)])]⟩
  (contK Tryz.prog H_counters_All.sp ⟨0, [], false, []⟩ (inlK Tryz.prog H_counters_All m 4) m fh_counters_All__counters_All (endK Tryz.prog Tryz.f18 (fun v L => viewK L 8 v some)) []))
theorem F_counters_All_j9_e (m : Nat) (u0_0 : Nat) (u0_1 : Option Nat) (u0_2 : List D) (u0_3 : Bool) (u0_4 : Bool) (u0_5 : Bool) (u0_6 : Nat) (u0_7 : List D) (u0_8 : Nat) (u0_9 : Nat) : F_counters_All_j9 m u0_0 u0_1 u0_2 u0_3 u0_4 u0_5 u0_6 u0_7 u0_8 u0_9 =
 (if (0 + (u0_8 * 3)) ≤ u0_6 then
 some (D.tup [(D.list u0_8 (some u0_9) (cutL u0_6 u0_7 0 (u0_8 * 3))), (D.v (.int .i64 (0 : Int)))])
 else none) := (cutK_eq m _).trans (by kernel_rfl)
theorem F_counters_All_counters_before_1_2_s (m n0 : Nat) (y0_0 : Nat) (y0_1 : Option Nat) (y0_2 : List D) (y0_3 : Int) (y0_4 : Int) (y0_5 : Nat) (y0_6 : Option Nat) (y0_7 : List D) (y0_8 : Bool) (y0_9 : Bool) (y0_10 : Bool) (y0_11 : Nat) (y0_12 : List D) (y0_13 : Nat) (y0_14 : List D) : F_counters_All_counters_before_1_2 m (n0 + 1) y0_0 y0_1 y0_2 y0_3 y0_4 y0_5 y0_6 y0_7 y0_8 y0_9 y0_10 y0_11 y0_12 y0_13 y0_14 =
 (cond (decide (y0_4 < y0_3))
 (if 0 ≤ y0_4 ∧ y0_4 < ((y0_0 : Nat) : Int) then
 if (((Int.toNat y0_4) * 8) + 8) ≤ (List.length y0_2) then
 if (List.length ((List.drop ((Int.toNat y0_4) * 8) y0_2).take 8)) = 8 then
 if (List.length y0_14) = 3 then
 if 0 ≤ y0_4 ∧ y0_4 < ((y0_13 : Nat) : Int) then
 if (List.length y0_14) = 3 then
 if ((0 + ((Int.toNat y0_4) * 3)) + 3) ≤ y0_11 then
 (sp_counters_next [(D.agg y0_14), (D.agg ((List.drop ((Int.toNat y0_4) * 8) y0_2).take 8))]).bind fun d9 =>
 (rdA (some d9)).bind fun c10 =>
 if (List.length c10) = 3 then
 F_counters_All_counters_before_1_2 m n0 y0_0 y0_1 y0_2 y0_3 (IntKind.wrap .i64 (y0_4 + (1 : Int))) y0_5 y0_6 y0_7 y0_8 y0_9 y0_10 y0_11 (putL y0_11 y0_12 (0 + ((Int.toNat y0_4) * 3)) 3 y0_14) y0_13 c10
 else none
 else none
 else none
 else none
 else none
 else none
 else none
 else none)
 (F_counters_All_j9 m y0_5 y0_6 y0_7 y0_8 y0_9 y0_10 y0_11 y0_12 y0_13 y0_13)) := by kernel_rfl
noncomputable def F_counters_All (m : Nat) (a0n : Nat) (a0c : Option Nat) (a0 : List D) (a1_0n : Nat) (a1_0c : Option Nat) (a1_0 : List D) (a1_1 : Bool) (a1_2 : Bool) (a1_3 : Bool) : Option D :=
 (sp_counters_chain [(D.list a0n a0c a0), (D.agg [(D.list a1_0n a1_0c a1_0), (D.v (.bool a1_1)), (D.v (.bool a1_2)), (D.v (.bool a1_3))])]).bind fun d1 =>
 (rdI .i64 (some d1)).bind fun x2 =>
 cond (x2 != (0 : Int))
 (some (D.tup [(D.list 0 (some 0) []), (D.v (.int .i64 x2))]))
 (if 0 ≤ ((a0n : Nat) : Int) ∧ ((a0n : Nat) : Int) ≤ ((a0n : Nat) : Int) ∧ fitsRow (Int.toNat ((a0n : Nat) : Int)) 24 then
 (sp_counters_start [(D.v (.int .i64 ((a0n : Nat) : Int))), (D.agg [(D.list a1_0n a1_0c a1_0), (D.v (.bool a1_1)), (D.v (.bool a1_2)), (D.v (.bool a1_3))])]).bind fun d3 =>
 (rdA (some d3)).bind fun c4 =>
 if (List.length c4) = 3 then
 F_counters_All_counters_before_1_2 m m a0n a0c a0 ((a0n : Nat) : Int) (0 : Int) a1_0n a1_0c a1_0 a1_1 a1_2 a1_3 ((Int.toNat ((a0n : Nat) : Int)) * 3) (List.flatten (List.replicate (Int.toNat ((a0n : Nat) : Int)) [(D.v (.int .i64 (0 : Int))), (D.v (.int .i64 (0 : Int))), (D.v (.int .i64 (0 : Int)))])) (Int.toNat ((a0n : Nat) : Int)) c4
 else none
 else none)
theorem F_counters_All_eq (m : Nat) (a0n : Nat) (a0c : Option Nat) (a0 : List D) (a1_0n : Nat) (a1_0c : Option Nat) (a1_0 : List D) (a1_1 : Bool) (a1_2 : Bool) (a1_3 : Bool) : funD Tryz.prog H_counters_All m 4 fh_counters_All__counters_All Tryz.f18 [(D.list a0n a0c a0), (D.agg [(D.list a1_0n a1_0c a1_0), (D.v (.bool a1_1)), (D.v (.bool a1_2)), (D.v (.bool a1_3))])] = F_counters_All m a0n a0c a0 a1_0n a1_0c a1_0 a1_1 a1_2 a1_3 := by kernel_rfl
theorem en_counters_All : Enters Tryz.prog 18 := ⟨Tryz.f18, Tryz.func18, by kernel_rfl, by kernel_rfl⟩
theorem dt_counters_All {ds : List D} {d : D} (h : funD Tryz.prog H_counters_All M 4 fh_counters_All__counters_All Tryz.f18 ds = some d) : DataSem Tryz.prog 18 ds d := data_sound (H := H_counters_All) (SpOk.cons ds_counters_start (SpOk.cons ds_counters_chain (SpOk.cons ds_counters_next SpOk.nil))) mixed (InlOk.cons Tryz.func41 en_counters_before (InlOk.cons Tryz.func54 en_counters_before_1 InlOk.nil)) Tryz.func18 en_counters_All h
noncomputable def sp_counters_All : List D → Option D
  | [.list a0n a0c a0, .agg [.list a1_0n a1_0c a1_0, .v (.bool a1_1), .v (.bool a1_2), .v (.bool a1_3)]] => F_counters_All M a0n a0c a0 a1_0n a1_0c a1_0 a1_1 a1_2 a1_3
  | _ => none
theorem ds_counters_All : ∀ ds d, sp_counters_All ds = some d → DataSem Tryz.prog 18 ds d := by
  intro ds d h
  unfold sp_counters_All at h
  split at h
  · exact dt_counters_All ((F_counters_All_eq M _ _ _ _ _ _ _ _ _).trans h)
  · cases h

-- ('str', '"vidimus/counters.Final"')
def fh_counters_Final__counters_Final : FnH := ⟨[(6, ⟨[false, false, true, false, true, true, false, true, false, false, false, false, false, false, false, false, false, false, false, false, false, false, false, false, false, false, false, false], [], none⟩)], [(9, ⟨[false, false, false, false, false, false, false, true, false, false, false, false, false, false, false, false, false, false, false, false, false, false, false, false, false, false, false, false], [], (some 3)⟩)]⟩
def fh_counters_Final__counters_before : FnH := ⟨[], []⟩
def fh_counters_Final__counters_before_1 : FnH := ⟨[(2, ⟨[true, false, false, false, true, false, false, false, false, false, false, true, true, true, false, false, false, false, false, false, false, false, false, false, false, false, false], [], (some 1)⟩)], []⟩
noncomputable def H_counters_Final : Hints := ⟨[(35, sp_counters_start), (40, sp_counters_chain), (42, sp_counters_wrap), (49, sp_counters_next)], [(41, Tryz.f41, fh_counters_Final__counters_before), (54, Tryz.f54, fh_counters_Final__counters_before_1)], []⟩
noncomputable def F_counters_Final_counters_before_1_2 (m n0 : Nat) (y0_0 : Nat) (y0_1 : Option Nat) (y0_2 : List D) (y0_3 : Int) (y0_4 : Int) (y0_5 : Nat) (y0_6 : Option Nat) (y0_7 : List D) (y0_8 : Bool) (y0_9 : Bool) (y0_10 : Bool) (y0_11 : Int) (y0_12 : List D) : Option D :=
 loopIter [true, false, false, false, true, false, false, false, false, false, false, true, true, true, false, false, false, false, false, false, false, false, false, false, false, false, false] 6 7 (codeK Tryz.prog H_counters_Final.sp ⟨6, [0, 1, 2, 3, 4], true, []⟩ (inlK Tryz.prog H_counters_Final m 3) m fh_counters_Final__counters_before_1 (subc [1, 1, 0, 0] (bodyOf Tryz.f54))) n0 ⟨[(AV.yld 5), .junk, .junk, .junk, (AV.ptr 6 0), .junk, .junk, .junk, .junk, .junk, .junk, (AV.d (D.list y0_0 y0_1 y0_2)), (AV.d (D.v (.int .i64 y0_3))), (AV.d (D.v (.int .i64 y0_4))), .junk, .junk, .junk, .junk, .junk, .junk, .junk, .junk, .junk, .junk, .junk, .junk, .junk], [(Blk.d 1 [(D.list y0_0 y0_1 y0_2)]), (Blk.d 4 [(D.list y0_5 y0_6 y0_7), (D.v (.bool y0_8)), (D.v (.bool y0_9)), (D.v (.bool y0_10))]), (Blk.d 1 [(D.v (.int .i64 y0_11))]), (Blk.d 1 [(D.list y0_0 y0_1 y0_2)]), (Blk.d 4 [(D.list y0_5 y0_6 y0_7), (D.v (.bool y0_8)), (D.v (.bool y0_9)), (D.v (.bool y0_10))]), (Blk.loop 0 none [.junk, .junk, (AV.ptr 0 0), .junk, (AV.d (D.v (.int .i64 (0 : Int)))), (AV.d (D.v (.int .i64 (0 : Int)))), .junk, (AV.ptr 2 0), .junk, .junk, .junk, .junk, .junk, .junk, .junk, .junk, .junk, .junk, .junk, .junk, .junk, .junk, .junk, .junk, .junk, .junk, .junk, .junk] [19, 20] (subc [1, 1, 1, 0, 1, 0, 0] (bodyOf Tryz.f19)) (subc [1, 1, 1, 0, 1, 0, 1] (bodyOf Tryz.f19)) fh_counters_Final__counters_Final), (Blk.d 3 y0_12)]⟩
  (contK Tryz.prog H_counters_Final.sp ⟨6, [0, 1, 2, 3, 4], true, []⟩ (inlK Tryz.prog H_counters_Final m 3) m fh_counters_Final__counters_before_1 (endK Tryz.prog Tryz.f54 (endLoopK 5 28 (contK Tryz.prog H_counters_Final.sp ⟨0, [], false, []⟩ (inlK Tryz.prog H_counters_Final m 4) m fh_counters_Final__counters_Final (endK Tryz.prog Tryz.f19 (fun v L => viewK L 8 v some)) [.block 0, .code (subc [1, 1, 1, 1] (bodyOf Tryz.f19))]))) [.block 0])
noncomputable def F_counters_Final (m : Nat) (a0n : Nat) (a0c : Option Nat) (a0 : List D) (a1_0n : Nat) (a1_0c : Option Nat) (a1_0 : List D) (a1_1 : Bool) (a1_2 : Bool) (a1_3 : Bool) : Option D :=
 (sp_counters_chain [(D.list a0n a0c a0), (D.agg [(D.list a1_0n a1_0c a1_0), (D.v (.bool a1_1)), (D.v (.bool a1_2)), (D.v (.bool a1_3))])]).bind fun d1 =>
 (rdI .i64 (some d1)).bind fun x2 =>
 cond (x2 != (0 : Int))
 (some (D.tup [(D.v (.int .i64 (0 : Int))), (D.v (.int .i64 x2))]))
 ((sp_counters_start [(D.v (.int .i64 ((a0n : Nat) : Int))), (D.agg [(D.list a1_0n a1_0c a1_0), (D.v (.bool a1_1)), (D.v (.bool a1_2)), (D.v (.bool a1_3))])]).bind fun d3 =>
 (rdA (some d3)).bind fun c4 =>
 if (List.length c4) = 3 then
 F_counters_Final_counters_before_1_2 m m a0n a0c a0 ((a0n : Nat) : Int) (0 : Int) a1_0n a1_0c a1_0 a1_1 a1_2 a1_3 (0 : Int) c4
 else none)
theorem F_counters_Final_eq (m : Nat) (a0n : Nat) (a0c : Option Nat) (a0 : List D) (a1_0n : Nat) (a1_0c : Option Nat) (a1_0 : List D) (a1_1 : Bool) (a1_2 : Bool) (a1_3 : Bool) : funD Tryz.prog H_counters_Final m 4 fh_counters_Final__counters_Final Tryz.f19 [(D.list a0n a0c a0), (D.agg [(D.list a1_0n a1_0c a1_0), (D.v (.bool a1_1)), (D.v (.bool a1_2)), (D.v (.bool a1_3))])] = F_counters_Final m a0n a0c a0 a1_0n a1_0c a1_0 a1_1 a1_2 a1_3 := by kernel_rfl
theorem en_counters_Final : Enters Tryz.prog 19 := ⟨Tryz.f19, Tryz.func19, by kernel_rfl, by kernel_rfl⟩
theorem dt_counters_Final {ds : List D} {d : D} (h : funD Tryz.prog H_counters_Final M 4 fh_counters_Final__counters_Final Tryz.f19 ds = some d) : DataSem Tryz.prog 19 ds d := data_sound (H := H_counters_Final) (SpOk.cons ds_counters_start (SpOk.cons ds_counters_chain (SpOk.cons ds_counters_wrap (SpOk.cons ds_counters_next SpOk.nil)))) mixed (InlOk.cons Tryz.func41 en_counters_before (InlOk.cons Tryz.func54 en_counters_before_1 InlOk.nil)) Tryz.func19 en_counters_Final h
noncomputable def sp_counters_Final : List D → Option D
  | [.list a0n a0c a0, .agg [.list a1_0n a1_0c a1_0, .v (.bool a1_1), .v (.bool a1_2), .v (.bool a1_3)]] => F_counters_Final M a0n a0c a0 a1_0n a1_0c a1_0 a1_1 a1_2 a1_3
  | _ => none
theorem ds_counters_Final : ∀ ds d, sp_counters_Final ds = some d → DataSem Tryz.prog 19 ds d := by
  intro ds d h
  unfold sp_counters_Final at h
  split at h
  · exact dt_counters_Final ((F_counters_Final_eq M _ _ _ _ _ _ _ _ _).trans h)
  · cases h

-- ('str', '"vidimus/counters.Zero"')
def fh_counters_Zero__counters_Zero : FnH := ⟨[(7, ⟨[false, false, false, false, true, true, true, true, false, false, false, false, false, false, false, false, false, false, false, false, false, false, false, false, false, false, false, false, false, false, false, false, false, false, false, false, false, false, false, false, false, false, false, false, false, false], [], none⟩)], [(13, ⟨[false, false, false, false, true, true, true, false, false, false, false, false, false, false, false, false, false, false, false, false, false, false, false, false, false, false, false, false, false, false, false, false, false, false, false, false, false, false, false, false, false, false, false, false, false, false], [], (some 4)⟩)]⟩
def fh_counters_Zero__counters_before : FnH := ⟨[], []⟩
def fh_counters_Zero__counters_before_1 : FnH := ⟨[(2, ⟨[true, false, false, false, true, false, false, false, false, false, false, true, true, true, false, false, false, false, false, false, false, false, false, false, false, false, false], [], (some 1)⟩)], []⟩
def fh_counters_Zero__counters_Zero_1 : FnH := ⟨[], []⟩
noncomputable def H_counters_Zero : Hints := ⟨[(35, sp_counters_start), (40, sp_counters_chain), (49, sp_counters_next)], [(41, Tryz.f41, fh_counters_Zero__counters_before), (54, Tryz.f54, fh_counters_Zero__counters_before_1), (43, Tryz.f43, fh_counters_Zero__counters_Zero_1)], []⟩
noncomputable def F_counters_Zero_counters_before_1_2 (m n0 : Nat) (y0_0 : Nat) (y0_1 : Option Nat) (y0_2 : List D) (y0_3 : Int) (y0_4 : Int) (y0_5 : Nat) (y0_6 : Option Nat) (y0_7 : List D) (y0_8 : Bool) (y0_9 : Bool) (y0_10 : Bool) (y0_11 : Int) (y0_12 : Int) (y0_13 : Int) (y0_14 : List D) : Option D :=
 loopIter [true, false, false, false, true, false, false, false, false, false, false, true, true, true, false, false, false, false, false, false, false, false, false, false, false, false, false] 7 8 (codeK Tryz.prog H_counters_Zero.sp ⟨7, [0, 1, 2, 3, 4, 5], true, []⟩ (inlK Tryz.prog H_counters_Zero m 3) m fh_counters_Zero__counters_before_1 (subc [1, 1, 0, 0] (bodyOf Tryz.f54))) n0 ⟨[(AV.yld 6), .junk, .junk, .junk, (AV.ptr 7 0), .junk, .junk, .junk, .junk, .junk, .junk, (AV.d (D.list y0_0 y0_1 y0_2)), (AV.d (D.v (.int .i64 y0_3))), (AV.d (D.v (.int .i64 y0_4))), .junk, .junk, .junk, .junk, .junk, .junk, .junk, .junk, .junk, .junk, .junk, .junk, .junk], [(Blk.d 4 [(D.list y0_5 y0_6 y0_7), (D.v (.bool y0_8)), (D.v (.bool y0_9)), (D.v (.bool y0_10))]), (Blk.d 1 [(D.v (.int .i64 y0_11))]), (Blk.d 1 [(D.v (.int .i64 y0_12))]), (Blk.d 1 [(D.v (.int .i64 y0_13))]), (Blk.d 1 [(D.list y0_0 y0_1 y0_2)]), (Blk.d 4 [(D.list y0_5 y0_6 y0_7), (D.v (.bool y0_8)), (D.v (.bool y0_9)), (D.v (.bool y0_10))]), (Blk.loop 0 none [.junk, .junk, .junk, .junk, (AV.ptr 1 0), (AV.ptr 2 0), (AV.ptr 3 0), (AV.d (D.v (.int .i64 (0 : Int)))), .junk, .junk, .junk, .junk, .junk, .junk, .junk, .junk, .junk, .junk, .junk, .junk, .junk, .junk, .junk, .junk, .junk, .junk, .junk, .junk, .junk, .junk, .junk, .junk, .junk, .junk, .junk, .junk, .junk, .junk, .junk, .junk, .junk, .junk, .junk, .junk, .junk, .junk] [28, 29] (subc [1, 1, 1, 1, 0, 1, 0, 0] (bodyOf Tryz.f23)) (subc [1, 1, 1, 1, 0, 1, 0, 1] (bodyOf Tryz.f23)) fh_counters_Zero__counters_Zero), (Blk.d 3 y0_14)]⟩
  (contK Tryz.prog H_counters_Zero.sp ⟨7, [0, 1, 2, 3, 4, 5], true, []⟩ (inlK Tryz.prog H_counters_Zero m 3) m fh_counters_Zero__counters_before_1 (endK Tryz.prog Tryz.f54 (endLoopK 6 46 (contK Tryz.prog H_counters_Zero.sp ⟨0, [], false, []⟩ (inlK Tryz.prog H_counters_Zero m 4) m fh_counters_Zero__counters_Zero (endK Tryz.prog Tryz.f23 (fun v L => viewK L 8 v some)) [.block 0, .code (subc [1, 1, 1, 1, 1] (bodyOf Tryz.f23))]))) [.block 0])
noncomputable def F_counters_Zero (m : Nat) (a0n : Nat) (a0c : Option Nat) (a0 : List D) (a1_0n : Nat) (a1_0c : Option Nat) (a1_0 : List D) (a1_1 : Bool) (a1_2 : Bool) (a1_3 : Bool) : Option D :=
 (sp_counters_chain [(D.list a0n a0c a0), (D.agg [(D.list a1_0n a1_0c a1_0), (D.v (.bool a1_1)), (D.v (.bool a1_2)), (D.v (.bool a1_3))])]).bind fun d1 =>
 (rdI .i64 (some d1)).bind fun x2 =>
 cond (x2 != (0 : Int))
 (some (D.tup [(D.v (.int .i64 (0 : Int))), (D.v (.int .i64 (0 : Int))), (D.v (.int .i64 (0 : Int))), (D.v (.int .i64 x2))]))
 ((sp_counters_start [(D.v (.int .i64 ((a0n : Nat) : Int))), (D.agg [(D.list a1_0n a1_0c a1_0), (D.v (.bool a1_1)), (D.v (.bool a1_2)), (D.v (.bool a1_3))])]).bind fun d3 =>
 (rdA (some d3)).bind fun c4 =>
 if (List.length c4) = 3 then
 F_counters_Zero_counters_before_1_2 m m a0n a0c a0 ((a0n : Nat) : Int) (0 : Int) a1_0n a1_0c a1_0 a1_1 a1_2 a1_3 (IntKind.wrap .i64 (((a0n : Nat) : Int) + (1 : Int))) (IntKind.wrap .i64 (((a0n : Nat) : Int) + (1 : Int))) (IntKind.wrap .i64 (((a0n : Nat) : Int) + (1 : Int))) c4
 else none)
theorem F_counters_Zero_eq (m : Nat) (a0n : Nat) (a0c : Option Nat) (a0 : List D) (a1_0n : Nat) (a1_0c : Option Nat) (a1_0 : List D) (a1_1 : Bool) (a1_2 : Bool) (a1_3 : Bool) : funD Tryz.prog H_counters_Zero m 4 fh_counters_Zero__counters_Zero Tryz.f23 [(D.list a0n a0c a0), (D.agg [(D.list a1_0n a1_0c a1_0), (D.v (.bool a1_1)), (D.v (.bool a1_2)), (D.v (.bool a1_3))])] = F_counters_Zero m a0n a0c a0 a1_0n a1_0c a1_0 a1_1 a1_2 a1_3 := by kernel_rfl
theorem en_counters_Zero : Enters Tryz.prog 23 := ⟨Tryz.f23, Tryz.func23, by kernel_rfl, by kernel_rfl⟩
theorem dt_counters_Zero {ds : List D} {d : D} (h : funD Tryz.prog H_counters_Zero M 4 fh_counters_Zero__counters_Zero Tryz.f23 ds = some d) : DataSem Tryz.prog 23 ds d := data_sound (H := H_counters_Zero) (SpOk.cons ds_counters_start (SpOk.cons ds_counters_chain (SpOk.cons ds_counters_next SpOk.nil))) mixed (InlOk.cons Tryz.func41 en_counters_before (InlOk.cons Tryz.func54 en_counters_before_1 (InlOk.cons Tryz.func43 en_counters_Zero_1 InlOk.nil))) Tryz.func23 en_counters_Zero h
noncomputable def sp_counters_Zero : List D → Option D
  | [.list a0n a0c a0, .agg [.list a1_0n a1_0c a1_0, .v (.bool a1_1), .v (.bool a1_2), .v (.bool a1_3)]] => F_counters_Zero M a0n a0c a0 a1_0n a1_0c a1_0 a1_1 a1_2 a1_3
  | _ => none
theorem ds_counters_Zero : ∀ ds d, sp_counters_Zero ds = some d → DataSem Tryz.prog 23 ds d := by
  intro ds d h
  unfold sp_counters_Zero at h
  split at h
  · exact dt_counters_Zero ((F_counters_Zero_eq M _ _ _ _ _ _ _ _ _).trans h)
  · cases h

-- ('str', '"vidimus/vidimusref24.Start"')
def fh_ref24_Start__ref24_Start : FnH := ⟨[], [(4, ⟨[false, false, false, true, true, true, false, false, false, false, false, false, false, false, false, false, false, false, false, false, false, false, false], [], (some 3)⟩), (6, ⟨[false, false, false, true, true, true, false, false, false, false, false, false, false, false, false, false, false, false, false, false, false, false, false], [], (some 3)⟩)]⟩
noncomputable def H_ref24_Start : Hints := ⟨[], [], []⟩
noncomputable def F_ref24_Start_j4 (m : Nat) (u0_0 : Nat) (u0_1 : Option Nat) (u0_2 : List D) (u0_3 : Bool) (u0_4 : Bool) (u0_5 : Bool) (u0_6 : Int) (u0_7 : Int) (u0_8 : Int) (u0_9 : Int) (u0_10 : Int) (u0_11 : Int) : Option D :=
 cutK m (codeK Tryz.prog H_ref24_Start.sp ⟨0, [], false, []⟩ (inlK Tryz.prog H_ref24_Start m 4) m fh_ref24_Start__ref24_Start (subc [1, 1, 1] (bodyOf Tryz.f16)) ⟨[.junk, .junk, .junk, (AV.ptr 0 0), (AV.ptr 1 0), (AV.ptr 2 0), .junk, .junk, .junk, .junk, .junk, .junk, .junk, .junk, .junk, .junk, .junk, .junk, .junk, .junk, .junk, .junk, .junk], [(Blk.d 4 [(D.list u0_0 u0_1 u0_2), (D.v (.bool u0_3)), (D.v (.bool u0_4)), (D.v (.bool u0_5))]), (Blk.d 3 [(D.v (.int .i64 u0_6)), (D.v (.int .i64 u0_7)), (D.v (.int .i64 u0_8))]), (Blk.d 3 [(D.v (.int .i64 u0_9)), (D.v (.int .i64 u0_10)), (D.v (.int .i64 u0_11))])]⟩
  (contK Tryz.prog H_ref24_Start.sp ⟨0, [], false, []⟩ (inlK Tryz.prog H_ref24_Start m 4) m fh_ref24_Start__ref24_Start (endK Tryz.prog Tryz.f16 (fun v L => viewK L 8 v some)) []))
noncomputable def F_ref24_Start_j6 (m : Nat) (u1_0 : Nat) (u1_1 : Option Nat) (u1_2 : List D) (u1_3 : Bool) (u1_4 : Bool) (u1_5 : Bool) (u1_6 : Int) (u1_7 : Int) (u1_8 : Int) (u1_9 : Int) (u1_10 : Int) (u1_11 : Int) : Option D :=
 cutK m (codeK Tryz.prog H_ref24_Start.sp ⟨0, [], false, []⟩ (inlK Tryz.prog H_ref24_Start m 4) m fh_ref24_Start__ref24_Start (subc [1, 1, 1, 1] (bodyOf Tryz.f16)) ⟨[.junk, .junk, .junk, (AV.ptr 0 0), (AV.ptr 1 0), (AV.ptr 2 0), .junk, .junk, .junk, .junk, .junk, .junk, .junk, .junk, .junk, .junk, .junk, .junk, .junk, .junk, .junk, .junk, .junk], [(Blk.d 4 [(D.list u1_0 u1_1 u1_2), (D.v (.bool u1_3)), (D.v (.bool u1_4)), (D.v (.bool u1_5))]), (Blk.d 3 [(D.v (.int .i64 u1_6)), (D.v (.int .i64 u1_7)), (D.v (.int .i64 u1_8))]), (Blk.d 3 [(D.v (.int .i64 u1_9)), (D.v (.int .i64 u1_10)), (D.v (.int .i64 u1_11))])]⟩
  (contK Tryz.prog H_ref24_Start.sp ⟨0, [], false, []⟩ (inlK Tryz.prog H_ref24_Start m 4) m fh_ref24_Start__ref24_Start (endK Tryz.prog Tryz.f16 (fun v L => viewK L 8 v some)) []))
theorem F_ref24_Start_j6_e (m : Nat) (u1_0 : Nat) (u1_1 : Option Nat) (u1_2 : List D) (u1_3 : Bool) (u1_4 : Bool) (u1_5 : Bool) (u1_6 : Int) (u1_7 : Int) (u1_8 : Int) (u1_9 : Int) (u1_10 : Int) (u1_11 : Int) : F_ref24_Start_j6 m u1_0 u1_1 u1_2 u1_3 u1_4 u1_5 u1_6 u1_7 u1_8 u1_9 u1_10 u1_11 =
 (cond u1_5
 (some (D.agg [(D.v (.int .i64 u1_9)), (D.v (.int .i64 u1_10)), (D.v (.int .i64 (0 : Int)))]))
 (some (D.agg [(D.v (.int .i64 u1_9)), (D.v (.int .i64 u1_10)), (D.v (.int .i64 u1_11))]))) := (cutK_eq m _).trans (by kernel_rfl)
theorem F_ref24_Start_j4_e (m : Nat) (u0_0 : Nat) (u0_1 : Option Nat) (u0_2 : List D) (u0_3 : Bool) (u0_4 : Bool) (u0_5 : Bool) (u0_6 : Int) (u0_7 : Int) (u0_8 : Int) (u0_9 : Int) (u0_10 : Int) (u0_11 : Int) : F_ref24_Start_j4 m u0_0 u0_1 u0_2 u0_3 u0_4 u0_5 u0_6 u0_7 u0_8 u0_9 u0_10 u0_11 =
 (cond u0_4
 (F_ref24_Start_j6 m u0_0 u0_1 u0_2 u0_3 u0_4 u0_5 u0_6 u0_7 u0_8 u0_9 (0 : Int) u0_11)
 (F_ref24_Start_j6 m u0_0 u0_1 u0_2 u0_3 u0_4 u0_5 u0_6 u0_7 u0_8 u0_9 u0_10 u0_11)) := (cutK_eq m _).trans (by kernel_rfl)
noncomputable def F_ref24_Start (m : Nat) (a0 : Int) (a1_0n : Nat) (a1_0c : Option Nat) (a1_0 : List D) (a1_1 : Bool) (a1_2 : Bool) (a1_3 : Bool) : Option D :=
 cond a1_1
 (F_ref24_Start_j4 m a1_0n a1_0c a1_0 a1_1 a1_2 a1_3 (0 : Int) (0 : Int) (0 : Int) (0 : Int) (IntKind.wrap .i64 (a0 + (1 : Int))) (IntKind.wrap .i64 (a0 + (1 : Int))))
 (F_ref24_Start_j4 m a1_0n a1_0c a1_0 a1_1 a1_2 a1_3 (0 : Int) (0 : Int) (0 : Int) (IntKind.wrap .i64 (a0 + (1 : Int))) (IntKind.wrap .i64 (a0 + (1 : Int))) (IntKind.wrap .i64 (a0 + (1 : Int))))
theorem F_ref24_Start_eq (m : Nat) (a0 : Int) (a1_0n : Nat) (a1_0c : Option Nat) (a1_0 : List D) (a1_1 : Bool) (a1_2 : Bool) (a1_3 : Bool) : funD Tryz.prog H_ref24_Start m 4 fh_ref24_Start__ref24_Start Tryz.f16 [(D.v (.int .i64 a0)), (D.agg [(D.list a1_0n a1_0c a1_0), (D.v (.bool a1_1)), (D.v (.bool a1_2)), (D.v (.bool a1_3))])] = F_ref24_Start m a0 a1_0n a1_0c a1_0 a1_1 a1_2 a1_3 := by kernel_rfl
theorem en_ref24_Start : Enters Tryz.prog 16 := ⟨Tryz.f16, Tryz.func16, by kernel_rfl, by kernel_rfl⟩
theorem dt_ref24_Start {ds : List D} {d : D} (h : funD Tryz.prog H_ref24_Start M 4 fh_ref24_Start__ref24_Start Tryz.f16 ds = some d) : DataSem Tryz.prog 16 ds d := data_sound (H := H_ref24_Start) SpOk.nil mixed InlOk.nil Tryz.func16 en_ref24_Start h
noncomputable def sp_ref24_Start : List D → Option D
  | [.v (.int .i64 a0), .agg [.list a1_0n a1_0c a1_0, .v (.bool a1_1), .v (.bool a1_2), .v (.bool a1_3)]] => F_ref24_Start M a0 a1_0n a1_0c a1_0 a1_1 a1_2 a1_3
  | _ => none
theorem ds_ref24_Start : ∀ ds d, sp_ref24_Start ds = some d → DataSem Tryz.prog 16 ds d := by
  intro ds d h
  unfold sp_ref24_Start at h
  split at h
  · exact dt_ref24_Start ((F_ref24_Start_eq M _ _ _ _ _ _ _).trans h)
  · cases h

-- ('str', '"vidimus/vidimusref24.Next"')
end Go.Ev
