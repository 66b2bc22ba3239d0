/- Functions of the given program in plain form, printed: each with the proof that it is what the evaluator comes to, and that the program function returns what it says. No conditions. -/
import Derived.Test.YtjgpddbebgndbaaGreatDoorEzG3
set_option linter.unusedVariables false
set_option maxRecDepth 100000
namespace Go.Ev
open Go Go.Proofs

-- ('str', '"vidimus/vidimuslaw24.check"')
def fh_law24_check__law24_check : FnH := ⟨[], []⟩
noncomputable def H_law24_check : Hints := ⟨[], [], []⟩
noncomputable def F_law24_check (m : Nat) (a0_0 : Int) (a0_1 : Int) (a0_2 : Int) : Option D :=
 cond (decide (a0_0 < (0 : Int)))
 (some (D.v (.int .i64 (1 : Int))))
 (cond (decide (a0_0 > (65 : Int)))
 (some (D.v (.int .i64 (1 : Int))))
 (cond (decide (a0_1 < (0 : Int)))
 (some (D.v (.int .i64 (1 : Int))))
 (cond (decide (a0_1 > (65 : Int)))
 (some (D.v (.int .i64 (1 : Int))))
 (cond (decide (a0_2 < (0 : Int)))
 (some (D.v (.int .i64 (1 : Int))))
 (cond (decide (a0_2 > (65 : Int)))
 (some (D.v (.int .i64 (1 : Int))))
 (some (D.v (.int .i64 (0 : Int)))))))))
theorem F_law24_check_eq (m : Nat) (a0_0 : Int) (a0_1 : Int) (a0_2 : Int) : funD Tryz.prog H_law24_check m 4 fh_law24_check__law24_check Tryz.f14 [(D.agg [(D.v (.int .i64 a0_0)), (D.v (.int .i64 a0_1)), (D.v (.int .i64 a0_2))])] = F_law24_check m a0_0 a0_1 a0_2 := by kernel_rfl
theorem en_law24_check : Enters Tryz.prog 14 := ⟨Tryz.f14, Tryz.func14, by kernel_rfl, by kernel_rfl⟩
theorem dt_law24_check {ds : List D} {d : D} (h : funD Tryz.prog H_law24_check M 4 fh_law24_check__law24_check Tryz.f14 ds = some d) : DataSem Tryz.prog 14 ds d := data_sound (H := H_law24_check) SpOk.nil mixed InlOk.nil Tryz.func14 en_law24_check h
noncomputable def sp_law24_check : List D → Option D
  | [.agg [.v (.int .i64 a0_0), .v (.int .i64 a0_1), .v (.int .i64 a0_2)]] => F_law24_check M a0_0 a0_1 a0_2
  | _ => none
theorem ds_law24_check : ∀ ds d, sp_law24_check ds = some d → DataSem Tryz.prog 14 ds d := by
  intro ds d h
  unfold sp_law24_check at h
  split at h
  · exact dt_law24_check ((F_law24_check_eq M _ _ _).trans h)
  · cases h

-- ('str', '"vidimus/vidimuslaw24.three"')
def fh_law24_three__law24_three : FnH := ⟨[], []⟩
noncomputable def H_law24_three : Hints := ⟨[], [], []⟩
noncomputable def F_law24_three (m : Nat) (a0 : Int) (a1 : Int) (a2 : Int) : Option D :=
 some (D.agg [(D.v (.int .i64 a0)), (D.v (.int .i64 a1)), (D.v (.int .i64 a2))])
theorem F_law24_three_eq (m : Nat) (a0 : Int) (a1 : Int) (a2 : Int) : funD Tryz.prog H_law24_three m 4 fh_law24_three__law24_three Tryz.f15 [(D.v (.int .i64 a0)), (D.v (.int .i64 a1)), (D.v (.int .i64 a2))] = F_law24_three m a0 a1 a2 := by kernel_rfl
theorem en_law24_three : Enters Tryz.prog 15 := ⟨Tryz.f15, Tryz.func15, by kernel_rfl, by kernel_rfl⟩
theorem dt_law24_three {ds : List D} {d : D} (h : funD Tryz.prog H_law24_three M 4 fh_law24_three__law24_three Tryz.f15 ds = some d) : DataSem Tryz.prog 15 ds d := data_sound (H := H_law24_three) SpOk.nil mixed InlOk.nil Tryz.func15 en_law24_three h
noncomputable def sp_law24_three : List D → Option D
  | [.v (.int .i64 a0), .v (.int .i64 a1), .v (.int .i64 a2)] => F_law24_three M a0 a1 a2
  | _ => none
theorem ds_law24_three : ∀ ds d, sp_law24_three ds = some d → DataSem Tryz.prog 15 ds d := by
  intro ds d h
  unfold sp_law24_three at h
  split at h
  · exact dt_law24_three ((F_law24_three_eq M _ _ _).trans h)
  · cases h

-- ('str', '"vidimus/vidimuslaw24.empty"')
def fh_law24_empty__law24_empty : FnH := ⟨[], []⟩
noncomputable def H_law24_empty : Hints := ⟨[], [], []⟩
noncomputable def F_law24_empty (m : Nat)  : Option D :=
 some (D.agg [(D.v (.bool false)), (D.v (.bool false)), (D.list 0 (some 0) []), (D.v (.bool false)), (D.list 0 (some 0) []), (D.v (.int .i64 (-1 : Int))), (D.v (.int .i64 (-1 : Int))), (D.v (.int .i64 (-1 : Int)))])
theorem F_law24_empty_eq (m : Nat)  : funD Tryz.prog H_law24_empty m 4 fh_law24_empty__law24_empty Tryz.f24 [] = F_law24_empty m  := by kernel_rfl
theorem en_law24_empty : Enters Tryz.prog 24 := ⟨Tryz.f24, Tryz.func24, by kernel_rfl, by kernel_rfl⟩
theorem dt_law24_empty {ds : List D} {d : D} (h : funD Tryz.prog H_law24_empty M 4 fh_law24_empty__law24_empty Tryz.f24 ds = some d) : DataSem Tryz.prog 24 ds d := data_sound (H := H_law24_empty) SpOk.nil mixed InlOk.nil Tryz.func24 en_law24_empty h
noncomputable def sp_law24_empty : List D → Option D
  | [] => F_law24_empty M 
  | _ => none
theorem ds_law24_empty : ∀ ds d, sp_law24_empty ds = some d → DataSem Tryz.prog 24 ds d := by
  intro ds d h
  unfold sp_law24_empty at h
  split at h
  · exact dt_law24_empty ((F_law24_empty_eq M ).trans h)
  · cases h

-- ('str', '"vidimus/vidimuslaw24.steps"')
def fh_law24_steps__law24_steps : FnH := ⟨[], []⟩
noncomputable def H_law24_steps : Hints := ⟨[(24, sp_law24_empty)], [], []⟩
noncomputable def F_law24_steps (m : Nat)  : Option D :=
 (sp_law24_empty []).bind fun d1 =>
 (rdA (some d1)).bind fun c2 =>
 (sp_law24_empty []).bind fun d3 =>
 (rdA (some d3)).bind fun c4 =>
 (sp_law24_empty []).bind fun d5 =>
 (rdA (some d5)).bind fun c6 =>
 if (List.length c2) = 8 then
 if (List.length c4) = 8 then
 if (List.length c6) = 8 then
 some (D.list 3 (some 3) (List.set (List.set (List.set (List.set (putL 24 (putL 24 (putL 24 [(D.v (.bool false)), (D.v (.bool false)), (D.list 0 (some 0) []), (D.v (.bool false)), (D.list 0 (some 0) []), (D.v (.int .i64 (0 : Int))), (D.v (.int .i64 (0 : Int))), (D.v (.int .i64 (0 : Int))), (D.v (.bool false)), (D.v (.bool false)), (D.list 0 (some 0) []), (D.v (.bool false)), (D.list 0 (some 0) []), (D.v (.int .i64 (0 : Int))), (D.v (.int .i64 (0 : Int))), (D.v (.int .i64 (0 : Int))), (D.v (.bool false)), (D.v (.bool false)), (D.list 0 (some 0) []), (D.v (.bool false)), (D.list 0 (some 0) []), (D.v (.int .i64 (0 : Int))), (D.v (.int .i64 (0 : Int))), (D.v (.int .i64 (0 : Int)))] 0 8 c2) 8 8 c4) 16 8 c6) 5 (D.v (.int .i64 (1 : Int)))) 8 (D.v (.bool true))) 15 (D.v (.int .i64 (0 : Int)))) 21 (D.v (.int .i64 (0 : Int)))))
 else none
 else none
 else none
theorem F_law24_steps_eq (m : Nat)  : funD Tryz.prog H_law24_steps m 4 fh_law24_steps__law24_steps Tryz.f32 [] = F_law24_steps m  := by kernel_rfl
theorem en_law24_steps : Enters Tryz.prog 32 := ⟨Tryz.f32, Tryz.func32, by kernel_rfl, by kernel_rfl⟩
theorem dt_law24_steps {ds : List D} {d : D} (h : funD Tryz.prog H_law24_steps M 4 fh_law24_steps__law24_steps Tryz.f32 ds = some d) : DataSem Tryz.prog 32 ds d := data_sound (H := H_law24_steps) (SpOk.cons ds_law24_empty SpOk.nil) mixed InlOk.nil Tryz.func32 en_law24_steps h
noncomputable def sp_law24_steps : List D → Option D
  | [] => F_law24_steps M 
  | _ => none
theorem ds_law24_steps : ∀ ds d, sp_law24_steps ds = some d → DataSem Tryz.prog 32 ds d := by
  intro ds d h
  unfold sp_law24_steps at h
  split at h
  · exact dt_law24_steps ((F_law24_steps_eq M ).trans h)
  · cases h

-- ('str', '"vidimus/vidimuslaw24.lives"')
def fh_law24_lives__law24_lives : FnH := ⟨[], [(6, ⟨[false, false, false, false, false, false, false, false, false, false, false, false, false, false, false, false, false, false, false, false, false, false, false, false, false, false, false, false, false, false, false, false, false, false, false, false, false, false, false, false, false, false, false, false, false, false, false, false, false, false, false, false, false, false, false, false, false, false, false, false, false, false, false, false, false, false, false, false, false, false, false, false, false, false, false, false, false, false, false, false, false, false, false, false, false, false, false, false, false, false, false, false, false, false, false, false, false, false, false, false, false, false, false, false, false, false, false, false, false, false, false, false, false, false, false, false, false, false, false, false, false, false, false, false, false, false, false, false, false, false, false, false, false, false, false, false, false, false, false, false, false, false, false, false, false, false, false, false, false, false, false, false, false, false, false, false, false, false, false, false, false, false, false, false, false, false, false, false, false, false, false, false, false], [], (some 0)⟩), (10, ⟨[false, false, false, false, false, false, false, false, false, false, false, false, false, false, false, false, false, false, false, false, false, false, false, false, false, false, false, false, false, false, false, false, false, false, false, false, false, false, false, false, false, false, false, false, false, false, false, false, false, false, false, false, false, false, false, false, false, false, false, false, false, false, false, false, false, false, false, false, false, false, false, false, false, false, false, false, false, false, false, false, false, false, false, false, false, false, false, false, false, false, false, false, false, false, false, false, false, false, false, false, false, false, false, false, false, false, false, false, false, false, false, false, false, false, false, false, false, false, false, false, false, false, false, false, false, false, false, false, false, false, false, false, false, false, false, false, false, false, false, false, false, false, false, false, false, false, false, false, false, false, false, false, false, false, false, false, false, false, false, false, false, false, false, false, false, false, false, false, false, false, false, false, false], [], (some 0)⟩)]⟩
noncomputable def H_law24_lives : Hints := ⟨[(11, sp_counters_Start), (13, sp_counters_Check), (15, sp_law24_three), (18, sp_counters_All), (19, sp_counters_Final), (23, sp_counters_Zero), (24, sp_law24_empty), (27, sp_counters_Wrap), (32, sp_law24_steps)], [], []⟩
noncomputable def F_law24_lives_j6 (m : Nat)  : Option D :=
 cutK m (codeK Tryz.prog H_law24_lives.sp ⟨0, [], false, []⟩ (inlK Tryz.prog H_law24_lives m 4) m fh_law24_lives__law24_lives (subc [1, 1, 1, 1, 1] (bodyOf Tryz.f10)) ⟨[.junk, .junk, .junk, .junk, .junk, .junk, .junk, .junk, .junk, .junk, .junk, .junk, .junk, .junk, .junk, .junk, .junk, .junk, .junk, .junk, .junk, .junk, .junk, .junk, .junk, .junk, .junk, .junk, .junk, .junk, .junk, .junk, .junk, .junk, .junk, .junk, .junk, .junk, .junk, .junk, .junk, .junk, .junk, .junk, .junk, .junk, .junk, .junk, .junk, .junk, .junk, .junk, .junk, .junk, .junk, .junk, .junk, .junk, .junk, .junk, .junk, .junk, .junk, .junk, .junk, .junk, .junk, .junk, .junk, .junk, .junk, .junk, .junk, .junk, .junk, .junk, .junk, .junk, .junk, .junk, .junk, .junk, .junk, .junk, .junk, .junk, .junk, .junk, .junk, .junk, .junk, .junk, .junk, .junk, .junk, .junk, .junk, .junk, .junk, .junk, .junk, .junk, .junk, .junk, .junk, .junk, .junk, .junk, .junk, .junk, .junk, .junk, .junk, .junk, .junk, .junk, .junk, .junk, .junk, .junk, .junk, .junk, .junk, .junk, .junk, .junk, .junk, .junk, .junk, .junk, .junk, .junk, .junk, .junk, .junk, .junk, .junk, .junk, .junk, .junk, .junk, .junk, .junk, .junk, .junk, .junk, .junk, .junk, .junk, .junk, .junk, .junk, .junk, .junk, .junk, .junk, .junk, .junk, .junk, .junk, .junk, .junk, .junk, .junk, .junk, .junk, .junk, .junk, .junk, .junk, .junk, .junk, .junk], []⟩
  (contK Tryz.prog H_law24_lives.sp ⟨0, [], false, []⟩ (inlK Tryz.prog H_law24_lives m 4) m fh_law24_lives__law24_lives (endK Tryz.prog Tryz.f10 (fun v L => viewK L 8 v some)) []))
noncomputable def F_law24_lives_j10 (m : Nat)  : Option D :=
 cutK m (codeK Tryz.prog H_law24_lives.sp ⟨0, [], false, []⟩ (inlK Tryz.prog H_law24_lives m 4) m fh_law24_lives__law24_lives (subc [1, 1, 1, 1, 1, 1, 1, 1] (bodyOf Tryz.f10)) ⟨[.junk, .junk, .junk, .junk, .junk, .junk, .junk, .junk, .junk, .junk, .junk, .junk, .junk, .junk, .junk, .junk, .junk, .junk, .junk, .junk, .junk, .junk, .junk, .junk, .junk, .junk, .junk, .junk, .junk, .junk, .junk, .junk, .junk, .junk, .junk, .junk, .junk, .junk, .junk, .junk, .junk, .junk, .junk, .junk, .junk, .junk, .junk, .junk, .junk, .junk, .junk, .junk, .junk, .junk, .junk, .junk, .junk, .junk, .junk, .junk, .junk, .junk, .junk, .junk, .junk, .junk, .junk, .junk, .junk, .junk, .junk, .junk, .junk, .junk, .junk, .junk, .junk, .junk, .junk, .junk, .junk, .junk, .junk, .junk, .junk, .junk, .junk, .junk, .junk, .junk, .junk, .junk, .junk, .junk, .junk, .junk, .junk, .junk, .junk, .junk, .junk, .junk, .junk, .junk, .junk, .junk, .junk, .junk, .junk, .junk, .junk, .junk, .junk, .junk, .junk, .junk, .junk, .junk, .junk, .junk, .junk, .junk, .junk, .junk, .junk, .junk, .junk, .junk, .junk, .junk, .junk, .junk, .junk, .junk, .junk, .junk, .junk, .junk, .junk, .junk, .junk, .junk, .junk, .junk, .junk, .junk, .junk, .junk, .junk, .junk, .junk, .junk, .junk, .junk, .junk, .junk, .junk, .junk, .junk, .junk, .junk, .junk, .junk, .junk, .junk, .junk, .junk, .junk, .junk, .junk, .junk, .junk, .junk], []⟩
  (contK Tryz.prog H_law24_lives.sp ⟨0, [], false, []⟩ (inlK Tryz.prog H_law24_lives m 4) m fh_law24_lives__law24_lives (endK Tryz.prog Tryz.f10 (fun v L => viewK L 8 v some)) []))
theorem F_law24_lives_j10_e (m : Nat)  : F_law24_lives_j10 m  =
 ((sp_law24_empty []).bind fun d52 =>
 (rdA (some d52)).bind fun c53 =>
 if (List.length c53) = 8 then
 (sp_law24_three [(D.v (.int .i64 (1 : Int))), (D.v (.int .i64 (0 : Int))), (D.v (.int .i64 (0 : Int)))]).bind fun d54 =>
 (rdA (some d54)).bind fun c55 =>
 (sp_counters_Wrap [(D.agg c55), (D.agg (List.set c53 5 (D.v (.int .i64 (1 : Int)))))]).bind fun d56 =>
 (rdT d56).bind fun r57 =>
 if List.length r57 = 2 then
 (rdI .i64 r57[0]?).bind fun x58 =>
 (rdI .i64 r57[1]?).bind fun x59 =>
 (sp_law24_three [(D.v (.int .i64 (2 : Int))), (D.v (.int .i64 (0 : Int))), (D.v (.int .i64 (0 : Int)))]).bind fun d60 =>
 (rdA (some d60)).bind fun c61 =>
 (sp_counters_Wrap [(D.agg c61), (D.agg (List.set c53 5 (D.v (.int .i64 (1 : Int)))))]).bind fun d62 =>
 (rdT d62).bind fun r63 =>
 if List.length r63 = 2 then
 (rdI .i64 r63[0]?).bind fun x64 =>
 (rdI .i64 r63[1]?).bind fun x65 =>
 (sp_counters_Start [(D.v (.int .i64 (0 : Int))), (D.agg [(D.list 0 (some 0) []), (D.v (.bool false)), (D.v (.bool false)), (D.v (.bool false))])]).bind fun d66 =>
 (rdT d66).bind fun r67 =>
 if List.length r67 = 2 then
 (rdA r67[0]?).bind fun c68 =>
 (rdI .i64 r67[1]?).bind fun x69 =>
 cond (x59 == (0 : Int))
 (cond (x65 == (0 : Int))
 (cond (x58 == (0 : Int))
 (cond (x64 == (1 : Int))
 (cond (x69 == (1 : Int))
 ((sp_law24_three [(D.v (.int .i64 (66 : Int))), (D.v (.int .i64 (0 : Int))), (D.v (.int .i64 (0 : Int)))]).bind fun d70 =>
 (rdA (some d70)).bind fun c71 =>
 (sp_counters_Check [(D.agg c71)]).bind fun d72 =>
 (rdI .i64 (some d72)).bind fun x73 =>
 some (D.v (.bool (x73 == (1 : Int)))))
 (some (D.v (.bool false))))
 (some (D.v (.bool false))))
 (some (D.v (.bool false))))
 (some (D.v (.bool false))))
 (some (D.v (.bool false)))
 else none
 else none
 else none
 else none) := (cutK_eq m _).trans (by kernel_rfl)
theorem F_law24_lives_j6_e (m : Nat)  : F_law24_lives_j6 m  =
 ((sp_law24_steps []).bind fun d29 =>
 (rdL (some d29)).bind fun q30 =>
 (sp_counters_Zero [(D.list q30.n q30.cap q30.cs), (D.agg [(D.list 0 (some 0) []), (D.v (.bool false)), (D.v (.bool false)), (D.v (.bool false))])]).bind fun d31 =>
 (rdT d31).bind fun r32 =>
 if List.length r32 = 4 then
 (rdI .i64 r32[0]?).bind fun x33 =>
 (rdI .i64 r32[1]?).bind fun x34 =>
 (rdI .i64 r32[2]?).bind fun x35 =>
 (rdI .i64 r32[3]?).bind fun x36 =>
 (sp_law24_steps []).bind fun d37 =>
 (rdL (some d37)).bind fun q38 =>
 (sp_counters_All [(D.list q38.n q38.cap q38.cs), (D.agg [(D.list 0 (some 0) []), (D.v (.bool true)), (D.v (.bool false)), (D.v (.bool false))])]).bind fun d39 =>
 (rdT d39).bind fun r40 =>
 if List.length r40 = 2 then
 (rdL r40[0]?).bind fun q41 =>
 (rdI .i64 r40[1]?).bind fun x42 =>
 cond (x36 != (0 : Int))
 (some (D.v (.bool false)))
 (cond (x42 != (0 : Int))
 (some (D.v (.bool false)))
 (cond (x33 != (4 : Int))
 (some (D.v (.bool false)))
 (cond (x34 != (4 : Int))
 (some (D.v (.bool false)))
 (cond (x35 != (3 : Int))
 (some (D.v (.bool false)))
 (cond (((q41.n : Nat) : Int) != (3 : Int))
 (some (D.v (.bool false)))
 (if 0 ≤ (0 : Int) ∧ (0 : Int) < ((q41.n : Nat) : Int) then
 if 3 ≤ (List.length q41.cs) then
 (sp_law24_three [(D.v (.int .i64 (0 : Int))), (D.v (.int .i64 (4 : Int))), (D.v (.int .i64 (4 : Int)))]).bind fun d43 =>
 (rdA (some d43)).bind fun c44 =>
 (cellsEq [.int, .int, .int] ((List.drop 0 q41.cs).take 3) c44).bind fun b45 =>
 cond (!b45)
 (some (D.v (.bool false)))
 (if 0 ≤ (1 : Int) ∧ (1 : Int) < ((q41.n : Nat) : Int) then
 if 6 ≤ (List.length q41.cs) then
 (sp_law24_three [(D.v (.int .i64 (0 : Int))), (D.v (.int .i64 (3 : Int))), (D.v (.int .i64 (3 : Int)))]).bind fun d46 =>
 (rdA (some d46)).bind fun c47 =>
 (cellsEq [.int, .int, .int] ((List.drop 3 q41.cs).take 3) c47).bind fun b48 =>
 cond (!b48)
 (some (D.v (.bool false)))
 (if 0 ≤ (2 : Int) ∧ (2 : Int) < ((q41.n : Nat) : Int) then
 if 9 ≤ (List.length q41.cs) then
 (sp_law24_three [(D.v (.int .i64 (0 : Int))), (D.v (.int .i64 (3 : Int))), (D.v (.int .i64 (0 : Int)))]).bind fun d49 =>
 (rdA (some d49)).bind fun c50 =>
 (cellsEq [.int, .int, .int] ((List.drop 6 q41.cs).take 3) c50).bind fun b51 =>
 cond (!b51)
 (some (D.v (.bool false)))
 (F_law24_lives_j10 m )
 else none
 else none)
 else none
 else none)
 else none
 else none))))))
 else none
 else none) := (cutK_eq m _).trans (by kernel_rfl)
noncomputable def F_law24_lives (m : Nat)  : Option D :=
 (sp_counters_Start [(D.v (.int .i64 (3 : Int))), (D.agg [(D.list 0 (some 0) []), (D.v (.bool false)), (D.v (.bool false)), (D.v (.bool false))])]).bind fun d1 =>
 (rdT d1).bind fun r2 =>
 if List.length r2 = 2 then
 (rdA r2[0]?).bind fun c3 =>
 (rdI .i64 r2[1]?).bind fun x4 =>
 if (List.length c3) = 3 then
 (sp_law24_steps []).bind fun d5 =>
 (rdL (some d5)).bind fun q6 =>
 (sp_counters_All [(D.list q6.n q6.cap q6.cs), (D.agg [(D.list 0 (some 0) []), (D.v (.bool false)), (D.v (.bool false)), (D.v (.bool false))])]).bind fun d7 =>
 (rdT d7).bind fun r8 =>
 if List.length r8 = 2 then
 (rdL r8[0]?).bind fun q9 =>
 (rdI .i64 r8[1]?).bind fun x10 =>
 (sp_law24_steps []).bind fun d11 =>
 (rdL (some d11)).bind fun q12 =>
 (sp_counters_Final [(D.list q12.n q12.cap q12.cs), (D.agg [(D.list 0 (some 0) []), (D.v (.bool false)), (D.v (.bool false)), (D.v (.bool false))])]).bind fun d13 =>
 (rdT d13).bind fun r14 =>
 if List.length r14 = 2 then
 (rdI .i64 r14[0]?).bind fun x15 =>
 (rdI .i64 r14[1]?).bind fun x16 =>
 cond (x4 != (0 : Int))
 (some (D.v (.bool false)))
 (cond (x10 != (0 : Int))
 (some (D.v (.bool false)))
 (cond (x16 != (0 : Int))
 (some (D.v (.bool false)))
 ((sp_law24_three [(D.v (.int .i64 (4 : Int))), (D.v (.int .i64 (4 : Int))), (D.v (.int .i64 (4 : Int)))]).bind fun d17 =>
 (rdA (some d17)).bind fun c18 =>
 (cellsEq [.int, .int, .int] c3 c18).bind fun b19 =>
 cond (!b19)
 (some (D.v (.bool false)))
 (cond (((q9.n : Nat) : Int) != (3 : Int))
 (some (D.v (.bool false)))
 (if 0 ≤ (0 : Int) ∧ (0 : Int) < ((q9.n : Nat) : Int) then
 if 3 ≤ (List.length q9.cs) then
 (sp_law24_three [(D.v (.int .i64 (4 : Int))), (D.v (.int .i64 (4 : Int))), (D.v (.int .i64 (4 : Int)))]).bind fun d20 =>
 (rdA (some d20)).bind fun c21 =>
 (cellsEq [.int, .int, .int] ((List.drop 0 q9.cs).take 3) c21).bind fun b22 =>
 cond (!b22)
 (some (D.v (.bool false)))
 (if 0 ≤ (1 : Int) ∧ (1 : Int) < ((q9.n : Nat) : Int) then
 if 6 ≤ (List.length q9.cs) then
 (sp_law24_three [(D.v (.int .i64 (1 : Int))), (D.v (.int .i64 (3 : Int))), (D.v (.int .i64 (3 : Int)))]).bind fun d23 =>
 (rdA (some d23)).bind fun c24 =>
 (cellsEq [.int, .int, .int] ((List.drop 3 q9.cs).take 3) c24).bind fun b25 =>
 cond (!b25)
 (some (D.v (.bool false)))
 (if 0 ≤ (2 : Int) ∧ (2 : Int) < ((q9.n : Nat) : Int) then
 if 9 ≤ (List.length q9.cs) then
 (sp_law24_three [(D.v (.int .i64 (1 : Int))), (D.v (.int .i64 (3 : Int))), (D.v (.int .i64 (0 : Int)))]).bind fun d26 =>
 (rdA (some d26)).bind fun c27 =>
 (cellsEq [.int, .int, .int] ((List.drop 6 q9.cs).take 3) c27).bind fun b28 =>
 cond (!b28)
 (some (D.v (.bool false)))
 (cond (x15 != (0 : Int))
 (some (D.v (.bool false)))
 (F_law24_lives_j6 m ))
 else none
 else none)
 else none
 else none)
 else none
 else none)))))
 else none
 else none
 else none
 else none
theorem F_law24_lives_eq (m : Nat)  : funD Tryz.prog H_law24_lives m 4 fh_law24_lives__law24_lives Tryz.f10 [] = F_law24_lives m  := by kernel_rfl
theorem en_law24_lives : Enters Tryz.prog 10 := ⟨Tryz.f10, Tryz.func10, by kernel_rfl, by kernel_rfl⟩
theorem dt_law24_lives {ds : List D} {d : D} (h : funD Tryz.prog H_law24_lives M 4 fh_law24_lives__law24_lives Tryz.f10 ds = some d) : DataSem Tryz.prog 10 ds d := data_sound (H := H_law24_lives) (SpOk.cons ds_counters_Start (SpOk.cons ds_counters_Check (SpOk.cons ds_law24_three (SpOk.cons ds_counters_All (SpOk.cons ds_counters_Final (SpOk.cons ds_counters_Zero (SpOk.cons ds_law24_empty (SpOk.cons ds_counters_Wrap (SpOk.cons ds_law24_steps SpOk.nil))))))))) mixed InlOk.nil Tryz.func10 en_law24_lives h
noncomputable def sp_law24_lives : List D → Option D
  | [] => F_law24_lives M 
  | _ => none
theorem ds_law24_lives : ∀ ds d, sp_law24_lives ds = some d → DataSem Tryz.prog 10 ds d := by
  intro ds d h
  unfold sp_law24_lives at h
  split at h
  · exact dt_law24_lives ((F_law24_lives_eq M ).trans h)
  · cases h

-- ('str', '"vidimus/vidimuslaw24.CountersStart"')
def fh_law24_CountersStart__law24_CountersStart : FnH := ⟨[], [(7, ⟨[false, true, false, true, false, true, false, true, true, true, false, false, false, false, false, false, false, false, false, false, false, false, false, false, false, false, false, false, false, false, false, false, false, false, false, false, false, false, false, false, false, false, false, false, false, false, false, false, false, false, false, false, false, false, false, false], [], (some 3)⟩), (9, ⟨[false, true, false, false, false, true, false, true, false, true, false, false, false, false, false, false, false, false, false, false, false, false, false, false, false, false, false, false, false, false, false, false, false, false, false, false, false, false, false, false, false, false, false, false, false, false, false, false, false, false, false, false, false, false, false, false], [], (some 3)⟩)]⟩
noncomputable def H_law24_CountersStart : Hints := ⟨[(10, sp_law24_lives), (11, sp_counters_Start), (12, sp_ref07_Check), (13, sp_counters_Check), (14, sp_law24_check), (15, sp_law24_three), (16, sp_ref24_Start)], [], []⟩
noncomputable def F_law24_CountersStart_j7 (m : Nat) (u0_0 : Int) (u0_1 : Int) (u0_2 : Int) (u0_3 : Int) (u0_4 : Int) (u0_5 : Int) (u0_6 : Nat) (u0_7 : Option Nat) (u0_8 : List D) (u0_9 : Bool) (u0_10 : Bool) (u0_11 : Bool) (u0_12 : List D) : Option D :=
 cutK m (codeK Tryz.prog H_law24_CountersStart.sp ⟨0, [], false, []⟩ (inlK Tryz.prog H_law24_CountersStart m 4) m fh_law24_CountersStart__law24_CountersStart (subc [1, 1, 1, 1, 1] (bodyOf Tryz.f3)) ⟨[.junk, (AV.d (D.v (.int .i64 u0_0))), .junk, (AV.ptr 0 0), .junk, (AV.ptr 1 0), .junk, (AV.ptr 2 0), (AV.d (D.v (.int .i64 u0_1))), (AV.d (D.v (.int .i64 u0_2))), .junk, .junk, .junk, .junk, .junk, .junk, .junk, .junk, .junk, .junk, .junk, .junk, .junk, .junk, .junk, .junk, .junk, .junk, .junk, .junk, .junk, .junk, .junk, .junk, .junk, .junk, .junk, .junk, .junk, .junk, .junk, .junk, .junk, .junk, .junk, .junk, .junk, .junk, .junk, .junk, .junk, .junk, .junk, .junk, .junk, .junk], [(Blk.d 3 [(D.v (.int .i64 u0_3)), (D.v (.int .i64 u0_4)), (D.v (.int .i64 u0_5))]), (Blk.d 4 [(D.list u0_6 u0_7 u0_8), (D.v (.bool u0_9)), (D.v (.bool u0_10)), (D.v (.bool u0_11))]), (Blk.d 3 u0_12)]⟩
  (contK Tryz.prog H_law24_CountersStart.sp ⟨0, [], false, []⟩ (inlK Tryz.prog H_law24_CountersStart m 4) m fh_law24_CountersStart__law24_CountersStart (endK Tryz.prog Tryz.f3 (fun v L => viewK L 8 v some)) []))
noncomputable def F_law24_CountersStart_j9 (m : Nat) (u1_0 : Int) (u1_1 : Int) (u1_2 : Int) (u1_3 : Int) (u1_4 : Int) (u1_5 : Nat) (u1_6 : Option Nat) (u1_7 : List D) (u1_8 : Bool) (u1_9 : Bool) (u1_10 : Bool) (u1_11 : List D) : Option D :=
 cutK m (codeK Tryz.prog H_law24_CountersStart.sp ⟨0, [], false, []⟩ (inlK Tryz.prog H_law24_CountersStart m 4) m fh_law24_CountersStart__law24_CountersStart (subc [1, 1, 1, 1, 1, 1] (bodyOf Tryz.f3)) ⟨[.junk, (AV.d (D.v (.int .i64 u1_0))), .junk, .junk, .junk, (AV.ptr 1 0), .junk, (AV.ptr 2 0), .junk, (AV.d (D.v (.int .i64 u1_1))), .junk, .junk, .junk, .junk, .junk, .junk, .junk, .junk, .junk, .junk, .junk, .junk, .junk, .junk, .junk, .junk, .junk, .junk, .junk, .junk, .junk, .junk, .junk, .junk, .junk, .junk, .junk, .junk, .junk, .junk, .junk, .junk, .junk, .junk, .junk, .junk, .junk, .junk, .junk, .junk, .junk, .junk, .junk, .junk, .junk, .junk], [(Blk.d 3 [(D.v (.int .i64 u1_2)), (D.v (.int .i64 u1_3)), (D.v (.int .i64 u1_4))]), (Blk.d 4 [(D.list u1_5 u1_6 u1_7), (D.v (.bool u1_8)), (D.v (.bool u1_9)), (D.v (.bool u1_10))]), (Blk.d 3 u1_11)]⟩
  (contK Tryz.prog H_law24_CountersStart.sp ⟨0, [], false, []⟩ (inlK Tryz.prog H_law24_CountersStart m 4) m fh_law24_CountersStart__law24_CountersStart (endK Tryz.prog Tryz.f3 (fun v L => viewK L 8 v some)) []))
theorem F_law24_CountersStart_j9_e (m : Nat) (u1_0 : Int) (u1_1 : Int) (u1_2 : Int) (u1_3 : Int) (u1_4 : Int) (u1_5 : Nat) (u1_6 : Option Nat) (u1_7 : List D) (u1_8 : Bool) (u1_9 : Bool) (u1_10 : Bool) (u1_11 : List D) : F_law24_CountersStart_j9 m u1_0 u1_1 u1_2 u1_3 u1_4 u1_5 u1_6 u1_7 u1_8 u1_9 u1_10 u1_11 =
 (cond (u1_1 != (0 : Int))
 ((sp_law24_three [(D.v (.int .i64 (0 : Int))), (D.v (.int .i64 (0 : Int))), (D.v (.int .i64 (0 : Int)))]).bind fun d13 =>
 (rdA (some d13)).bind fun c14 =>
 (cellsEq [.int, .int, .int] u1_11 c14).bind fun b15 =>
 cond b15
 ((sp_law24_lives []).bind fun d16 =>
 (rdB (some d16)).bind fun b17 =>
 some (D.v (.bool b17)))
 (some (D.v (.bool false))))
 ((sp_ref24_Start [(D.v (.int .i64 u1_0)), (D.agg [(D.list u1_5 u1_6 u1_7), (D.v (.bool u1_8)), (D.v (.bool u1_9)), (D.v (.bool u1_10))])]).bind fun d18 =>
 (rdA (some d18)).bind fun c19 =>
 (cellsEq [.int, .int, .int] u1_11 c19).bind fun b20 =>
 cond b20
 ((sp_law24_lives []).bind fun d21 =>
 (rdB (some d21)).bind fun b22 =>
 some (D.v (.bool b22)))
 (some (D.v (.bool false))))) := (cutK_eq m _).trans (by kernel_rfl)
theorem F_law24_CountersStart_j7_e (m : Nat) (u0_0 : Int) (u0_1 : Int) (u0_2 : Int) (u0_3 : Int) (u0_4 : Int) (u0_5 : Int) (u0_6 : Nat) (u0_7 : Option Nat) (u0_8 : List D) (u0_9 : Bool) (u0_10 : Bool) (u0_11 : Bool) (u0_12 : List D) : F_law24_CountersStart_j7 m u0_0 u0_1 u0_2 u0_3 u0_4 u0_5 u0_6 u0_7 u0_8 u0_9 u0_10 u0_11 u0_12 =
 ((sp_counters_Check [(D.agg [(D.v (.int .i64 u0_3)), (D.v (.int .i64 u0_4)), (D.v (.int .i64 u0_5))])]).bind fun d9 =>
 (rdI .i64 (some d9)).bind fun x10 =>
 (sp_law24_check [(D.agg [(D.v (.int .i64 u0_3)), (D.v (.int .i64 u0_4)), (D.v (.int .i64 u0_5))])]).bind fun d11 =>
 (rdI .i64 (some d11)).bind fun x12 =>
 cond (x10 != x12)
 (some (D.v (.bool false)))
 (cond (u0_1 != u0_2)
 (some (D.v (.bool false)))
 (F_law24_CountersStart_j9 m u0_0 u0_2 u0_3 u0_4 u0_5 u0_6 u0_7 u0_8 u0_9 u0_10 u0_11 u0_12))) := (cutK_eq m _).trans (by kernel_rfl)
noncomputable def F_law24_CountersStart (m : Nat) (a0_0 : Int) (a0_1 : Int) (a0_2 : Int) (a1 : Int) (a2_0n : Nat) (a2_0c : Option Nat) (a2_0 : List D) (a2_1 : Bool) (a2_2 : Bool) (a2_3 : Bool) : Option D :=
 cond (decide (((a2_0n : Nat) : Int) > (300 : Int)))
 ((sp_law24_lives []).bind fun d1 =>
 (rdB (some d1)).bind fun b2 =>
 some (D.v (.bool b2)))
 ((sp_counters_Start [(D.v (.int .i64 a1)), (D.agg [(D.list a2_0n a2_0c a2_0), (D.v (.bool a2_1)), (D.v (.bool a2_2)), (D.v (.bool a2_3))])]).bind fun d3 =>
 (rdT d3).bind fun r4 =>
 if List.length r4 = 2 then
 (rdA r4[0]?).bind fun c5 =>
 (rdI .i64 r4[1]?).bind fun x6 =>
 if (List.length c5) = 3 then
 (sp_ref07_Check [(D.list a2_0n a2_0c a2_0)]).bind fun d7 =>
 (rdI .i64 (some d7)).bind fun x8 =>
 cond (decide (a1 < (1 : Int)))
 (F_law24_CountersStart_j7 m a1 x6 (1 : Int) a0_0 a0_1 a0_2 a2_0n a2_0c a2_0 a2_1 a2_2 a2_3 c5)
 (cond (decide (a1 > (64 : Int)))
 (F_law24_CountersStart_j7 m a1 x6 (1 : Int) a0_0 a0_1 a0_2 a2_0n a2_0c a2_0 a2_1 a2_2 a2_3 c5)
 (F_law24_CountersStart_j7 m a1 x6 x8 a0_0 a0_1 a0_2 a2_0n a2_0c a2_0 a2_1 a2_2 a2_3 c5))
 else none
 else none)
theorem F_law24_CountersStart_eq (m : Nat) (a0_0 : Int) (a0_1 : Int) (a0_2 : Int) (a1 : Int) (a2_0n : Nat) (a2_0c : Option Nat) (a2_0 : List D) (a2_1 : Bool) (a2_2 : Bool) (a2_3 : Bool) : funD Tryz.prog H_law24_CountersStart m 4 fh_law24_CountersStart__law24_CountersStart Tryz.f3 [(D.agg [(D.v (.int .i64 a0_0)), (D.v (.int .i64 a0_1)), (D.v (.int .i64 a0_2))]), (D.v (.int .i64 a1)), (D.agg [(D.list a2_0n a2_0c a2_0), (D.v (.bool a2_1)), (D.v (.bool a2_2)), (D.v (.bool a2_3))])] = F_law24_CountersStart m a0_0 a0_1 a0_2 a1 a2_0n a2_0c a2_0 a2_1 a2_2 a2_3 := by kernel_rfl
theorem en_law24_CountersStart : Enters Tryz.prog 3 := ⟨Tryz.f3, Tryz.func3, by kernel_rfl, by kernel_rfl⟩
theorem dt_law24_CountersStart {ds : List D} {d : D} (h : funD Tryz.prog H_law24_CountersStart M 4 fh_law24_CountersStart__law24_CountersStart Tryz.f3 ds = some d) : DataSem Tryz.prog 3 ds d := data_sound (H := H_law24_CountersStart) (SpOk.cons ds_law24_lives (SpOk.cons ds_counters_Start (SpOk.cons ds_ref07_Check (SpOk.cons ds_counters_Check (SpOk.cons ds_law24_check (SpOk.cons ds_law24_three (SpOk.cons ds_ref24_Start SpOk.nil))))))) mixed InlOk.nil Tryz.func3 en_law24_CountersStart h
noncomputable def sp_law24_CountersStart : List D → Option D
  | [.agg [.v (.int .i64 a0_0), .v (.int .i64 a0_1), .v (.int .i64 a0_2)], .v (.int .i64 a1), .agg [.list a2_0n a2_0c a2_0, .v (.bool a2_1), .v (.bool a2_2), .v (.bool a2_3)]] => F_law24_CountersStart M a0_0 a0_1 a0_2 a1 a2_0n a2_0c a2_0 a2_1 a2_2 a2_3
  | _ => none
theorem ds_law24_CountersStart : ∀ ds d, sp_law24_CountersStart ds = some d → DataSem Tryz.prog 3 ds d := by
  intro ds d h
  unfold sp_law24_CountersStart at h
  split at h
  · exact dt_law24_CountersStart ((F_law24_CountersStart_eq M _ _ _ _ _ _ _ _ _ _).trans h)
  · cases h

-- ('str', '"vidimus/vidimuslaw24.CountersErrors"')
def fh_law24_CountersErrors__law24_CountersErrors : FnH := ⟨[(4, ⟨[false, false, false, true, true, true, false, true, false, false, false, false, false, false, false, false, false, false, false, false, false, false, false, false, false, false, false, false, false, false, false, false, false, false, false, false, false, false, false, false, false, false, false, false, false, false, false, false, false, false, false, false, false, false, false, false, false, false, false, false, false, false, false, false, false, false, false, false, false, false, false, false, false, false, false, false, false, false, false, false, false, false, false, false, false, false, false, false, false, false, false, false, false, false, false, false, false, false, false, false, false, false, false, false, false, false, false, false, false, false, false, false, false, false, false, false, false, false, false, false, false, false, false, false, false, false, false, false, false, false, false, false, false, false, false, false, false, false, false, false, false, false, false, false, false, false], [], (some 3)⟩)], [(3, ⟨[false, false, false, true, true, true, false, false, false, false, false, false, false, false, false, false, false, false, false, false, false, false, false, false, false, false, false, false, false, false, false, false, false, false, false, false, false, false, false, false, false, false, false, false, false, false, false, false, false, false, false, false, false, false, false, false, false, false, false, false, false, false, false, false, false, false, false, false, false, false, false, false, false, false, false, false, false, false, false, false, false, false, false, false, false, false, false, false, false, false, false, false, false, false, false, false, false, false, false, false, false, false, false, false, false, false, false, false, false, false, false, false, false, false, false, false, false, false, false, false, false, false, false, false, false, false, false, false, false, false, false, false, false, false, false, false, false, false, false, false, false, false, false, false, false, false], [], (some 3)⟩), (11, ⟨[false, false, false, true, true, true, false, false, true, false, false, false, false, false, false, false, false, false, false, false, false, false, false, false, false, false, false, false, false, false, false, false, false, false, false, false, false, false, false, false, false, false, false, false, false, false, false, false, false, false, false, false, false, false, false, false, false, false, false, false, false, false, false, false, false, false, false, false, false, false, false, false, false, false, false, false, false, false, false, false, false, false, false, false, false, false, false, false, false, false, false, false, false, false, false, false, false, false, false, false, false, false, false, false, false, false, false, false, false, false, false, false, false, false, false, false, false, false, false, false, false, false, false, false, false, false, false, false, false, false, false, false, false, false, false, false, false, false, false, false, false, false, false, false, false, false], [], (some 3)⟩), (15, ⟨[false, false, false, true, false, true, false, false, false, false, false, false, false, false, false, false, false, false, false, false, false, false, false, false, false, false, false, false, false, false, false, false, false, false, false, false, false, false, false, false, false, false, false, false, false, false, false, false, false, false, false, false, false, false, false, false, false, false, false, false, false, false, false, false, false, false, false, false, false, false, false, false, false, false, false, false, false, false, false, false, false, false, false, false, false, false, false, false, false, false, false, false, false, false, false, false, false, false, false, false, false, false, false, false, false, false, false, false, false, false, false, false, false, false, false, false, false, false, false, false, false, false, false, false, false, false, false, false, false, false, false, false, false, false, false, false, false, false, false, false, false, false, false, false, false, false], [], (some 3)⟩), (19, ⟨[false, false, false, false, false, true, false, false, true, false, false, false, false, true, false, false, false, false, false, false, false, false, false, false, false, false, false, false, false, false, false, false, false, false, false, false, false, false, false, false, false, false, false, false, false, false, false, false, false, false, false, false, false, false, false, false, false, false, false, false, false, false, false, false, false, false, false, false, false, false, false, false, false, false, false, false, false, false, false, false, false, false, false, false, false, false, false, false, false, false, false, false, false, false, false, false, false, false, false, false, false, false, false, false, false, false, false, false, false, false, false, false, false, false, false, false, false, false, false, false, false, false, false, false, false, false, false, false, false, false, false, false, false, false, false, false, false, false, false, false, false, false, false, false, false, false], [], (some 4)⟩), (24, ⟨[false, false, false, false, false, false, false, false, true, false, false, false, false, false, true, false, true, false, true, true, true, false, false, false, false, false, false, false, false, false, false, false, false, false, false, false, false, false, false, false, false, false, false, false, false, false, false, false, false, false, false, false, false, false, false, false, false, false, false, false, false, false, false, false, false, false, false, false, false, false, false, false, false, false, false, false, false, false, false, false, false, false, false, false, false, false, false, false, false, false, false, false, false, false, false, false, false, false, false, false, false, false, false, false, false, false, false, false, false, false, false, false, false, false, false, false, false, false, false, false, false, false, false, false, false, false, false, false, false, false, false, false, false, false, false, false, false, false, false, false, false, false, false, false, false, false], [], (some 0)⟩)]⟩
noncomputable def H_law24_CountersErrors : Hints := ⟨[(10, sp_law24_lives), (12, sp_ref07_Check), (14, sp_law24_check), (18, sp_counters_All), (19, sp_counters_Final), (23, sp_counters_Zero), (24, sp_law24_empty), (26, sp_counters_Next), (27, sp_counters_Wrap), (30, sp_ref23_Check), (31, sp_ref23_Chain)], [], []⟩
noncomputable def F_law24_CountersErrors_j3 (m : Nat) (u0_0 : Bool) (u0_1 : Bool) (u0_2 : Nat) (u0_3 : Option Nat) (u0_4 : List D) (u0_5 : Bool) (u0_6 : Nat) (u0_7 : Option Nat) (u0_8 : List D) (u0_9 : Int) (u0_10 : Int) (u0_11 : Int) (u0_12 : Int) (u0_13 : Int) (u0_14 : Int) (u0_15 : Nat) (u0_16 : Option Nat) (u0_17 : List D) (u0_18 : Bool) (u0_19 : Bool) (u0_20 : Bool) : Option D :=
 cutK m (codeK Tryz.prog H_law24_CountersErrors.sp ⟨0, [], false, []⟩ (inlK Tryz.prog H_law24_CountersErrors m 4) m fh_law24_CountersErrors__law24_CountersErrors (subc [1, 1] (bodyOf Tryz.f9)) ⟨[.junk, .junk, .junk, (AV.ptr 0 0), (AV.ptr 1 0), (AV.ptr 2 0), .junk, .junk, .junk, .junk, .junk, .junk, .junk, .junk, .junk, .junk, .junk, .junk, .junk, .junk, .junk, .junk, .junk, .junk, .junk, .junk, .junk, .junk, .junk, .junk, .junk, .junk, .junk, .junk, .junk, .junk, .junk, .junk, .junk, .junk, .junk, .junk, .junk, .junk, .junk, .junk, .junk, .junk, .junk, .junk, .junk, .junk, .junk, .junk, .junk, .junk, .junk, .junk, .junk, .junk, .junk, .junk, .junk, .junk, .junk, .junk, .junk, .junk, .junk, .junk, .junk, .junk, .junk, .junk, .junk, .junk, .junk, .junk, .junk, .junk, .junk, .junk, .junk, .junk, .junk, .junk, .junk, .junk, .junk, .junk, .junk, .junk, .junk, .junk, .junk, .junk, .junk, .junk, .junk, .junk, .junk, .junk, .junk, .junk, .junk, .junk, .junk, .junk, .junk, .junk, .junk, .junk, .junk, .junk, .junk, .junk, .junk, .junk, .junk, .junk, .junk, .junk, .junk, .junk, .junk, .junk, .junk, .junk, .junk, .junk, .junk, .junk, .junk, .junk, .junk, .junk, .junk, .junk, .junk, .junk, .junk, .junk, .junk, .junk, .junk, .junk], [(Blk.d 8 [(D.v (.bool u0_0)), (D.v (.bool u0_1)), (D.list u0_2 u0_3 u0_4), (D.v (.bool u0_5)), (D.list u0_6 u0_7 u0_8), (D.v (.int .i64 u0_9)), (D.v (.int .i64 u0_10)), (D.v (.int .i64 u0_11))]), (Blk.d 3 [(D.v (.int .i64 u0_12)), (D.v (.int .i64 u0_13)), (D.v (.int .i64 u0_14))]), (Blk.d 4 [(D.list u0_15 u0_16 u0_17), (D.v (.bool u0_18)), (D.v (.bool u0_19)), (D.v (.bool u0_20))])]⟩
  (contK Tryz.prog H_law24_CountersErrors.sp ⟨0, [], false, []⟩ (inlK Tryz.prog H_law24_CountersErrors m 4) m fh_law24_CountersErrors__law24_CountersErrors (endK Tryz.prog Tryz.f9 (fun v L => viewK L 8 v some)) []))
noncomputable def F_law24_CountersErrors_4 (m n0 : Nat) (y0_0 : Int) (y0_1 : Bool) (y0_2 : Bool) (y0_3 : Nat) (y0_4 : Option Nat) (y0_5 : List D) (y0_6 : Bool) (y0_7 : Nat) (y0_8 : Option Nat) (y0_9 : List D) (y0_10 : Int) (y0_11 : Int) (y0_12 : Int) (y0_13 : Int) (y0_14 : Int) (y0_15 : Int) (y0_16 : Nat) (y0_17 : Option Nat) (y0_18 : List D) (y0_19 : Bool) (y0_20 : Bool) (y0_21 : Bool) : Option D :=
 loopIter [false, false, false, true, true, true, false, true, false, false, false, false, false, false, false, false, false, false, false, false, false, false, false, false, false, false, false, false, false, false, false, false, false, false, false, false, false, false, false, false, false, false, false, false, false, false, false, false, false, false, false, false, false, false, false, false, false, false, false, false, false, false, false, false, false, false, false, false, false, false, false, false, false, false, false, false, false, false, false, false, false, false, false, false, false, false, false, false, false, false, false, false, false, false, false, false, false, false, false, false, false, false, false, false, false, false, false, false, false, false, false, false, false, false, false, false, false, false, false, false, false, false, false, false, false, false, false, false, false, false, false, false, false, false, false, false, false, false, false, false, false, false, false, false, false, false] 0 3 (codeK Tryz.prog H_law24_CountersErrors.sp ⟨0, [], false, []⟩ (inlK Tryz.prog H_law24_CountersErrors m 4) m fh_law24_CountersErrors__law24_CountersErrors (subc [1, 1, 0, 1, 0, 0] (bodyOf Tryz.f9))) n0 ⟨[.junk, .junk, .junk, (AV.ptr 0 0), (AV.ptr 1 0), (AV.ptr 2 0), .junk, (AV.d (D.v (.int .i64 y0_0))), .junk, .junk, .junk, .junk, .junk, .junk, .junk, .junk, .junk, .junk, .junk, .junk, .junk, .junk, .junk, .junk, .junk, .junk, .junk, .junk, .junk, .junk, .junk, .junk, .junk, .junk, .junk, .junk, .junk, .junk, .junk, .junk, .junk, .junk, .junk, .junk, .junk, .junk, .junk, .junk, .junk, .junk, .junk, .junk, .junk, .junk, .junk, .junk, .junk, .junk, .junk, .junk, .junk, .junk, .junk, .junk, .junk, .junk, .junk, .junk, .junk, .junk, .junk, .junk, .junk, .junk, .junk, .junk, .junk, .junk, .junk, .junk, .junk, .junk, .junk, .junk, .junk, .junk, .junk, .junk, .junk, .junk, .junk, .junk, .junk, .junk, .junk, .junk, .junk, .junk, .junk, .junk, .junk, .junk, .junk, .junk, .junk, .junk, .junk, .junk, .junk, .junk, .junk, .junk, .junk, .junk, .junk, .junk, .junk, .junk, .junk, .junk, .junk, .junk, .junk, .junk, .junk, .junk, .junk, .junk, .junk, .junk, .junk, .junk, .junk, .junk, .junk, .junk, .junk, .junk, .junk, .junk, .junk, .junk, .junk, .junk, .junk, .junk], [(Blk.d 8 [(D.v (.bool y0_1)), (D.v (.bool y0_2)), (D.list y0_3 y0_4 y0_5), (D.v (.bool y0_6)), (D.list y0_7 y0_8 y0_9), (D.v (.int .i64 y0_10)), (D.v (.int .i64 y0_11)), (D.v (.int .i64 y0_12))]), (Blk.d 3 [(D.v (.int .i64 y0_13)), (D.v (.int .i64 y0_14)), (D.v (.int .i64 y0_15))]), (Blk.d 4 [(D.list y0_16 y0_17 y0_18), (D.v (.bool y0_19)), (D.v (.bool y0_20)), (D.v (.bool y0_21))])]⟩
  (contK Tryz.prog H_law24_CountersErrors.sp ⟨0, [], false, []⟩ (inlK Tryz.prog H_law24_CountersErrors m 4) m fh_law24_CountersErrors__law24_CountersErrors (endK Tryz.prog Tryz.f9 (fun v L => viewK L 8 v some)) [.block 0, .code (subc [1, 1, 1] (bodyOf Tryz.f9))])
noncomputable def F_law24_CountersErrors_j11 (m : Nat) (u1_0 : Int) (u1_1 : Bool) (u1_2 : Bool) (u1_3 : Nat) (u1_4 : Option Nat) (u1_5 : List D) (u1_6 : Bool) (u1_7 : Nat) (u1_8 : Option Nat) (u1_9 : List D) (u1_10 : Int) (u1_11 : Int) (u1_12 : Int) (u1_13 : Int) (u1_14 : Int) (u1_15 : Int) (u1_16 : Nat) (u1_17 : Option Nat) (u1_18 : List D) (u1_19 : Bool) (u1_20 : Bool) (u1_21 : Bool) : Option D :=
 cutK m (codeK Tryz.prog H_law24_CountersErrors.sp ⟨0, [], false, []⟩ (inlK Tryz.prog H_law24_CountersErrors m 4) m fh_law24_CountersErrors__law24_CountersErrors (subc [1, 1, 1, 1, 1] (bodyOf Tryz.f9)) ⟨[.junk, .junk, .junk, (AV.ptr 0 0), (AV.ptr 1 0), (AV.ptr 2 0), .junk, .junk, (AV.d (D.v (.int .i64 u1_0))), .junk, .junk, .junk, .junk, .junk, .junk, .junk, .junk, .junk, .junk, .junk, .junk, .junk, .junk, .junk, .junk, .junk, .junk, .junk, .junk, .junk, .junk, .junk, .junk, .junk, .junk, .junk, .junk, .junk, .junk, .junk, .junk, .junk, .junk, .junk, .junk, .junk, .junk, .junk, .junk, .junk, .junk, .junk, .junk, .junk, .junk, .junk, .junk, .junk, .junk, .junk, .junk, .junk, .junk, .junk, .junk, .junk, .junk, .junk, .junk, .junk, .junk, .junk, .junk, .junk, .junk, .junk, .junk, .junk, .junk, .junk, .junk, .junk, .junk, .junk, .junk, .junk, .junk, .junk, .junk, .junk, .junk, .junk, .junk, .junk, .junk, .junk, .junk, .junk, .junk, .junk, .junk, .junk, .junk, .junk, .junk, .junk, .junk, .junk, .junk, .junk, .junk, .junk, .junk, .junk, .junk, .junk, .junk, .junk, .junk, .junk, .junk, .junk, .junk, .junk, .junk, .junk, .junk, .junk, .junk, .junk, .junk, .junk, .junk, .junk, .junk, .junk, .junk, .junk, .junk, .junk, .junk, .junk, .junk, .junk, .junk, .junk], [(Blk.d 8 [(D.v (.bool u1_1)), (D.v (.bool u1_2)), (D.list u1_3 u1_4 u1_5), (D.v (.bool u1_6)), (D.list u1_7 u1_8 u1_9), (D.v (.int .i64 u1_10)), (D.v (.int .i64 u1_11)), (D.v (.int .i64 u1_12))]), (Blk.d 3 [(D.v (.int .i64 u1_13)), (D.v (.int .i64 u1_14)), (D.v (.int .i64 u1_15))]), (Blk.d 4 [(D.list u1_16 u1_17 u1_18), (D.v (.bool u1_19)), (D.v (.bool u1_20)), (D.v (.bool u1_21))])]⟩
  (contK Tryz.prog H_law24_CountersErrors.sp ⟨0, [], false, []⟩ (inlK Tryz.prog H_law24_CountersErrors m 4) m fh_law24_CountersErrors__law24_CountersErrors (endK Tryz.prog Tryz.f9 (fun v L => viewK L 8 v some)) []))
noncomputable def F_law24_CountersErrors_j15 (m : Nat) (u2_0 : Bool) (u2_1 : Bool) (u2_2 : Nat) (u2_3 : Option Nat) (u2_4 : List D) (u2_5 : Bool) (u2_6 : Nat) (u2_7 : Option Nat) (u2_8 : List D) (u2_9 : Int) (u2_10 : Int) (u2_11 : Int) (u2_12 : Int) (u2_13 : Int) (u2_14 : Int) (u2_15 : Nat) (u2_16 : Option Nat) (u2_17 : List D) (u2_18 : Bool) (u2_19 : Bool) (u2_20 : Bool) : Option D :=
 cutK m (codeK Tryz.prog H_law24_CountersErrors.sp ⟨0, [], false, []⟩ (inlK Tryz.prog H_law24_CountersErrors m 4) m fh_law24_CountersErrors__law24_CountersErrors (subc [1, 1, 1, 1, 1, 1, 1, 1] (bodyOf Tryz.f9)) ⟨[.junk, .junk, .junk, (AV.ptr 0 0), .junk, (AV.ptr 2 0), .junk, .junk, .junk, .junk, .junk, .junk, .junk, .junk, .junk, .junk, .junk, .junk, .junk, .junk, .junk, .junk, .junk, .junk, .junk, .junk, .junk, .junk, .junk, .junk, .junk, .junk, .junk, .junk, .junk, .junk, .junk, .junk, .junk, .junk, .junk, .junk, .junk, .junk, .junk, .junk, .junk, .junk, .junk, .junk, .junk, .junk, .junk, .junk, .junk, .junk, .junk, .junk, .junk, .junk, .junk, .junk, .junk, .junk, .junk, .junk, .junk, .junk, .junk, .junk, .junk, .junk, .junk, .junk, .junk, .junk, .junk, .junk, .junk, .junk, .junk, .junk, .junk, .junk, .junk, .junk, .junk, .junk, .junk, .junk, .junk, .junk, .junk, .junk, .junk, .junk, .junk, .junk, .junk, .junk, .junk, .junk, .junk, .junk, .junk, .junk, .junk, .junk, .junk, .junk, .junk, .junk, .junk, .junk, .junk, .junk, .junk, .junk, .junk, .junk, .junk, .junk, .junk, .junk, .junk, .junk, .junk, .junk, .junk, .junk, .junk, .junk, .junk, .junk, .junk, .junk, .junk, .junk, .junk, .junk, .junk, .junk, .junk, .junk, .junk, .junk], [(Blk.d 8 [(D.v (.bool u2_0)), (D.v (.bool u2_1)), (D.list u2_2 u2_3 u2_4), (D.v (.bool u2_5)), (D.list u2_6 u2_7 u2_8), (D.v (.int .i64 u2_9)), (D.v (.int .i64 u2_10)), (D.v (.int .i64 u2_11))]), (Blk.d 3 [(D.v (.int .i64 u2_12)), (D.v (.int .i64 u2_13)), (D.v (.int .i64 u2_14))]), (Blk.d 4 [(D.list u2_15 u2_16 u2_17), (D.v (.bool u2_18)), (D.v (.bool u2_19)), (D.v (.bool u2_20))])]⟩
  (contK Tryz.prog H_law24_CountersErrors.sp ⟨0, [], false, []⟩ (inlK Tryz.prog H_law24_CountersErrors m 4) m fh_law24_CountersErrors__law24_CountersErrors (endK Tryz.prog Tryz.f9 (fun v L => viewK L 8 v some)) []))
noncomputable def F_law24_CountersErrors_j19 (m : Nat) (u3_0 : Int) (u3_1 : Nat) (u3_2 : Nat) (u3_3 : Bool) (u3_4 : Bool) (u3_5 : Nat) (u3_6 : Option Nat) (u3_7 : List D) (u3_8 : Bool) (u3_9 : Nat) (u3_10 : Option Nat) (u3_11 : List D) (u3_12 : Int) (u3_13 : Int) (u3_14 : Int) (u3_15 : Int) (u3_16 : Int) (u3_17 : Int) (u3_18 : Nat) (u3_19 : Option Nat) (u3_20 : List D) (u3_21 : Bool) (u3_22 : Bool) (u3_23 : Bool) (u3_24 : Nat) (u3_25 : List D) : Option D :=
 cutK m (codeK Tryz.prog H_law24_CountersErrors.sp ⟨0, [], false, []⟩ (inlK Tryz.prog H_law24_CountersErrors m 4) m fh_law24_CountersErrors__law24_CountersErrors (subc [1, 1, 1, 1, 1, 1, 1, 1, 1, 1, 1] (bodyOf Tryz.f9)) ⟨[.junk, .junk, .junk, .junk, .junk, (AV.ptr 2 0), .junk, .junk, (AV.d (D.v (.int .i64 u3_0))), .junk, .junk, .junk, .junk, (AV.sl 3 0 u3_1 (some u3_2) 8), .junk, .junk, .junk, .junk, .junk, .junk, .junk, .junk, .junk, .junk, .junk, .junk, .junk, .junk, .junk, .junk, .junk, .junk, .junk, .junk, .junk, .junk, .junk, .junk, .junk, .junk, .junk, .junk, .junk, .junk, .junk, .junk, .junk, .junk, .junk, .junk, .junk, .junk, .junk, .junk, .junk, .junk, .junk, .junk, .junk, .junk, .junk, .junk, .junk, .junk, .junk, .junk, .junk, .junk, .junk, .junk, .junk, .junk, .junk, .junk, .junk, .junk, .junk, .junk, .junk, .junk, .junk, .junk, .junk, .junk, .junk, .junk, .junk, .junk, .junk, .junk, .junk, .junk, .junk, .junk, .junk, .junk, .junk, .junk, .junk, .junk, .junk, .junk, .junk, .junk, .junk, .junk, .junk, .junk, .junk, .junk, .junk, .junk, .junk, .junk, .junk, .junk, .junk, .junk, .junk, .junk, .junk, .junk, .junk, .junk, .junk, .junk, .junk, .junk, .junk, .junk, .junk, .junk, .junk, .junk, .junk, .junk, .junk, .junk, .junk, .junk, .junk, .junk, .junk, .junk, .junk, .junk], [(Blk.d 8 [(D.v (.bool u3_3)), (D.v (.bool u3_4)), (D.list u3_5 u3_6 u3_7), (D.v (.bool u3_8)), (D.list u3_9 u3_10 u3_11), (D.v (.int .i64 u3_12)), (D.v (.int .i64 u3_13)), (D.v (.int .i64 u3_14))]), (Blk.d 3 [(D.v (.int .i64 u3_15)), (D.v (.int .i64 u3_16)), (D.v (.int .i64 u3_17))]), (Blk.d 4 [(D.list u3_18 u3_19 u3_20), (D.v (.bool u3_21)), (D.v (.bool u3_22)), (D.v (.bool u3_23))]), (Blk.d u3_24 u3_25)]⟩
  (contK Tryz.prog H_law24_CountersErrors.sp ⟨0, [], false, []⟩ (inlK Tryz.prog H_law24_CountersErrors m 4) m fh_law24_CountersErrors__law24_CountersErrors (endK Tryz.prog Tryz.f9 (fun v L => viewK L 8 v some)) []))
noncomputable def F_law24_CountersErrors_j24 (m : Nat) (u4_0 : Int) (u4_1 : Nat) (u4_2 : Option Nat) (u4_3 : List D) (u4_4 : Int) (u4_5 : Int) (u4_6 : Int) (u4_7 : Int) : Option D :=
 cutK m (codeK Tryz.prog H_law24_CountersErrors.sp ⟨0, [], false, []⟩ (inlK Tryz.prog H_law24_CountersErrors m 4) m fh_law24_CountersErrors__law24_CountersErrors (subc [1, 1, 1, 1, 1, 1, 1, 1, 1, 1, 1, 1, 1, 1, 1] (bodyOf Tryz.f9)) ⟨[.junk, .junk, .junk, .junk, .junk, .junk, .junk, .junk, (AV.d (D.v (.int .i64 u4_0))), .junk, .junk, .junk, .junk, .junk, (AV.d (D.list u4_1 u4_2 u4_3)), .junk, (AV.d (D.v (.int .i64 u4_4))), .junk, (AV.d (D.v (.int .i64 u4_5))), (AV.d (D.v (.int .i64 u4_6))), (AV.d (D.v (.int .i64 u4_7))), .junk, .junk, .junk, .junk, .junk, .junk, .junk, .junk, .junk, .junk, .junk, .junk, .junk, .junk, .junk, .junk, .junk, .junk, .junk, .junk, .junk, .junk, .junk, .junk, .junk, .junk, .junk, .junk, .junk, .junk, .junk, .junk, .junk, .junk, .junk, .junk, .junk, .junk, .junk, .junk, .junk, .junk, .junk, .junk, .junk, .junk, .junk, .junk, .junk, .junk, .junk, .junk, .junk, .junk, .junk, .junk, .junk, .junk, .junk, .junk, .junk, .junk, .junk, .junk, .junk, .junk, .junk, .junk, .junk, .junk, .junk, .junk, .junk, .junk, .junk, .junk, .junk, .junk, .junk, .junk, .junk, .junk, .junk, .junk, .junk, .junk, .junk, .junk, .junk, .junk, .junk, .junk, .junk, .junk, .junk, .junk, .junk, .junk, .junk, .junk, .junk, .junk, .junk, .junk, .junk, .junk, .junk, .junk, .junk, .junk, .junk, .junk, .junk, .junk, .junk, .junk, .junk, .junk, .junk, .junk, .junk, .junk, .junk, .junk, .junk], []⟩
  (contK Tryz.prog H_law24_CountersErrors.sp ⟨0, [], false, []⟩ (inlK Tryz.prog H_law24_CountersErrors m 4) m fh_law24_CountersErrors__law24_CountersErrors (endK Tryz.prog Tryz.f9 (fun v L => viewK L 8 v some)) []))
theorem F_law24_CountersErrors_j24_e (m : Nat) (u4_0 : Int) (u4_1 : Nat) (u4_2 : Option Nat) (u4_3 : List D) (u4_4 : Int) (u4_5 : Int) (u4_6 : Int) (u4_7 : Int) : F_law24_CountersErrors_j24 m u4_0 u4_1 u4_2 u4_3 u4_4 u4_5 u4_6 u4_7 =
 (cond (u4_0 == (0 : Int))
 ((sp_law24_lives []).bind fun d48 =>
 (rdB (some d48)).bind fun b49 =>
 some (D.v (.bool b49)))
 (cond (((u4_1 : Nat) : Int) == (0 : Int))
 (cond (u4_4 == (0 : Int))
 (cond ((IntKind.wrap .i64 ((IntKind.wrap .i64 (u4_5 + u4_6)) + u4_7)) == (0 : Int))
 ((sp_law24_lives []).bind fun d50 =>
 (rdB (some d50)).bind fun b51 =>
 some (D.v (.bool b51)))
 (some (D.v (.bool false))))
 (some (D.v (.bool false))))
 (some (D.v (.bool false))))) := (cutK_eq m _).trans (by kernel_rfl)
theorem F_law24_CountersErrors_j19_e (m : Nat) (u3_0 : Int) (u3_1 : Nat) (u3_2 : Nat) (u3_3 : Bool) (u3_4 : Bool) (u3_5 : Nat) (u3_6 : Option Nat) (u3_7 : List D) (u3_8 : Bool) (u3_9 : Nat) (u3_10 : Option Nat) (u3_11 : List D) (u3_12 : Int) (u3_13 : Int) (u3_14 : Int) (u3_15 : Int) (u3_16 : Int) (u3_17 : Int) (u3_18 : Nat) (u3_19 : Option Nat) (u3_20 : List D) (u3_21 : Bool) (u3_22 : Bool) (u3_23 : Bool) (u3_24 : Nat) (u3_25 : List D) : F_law24_CountersErrors_j19 m u3_0 u3_1 u3_2 u3_3 u3_4 u3_5 u3_6 u3_7 u3_8 u3_9 u3_10 u3_11 u3_12 u3_13 u3_14 u3_15 u3_16 u3_17 u3_18 u3_19 u3_20 u3_21 u3_22 u3_23 u3_24 u3_25 =
 (if (0 + (u3_1 * 8)) ≤ u3_24 then
 (sp_counters_All [(D.list u3_1 (some u3_2) (cutL u3_24 u3_25 0 (u3_1 * 8))), (D.agg [(D.list u3_18 u3_19 u3_20), (D.v (.bool u3_21)), (D.v (.bool u3_22)), (D.v (.bool u3_23))])]).bind fun d34 =>
 (rdT d34).bind fun r35 =>
 if List.length r35 = 2 then
 (rdL r35[0]?).bind fun q36 =>
 (rdI .i64 r35[1]?).bind fun x37 =>
 if (0 + (u3_1 * 8)) ≤ u3_24 then
 if (0 + (u3_1 * 8)) ≤ u3_24 then
 (sp_counters_Final [(D.list u3_1 (some u3_2) (cutL u3_24 u3_25 0 (u3_1 * 8))), (D.agg [(D.list u3_18 u3_19 u3_20), (D.v (.bool u3_21)), (D.v (.bool u3_22)), (D.v (.bool u3_23))])]).bind fun d38 =>
 (rdT d38).bind fun r39 =>
 if List.length r39 = 2 then
 (rdI .i64 r39[0]?).bind fun x40 =>
 (rdI .i64 r39[1]?).bind fun x41 =>
 (sp_counters_Zero [(D.list u3_1 (some u3_2) (cutL u3_24 u3_25 0 (u3_1 * 8))), (D.agg [(D.list u3_18 u3_19 u3_20), (D.v (.bool u3_21)), (D.v (.bool u3_22)), (D.v (.bool u3_23))])]).bind fun d42 =>
 (rdT d42).bind fun r43 =>
 if List.length r43 = 4 then
 (rdI .i64 r43[0]?).bind fun x44 =>
 (rdI .i64 r43[1]?).bind fun x45 =>
 (rdI .i64 r43[2]?).bind fun x46 =>
 (rdI .i64 r43[3]?).bind fun x47 =>
 cond (x37 != u3_0)
 (some (D.v (.bool false)))
 (cond (x41 != u3_0)
 (some (D.v (.bool false)))
 (cond (x47 != u3_0)
 (some (D.v (.bool false)))
 (F_law24_CountersErrors_j24 m u3_0 q36.n q36.cap q36.cs x40 x44 x45 x46)))
 else none
 else none
 else none
 else none
 else none
 else none) := (cutK_eq m _).trans (by kernel_rfl)
theorem F_law24_CountersErrors_j15_e (m : Nat) (u2_0 : Bool) (u2_1 : Bool) (u2_2 : Nat) (u2_3 : Option Nat) (u2_4 : List D) (u2_5 : Bool) (u2_6 : Nat) (u2_7 : Option Nat) (u2_8 : List D) (u2_9 : Int) (u2_10 : Int) (u2_11 : Int) (u2_12 : Int) (u2_13 : Int) (u2_14 : Int) (u2_15 : Nat) (u2_16 : Option Nat) (u2_17 : List D) (u2_18 : Bool) (u2_19 : Bool) (u2_20 : Bool) : F_law24_CountersErrors_j15 m u2_0 u2_1 u2_2 u2_3 u2_4 u2_5 u2_6 u2_7 u2_8 u2_9 u2_10 u2_11 u2_12 u2_13 u2_14 u2_15 u2_16 u2_17 u2_18 u2_19 u2_20 =
 ((sp_law24_empty []).bind fun d28 =>
 (rdA (some d28)).bind fun c29 =>
 if (List.length c29) = 8 then
 (sp_ref23_Chain [(D.list 2 (some 2) (putL 16 (putL 16 [(D.v (.bool false)), (D.v (.bool false)), (D.list 0 (some 0) []), (D.v (.bool false)), (D.list 0 (some 0) []), (D.v (.int .i64 (0 : Int))), (D.v (.int .i64 (0 : Int))), (D.v (.int .i64 (0 : Int))), (D.v (.bool false)), (D.v (.bool false)), (D.list 0 (some 0) []), (D.v (.bool false)), (D.list 0 (some 0) []), (D.v (.int .i64 (0 : Int))), (D.v (.int .i64 (0 : Int))), (D.v (.int .i64 (0 : Int)))] 0 8 c29) 8 8 [(D.v (.bool u2_0)), (D.v (.bool u2_1)), (D.list u2_2 u2_3 u2_4), (D.v (.bool u2_5)), (D.list u2_6 u2_7 u2_8), (D.v (.int .i64 u2_9)), (D.v (.int .i64 u2_10)), (D.v (.int .i64 u2_11))]))]).bind fun d30 =>
 (rdI .i64 (some d30)).bind fun x31 =>
 cond (x31 == (0 : Int))
 ((sp_ref07_Check [(D.list u2_15 u2_16 u2_17)]).bind fun d32 =>
 (rdI .i64 (some d32)).bind fun x33 =>
 F_law24_CountersErrors_j19 m x33 2 2 u2_0 u2_1 u2_2 u2_3 u2_4 u2_5 u2_6 u2_7 u2_8 u2_9 u2_10 u2_11 u2_12 u2_13 u2_14 u2_15 u2_16 u2_17 u2_18 u2_19 u2_20 16 (putL 16 (putL 16 [(D.v (.bool false)), (D.v (.bool false)), (D.list 0 (some 0) []), (D.v (.bool false)), (D.list 0 (some 0) []), (D.v (.int .i64 (0 : Int))), (D.v (.int .i64 (0 : Int))), (D.v (.int .i64 (0 : Int))), (D.v (.bool false)), (D.v (.bool false)), (D.list 0 (some 0) []), (D.v (.bool false)), (D.list 0 (some 0) []), (D.v (.int .i64 (0 : Int))), (D.v (.int .i64 (0 : Int))), (D.v (.int .i64 (0 : Int)))] 0 8 c29) 8 8 [(D.v (.bool u2_0)), (D.v (.bool u2_1)), (D.list u2_2 u2_3 u2_4), (D.v (.bool u2_5)), (D.list u2_6 u2_7 u2_8), (D.v (.int .i64 u2_9)), (D.v (.int .i64 u2_10)), (D.v (.int .i64 u2_11))]))
 (F_law24_CountersErrors_j19 m x31 2 2 u2_0 u2_1 u2_2 u2_3 u2_4 u2_5 u2_6 u2_7 u2_8 u2_9 u2_10 u2_11 u2_12 u2_13 u2_14 u2_15 u2_16 u2_17 u2_18 u2_19 u2_20 16 (putL 16 (putL 16 [(D.v (.bool false)), (D.v (.bool false)), (D.list 0 (some 0) []), (D.v (.bool false)), (D.list 0 (some 0) []), (D.v (.int .i64 (0 : Int))), (D.v (.int .i64 (0 : Int))), (D.v (.int .i64 (0 : Int))), (D.v (.bool false)), (D.v (.bool false)), (D.list 0 (some 0) []), (D.v (.bool false)), (D.list 0 (some 0) []), (D.v (.int .i64 (0 : Int))), (D.v (.int .i64 (0 : Int))), (D.v (.int .i64 (0 : Int)))] 0 8 c29) 8 8 [(D.v (.bool u2_0)), (D.v (.bool u2_1)), (D.list u2_2 u2_3 u2_4), (D.v (.bool u2_5)), (D.list u2_6 u2_7 u2_8), (D.v (.int .i64 u2_9)), (D.v (.int .i64 u2_10)), (D.v (.int .i64 u2_11))]))
 else none) := (cutK_eq m _).trans (by kernel_rfl)
theorem F_law24_CountersErrors_j11_e (m : Nat) (u1_0 : Int) (u1_1 : Bool) (u1_2 : Bool) (u1_3 : Nat) (u1_4 : Option Nat) (u1_5 : List D) (u1_6 : Bool) (u1_7 : Nat) (u1_8 : Option Nat) (u1_9 : List D) (u1_10 : Int) (u1_11 : Int) (u1_12 : Int) (u1_13 : Int) (u1_14 : Int) (u1_15 : Int) (u1_16 : Nat) (u1_17 : Option Nat) (u1_18 : List D) (u1_19 : Bool) (u1_20 : Bool) (u1_21 : Bool) : F_law24_CountersErrors_j11 m u1_0 u1_1 u1_2 u1_3 u1_4 u1_5 u1_6 u1_7 u1_8 u1_9 u1_10 u1_11 u1_12 u1_13 u1_14 u1_15 u1_16 u1_17 u1_18 u1_19 u1_20 u1_21 =
 ((sp_counters_Next [(D.agg [(D.v (.int .i64 u1_13)), (D.v (.int .i64 u1_14)), (D.v (.int .i64 u1_15))]), (D.agg [(D.v (.bool u1_1)), (D.v (.bool u1_2)), (D.list u1_3 u1_4 u1_5), (D.v (.bool u1_6)), (D.list u1_7 u1_8 u1_9), (D.v (.int .i64 u1_10)), (D.v (.int .i64 u1_11)), (D.v (.int .i64 u1_12))])]).bind fun d20 =>
 (rdT d20).bind fun r21 =>
 if List.length r21 = 2 then
 (rdA r21[0]?).bind fun c22 =>
 (rdI .i64 r21[1]?).bind fun x23 =>
 if (List.length c22) = 3 then
 (sp_counters_Wrap [(D.agg [(D.v (.int .i64 u1_13)), (D.v (.int .i64 u1_14)), (D.v (.int .i64 u1_15))]), (D.agg [(D.v (.bool u1_1)), (D.v (.bool u1_2)), (D.list u1_3 u1_4 u1_5), (D.v (.bool u1_6)), (D.list u1_7 u1_8 u1_9), (D.v (.int .i64 u1_10)), (D.v (.int .i64 u1_11)), (D.v (.int .i64 u1_12))])]).bind fun d24 =>
 (rdT d24).bind fun r25 =>
 if List.length r25 = 2 then
 (rdI .i64 r25[0]?).bind fun x26 =>
 (rdI .i64 r25[1]?).bind fun x27 =>
 cond (x23 != u1_0)
 (some (D.v (.bool false)))
 (cond (x27 != u1_0)
 (some (D.v (.bool false)))
 (F_law24_CountersErrors_j15 m u1_1 u1_2 u1_3 u1_4 u1_5 u1_6 u1_7 u1_8 u1_9 u1_10 u1_11 u1_12 u1_13 u1_14 u1_15 u1_16 u1_17 u1_18 u1_19 u1_20 u1_21))
 else none
 else none
 else none) := (cutK_eq m _).trans (by kernel_rfl)
theorem F_law24_CountersErrors_4_0 (m : Nat) (y0_0 : Int) (y0_1 : Bool) (y0_2 : Bool) (y0_3 : Nat) (y0_4 : Option Nat) (y0_5 : List D) (y0_6 : Bool) (y0_7 : Nat) (y0_8 : Option Nat) (y0_9 : List D) (y0_10 : Int) (y0_11 : Int) (y0_12 : Int) (y0_13 : Int) (y0_14 : Int) (y0_15 : Int) (y0_16 : Nat) (y0_17 : Option Nat) (y0_18 : List D) (y0_19 : Bool) (y0_20 : Bool) (y0_21 : Bool) : F_law24_CountersErrors_4 m 0 y0_0 y0_1 y0_2 y0_3 y0_4 y0_5 y0_6 y0_7 y0_8 y0_9 y0_10 y0_11 y0_12 y0_13 y0_14 y0_15 y0_16 y0_17 y0_18 y0_19 y0_20 y0_21 = none := rfl
theorem F_law24_CountersErrors_4_s (m n0 : Nat) (y0_0 : Int) (y0_1 : Bool) (y0_2 : Bool) (y0_3 : Nat) (y0_4 : Option Nat) (y0_5 : List D) (y0_6 : Bool) (y0_7 : Nat) (y0_8 : Option Nat) (y0_9 : List D) (y0_10 : Int) (y0_11 : Int) (y0_12 : Int) (y0_13 : Int) (y0_14 : Int) (y0_15 : Int) (y0_16 : Nat) (y0_17 : Option Nat) (y0_18 : List D) (y0_19 : Bool) (y0_20 : Bool) (y0_21 : Bool) : F_law24_CountersErrors_4 m (n0 + 1) y0_0 y0_1 y0_2 y0_3 y0_4 y0_5 y0_6 y0_7 y0_8 y0_9 y0_10 y0_11 y0_12 y0_13 y0_14 y0_15 y0_16 y0_17 y0_18 y0_19 y0_20 y0_21 =
 (cond (decide (y0_0 < ((y0_3 : Nat) : Int)))
 (if 0 ≤ y0_0 ∧ y0_0 < ((y0_3 : Nat) : Int) then
 (rdL y0_5[(((Int.toNat y0_0) * 18) + 17)]?).bind fun q13 =>
 cond (decide (((q13.n : Nat) : Int) > (0 : Int)))
 ((sp_law24_lives []).bind fun d14 =>
 (rdB (some d14)).bind fun b15 =>
 some (D.v (.bool b15)))
 (F_law24_CountersErrors_4 m n0 (IntKind.wrap .i64 (y0_0 + (1 : Int))) y0_1 y0_2 y0_3 y0_4 y0_5 y0_6 y0_7 y0_8 y0_9 y0_10 y0_11 y0_12 y0_13 y0_14 y0_15 y0_16 y0_17 y0_18 y0_19 y0_20 y0_21)
 else none)
 ((sp_law24_check [(D.agg [(D.v (.int .i64 y0_13)), (D.v (.int .i64 y0_14)), (D.v (.int .i64 y0_15))])]).bind fun d16 =>
 (rdI .i64 (some d16)).bind fun x17 =>
 cond (x17 == (0 : Int))
 ((sp_ref23_Check [(D.agg [(D.v (.bool y0_1)), (D.v (.bool y0_2)), (D.list y0_3 y0_4 y0_5), (D.v (.bool y0_6)), (D.list y0_7 y0_8 y0_9), (D.v (.int .i64 y0_10)), (D.v (.int .i64 y0_11)), (D.v (.int .i64 y0_12))])]).bind fun d18 =>
 (rdI .i64 (some d18)).bind fun x19 =>
 F_law24_CountersErrors_j11 m x19 y0_1 y0_2 y0_3 y0_4 y0_5 y0_6 y0_7 y0_8 y0_9 y0_10 y0_11 y0_12 y0_13 y0_14 y0_15 y0_16 y0_17 y0_18 y0_19 y0_20 y0_21)
 (F_law24_CountersErrors_j11 m x17 y0_1 y0_2 y0_3 y0_4 y0_5 y0_6 y0_7 y0_8 y0_9 y0_10 y0_11 y0_12 y0_13 y0_14 y0_15 y0_16 y0_17 y0_18 y0_19 y0_20 y0_21))) := by kernel_rfl
theorem F_law24_CountersErrors_j3_e (m : Nat) (u0_0 : Bool) (u0_1 : Bool) (u0_2 : Nat) (u0_3 : Option Nat) (u0_4 : List D) (u0_5 : Bool) (u0_6 : Nat) (u0_7 : Option Nat) (u0_8 : List D) (u0_9 : Int) (u0_10 : Int) (u0_11 : Int) (u0_12 : Int) (u0_13 : Int) (u0_14 : Int) (u0_15 : Nat) (u0_16 : Option Nat) (u0_17 : List D) (u0_18 : Bool) (u0_19 : Bool) (u0_20 : Bool) : F_law24_CountersErrors_j3 m u0_0 u0_1 u0_2 u0_3 u0_4 u0_5 u0_6 u0_7 u0_8 u0_9 u0_10 u0_11 u0_12 u0_13 u0_14 u0_15 u0_16 u0_17 u0_18 u0_19 u0_20 =
 (F_law24_CountersErrors_4 m m (0 : Int) u0_0 u0_1 u0_2 u0_3 u0_4 u0_5 u0_6 u0_7 u0_8 u0_9 u0_10 u0_11 u0_12 u0_13 u0_14 u0_15 u0_16 u0_17 u0_18 u0_19 u0_20) := (cutK_eq m _).trans (by kernel_rfl)
noncomputable def F_law24_CountersErrors (m : Nat) (a0_0 : Bool) (a0_1 : Bool) (a0_2n : Nat) (a0_2c : Option Nat) (a0_2 : List D) (a0_3 : Bool) (a0_4n : Nat) (a0_4c : Option Nat) (a0_4 : List D) (a0_5 : Int) (a0_6 : Int) (a0_7 : Int) (a1_0 : Int) (a1_1 : Int) (a1_2 : Int) (a2_0n : Nat) (a2_0c : Option Nat) (a2_0 : List D) (a2_1 : Bool) (a2_2 : Bool) (a2_3 : Bool) : Option D :=
 cond (decide (((a0_2n : Nat) : Int) > (70 : Int)))
 ((sp_law24_lives []).bind fun d1 =>
 (rdB (some d1)).bind fun b2 =>
 some (D.v (.bool b2)))
 (cond (decide (((a0_4n : Nat) : Int) > (70 : Int)))
 ((sp_law24_lives []).bind fun d3 =>
 (rdB (some d3)).bind fun b4 =>
 some (D.v (.bool b4)))
 (cond (decide (((a2_0n : Nat) : Int) > (300 : Int)))
 ((sp_law24_lives []).bind fun d5 =>
 (rdB (some d5)).bind fun b6 =>
 some (D.v (.bool b6)))
 (F_law24_CountersErrors_j3 m a0_0 a0_1 a0_2n a0_2c a0_2 a0_3 a0_4n a0_4c a0_4 a0_5 a0_6 a0_7 a1_0 a1_1 a1_2 a2_0n a2_0c a2_0 a2_1 a2_2 a2_3)))
theorem F_law24_CountersErrors_eq (m : Nat) (a0_0 : Bool) (a0_1 : Bool) (a0_2n : Nat) (a0_2c : Option Nat) (a0_2 : List D) (a0_3 : Bool) (a0_4n : Nat) (a0_4c : Option Nat) (a0_4 : List D) (a0_5 : Int) (a0_6 : Int) (a0_7 : Int) (a1_0 : Int) (a1_1 : Int) (a1_2 : Int) (a2_0n : Nat) (a2_0c : Option Nat) (a2_0 : List D) (a2_1 : Bool) (a2_2 : Bool) (a2_3 : Bool) : funD Tryz.prog H_law24_CountersErrors m 4 fh_law24_CountersErrors__law24_CountersErrors Tryz.f9 [(D.agg [(D.v (.bool a0_0)), (D.v (.bool a0_1)), (D.list a0_2n a0_2c a0_2), (D.v (.bool a0_3)), (D.list a0_4n a0_4c a0_4), (D.v (.int .i64 a0_5)), (D.v (.int .i64 a0_6)), (D.v (.int .i64 a0_7))]), (D.agg [(D.v (.int .i64 a1_0)), (D.v (.int .i64 a1_1)), (D.v (.int .i64 a1_2))]), (D.agg [(D.list a2_0n a2_0c a2_0), (D.v (.bool a2_1)), (D.v (.bool a2_2)), (D.v (.bool a2_3))])] = F_law24_CountersErrors m a0_0 a0_1 a0_2n a0_2c a0_2 a0_3 a0_4n a0_4c a0_4 a0_5 a0_6 a0_7 a1_0 a1_1 a1_2 a2_0n a2_0c a2_0 a2_1 a2_2 a2_3 := by kernel_rfl
theorem en_law24_CountersErrors : Enters Tryz.prog 9 := ⟨Tryz.f9, Tryz.func9, by kernel_rfl, by kernel_rfl⟩
theorem dt_law24_CountersErrors {ds : List D} {d : D} (h : funD Tryz.prog H_law24_CountersErrors M 4 fh_law24_CountersErrors__law24_CountersErrors Tryz.f9 ds = some d) : DataSem Tryz.prog 9 ds d := data_sound (H := H_law24_CountersErrors) (SpOk.cons ds_law24_lives (SpOk.cons ds_ref07_Check (SpOk.cons ds_law24_check (SpOk.cons ds_counters_All (SpOk.cons ds_counters_Final (SpOk.cons ds_counters_Zero (SpOk.cons ds_law24_empty (SpOk.cons ds_counters_Next (SpOk.cons ds_counters_Wrap (SpOk.cons ds_ref23_Check (SpOk.cons ds_ref23_Chain SpOk.nil))))))))))) mixed InlOk.nil Tryz.func9 en_law24_CountersErrors h
noncomputable def sp_law24_CountersErrors : List D → Option D
  | [.agg [.v (.bool a0_0), .v (.bool a0_1), .list a0_2n a0_2c a0_2, .v (.bool a0_3), .list a0_4n a0_4c a0_4, .v (.int .i64 a0_5), .v (.int .i64 a0_6), .v (.int .i64 a0_7)], .agg [.v (.int .i64 a1_0), .v (.int .i64 a1_1), .v (.int .i64 a1_2)], .agg [.list a2_0n a2_0c a2_0, .v (.bool a2_1), .v (.bool a2_2), .v (.bool a2_3)]] => F_law24_CountersErrors M a0_0 a0_1 a0_2n a0_2c a0_2 a0_3 a0_4n a0_4c a0_4 a0_5 a0_6 a0_7 a1_0 a1_1 a1_2 a2_0n a2_0c a2_0 a2_1 a2_2 a2_3
  | _ => none
theorem ds_law24_CountersErrors : ∀ ds d, sp_law24_CountersErrors ds = some d → DataSem Tryz.prog 9 ds d := by
  intro ds d h
  unfold sp_law24_CountersErrors at h
  split at h
  · exact dt_law24_CountersErrors ((F_law24_CountersErrors_eq M _ _ _ _ _ _ _ _ _ _ _ _ _ _ _ _ _ _ _ _ _).trans h)
  · cases h

end Go.Ev
