/- Functions of the given program in plain form, printed: each with the proof that it is what the evaluator comes to, and that the program function returns what it says. No conditions. -/
import Derived.Test.YtjgpddbebgndbaaGreatDoorEzG3
set_option linter.unusedVariables false
set_option maxRecDepth 100000
namespace Go.Ev
open Go Go.Proofs

-- ('str', '"vidimus/vidimuslaw24.check"')
def fh_law24_three__law24_three : FnH := ⟨[], []⟩
noncomputable def H_law24_three : Hints := ⟨[], [], []⟩
noncomputable def F_law24_three (m : Nat) (a0 : Int) (a1 : Int) (a2 : Int) : Option D :=
 some (D.agg [(D.v (.int .i64 a0)), (D.v (.int .i64 a1)), (D.v (.int .i64 a2))])
theorem F_law24_three_eq (m : Nat) (a0 : Int) (a1 : Int) (a2 : Int) : funD Tryz.prog H_law24_three m 4 fh_law24_three__law24_three Tryz.f15 [(D.v (.int .i64 a0)), (D.v (.int .i64 a1)), (D.v (.int .i64 a2))] = F_law24_three m a0 a1 a2 := by kernel_rfl
theorem en_law24_three : Enters Tryz.prog 15 := ⟨Tryz.f15, Tryz.func15, by kernel_rfl, by kernel_rfl⟩
theorem dt_law24_three {ds : List D} {d : D} (h : funD Tryz.prog H_law24_three M 4 fh_law24_three__law24_three Tryz.f15 ds = some d) : DataSem Tryz.prog 15 ds d := data_sound (H := H_law24_three) SpOk.nil mixed InlOk.nil Tryz.func15 en_law24_three h
noncomputable def sp_law24_three : List D → Option D
  | [.v (.int .i64 a0), .v (.int .i64 a1), .v (.int .i64 a2)] => F_law24_three M a0 a1 a2
  | _ => none
theorem ds_law24_three : ∀ ds d, sp_law24_three ds = some d → DataSem Tryz.prog 15 ds d := by
  intro ds d h
  unfold sp_law24_three at h
  split at h
  · exact dt_law24_three ((F_law24_three_eq M _ _ _).trans h)
  · cases h

-- ('str', '"vidimus/vidimuslaw24.empty"')
def fh_law24_empty__law24_empty : FnH := ⟨[], []⟩
noncomputable def H_law24_empty : Hints := ⟨[], [], []⟩
noncomputable def F_law24_empty (m : Nat)  : Option D :=
 some (D.agg [(D.v (.bool false)), (D.v (.bool false)), (D.list 0 (some 0) []), (D.v (.bool false)), (D.list 0 (some 0) []), (D.v (.int .i64 (-1 : Int))), (D.v (.int .i64 (-1 : Int))), (D.v (.int .i64 (-1 : Int)))])
theorem F_law24_empty_eq (m : Nat)  : funD Tryz.prog H_law24_empty m 4 fh_law24_empty__law24_empty Tryz.f24 [] = F_law24_empty m  := by kernel_rfl
theorem en_law24_empty : Enters Tryz.prog 24 := ⟨Tryz.f24, Tryz.func24, by kernel_rfl, by kernel_rfl⟩
theorem dt_law24_empty {ds : List D} {d : D} (h : funD Tryz.prog H_law24_empty M 4 fh_law24_empty__law24_empty Tryz.f24 ds = some d) : DataSem Tryz.prog 24 ds d := data_sound (H := H_law24_empty) SpOk.nil mixed InlOk.nil Tryz.func24 en_law24_empty h
noncomputable def sp_law24_empty : List D → Option D
  | [] => F_law24_empty M 
  | _ => none
theorem ds_law24_empty : ∀ ds d, sp_law24_empty ds = some d → DataSem Tryz.prog 24 ds d := by
  intro ds d h
  unfold sp_law24_empty at h
  split at h
  · exact dt_law24_empty ((F_law24_empty_eq M ).trans h)
  · cases h

-- ('str', '"vidimus/vidimuslaw24.steps"')
def fh_law24_steps__law24_steps : FnH := ⟨[], []⟩
noncomputable def H_law24_steps : Hints := ⟨[(24, sp_law24_empty)], [], []⟩
noncomputable def F_law24_steps (m : Nat)  : Option D :=
 (sp_law24_empty []).bind fun d1 =>
 (rdA (some d1)).bind fun c2 =>
 (sp_law24_empty []).bind fun d3 =>
 (rdA (some d3)).bind fun c4 =>
 (sp_law24_empty []).bind fun d5 =>
 (rdA (some d5)).bind fun c6 =>
 if (List.length c2) = 8 then
 if (List.length c4) = 8 then
 if (List.length c6) = 8 then
 some (D.list 3 (some 3) (List.set (List.set (List.set (List.set (putL 24 (putL 24 (putL 24 [(D.v (.bool false)), (D.v (.bool false)), (D.list 0 (some 0) []), (D.v (.bool false)), (D.list 0 (some 0) []), (D.v (.int .i64 (0 : Int))), (D.v (.int .i64 (0 : Int))), (D.v (.int .i64 (0 : Int))), (D.v (.bool false)), (D.v (.bool false)), (D.list 0 (some 0) []), (D.v (.bool false)), (D.list 0 (some 0) []), (D.v (.int .i64 (0 : Int))), (D.v (.int .i64 (0 : Int))), (D.v (.int .i64 (0 : Int))), (D.v (.bool false)), (D.v (.bool false)), (D.list 0 (some 0) []), (D.v (.bool false)), (D.list 0 (some 0) []), (D.v (.int .i64 (0 : Int))), (D.v (.int .i64 (0 : Int))), (D.v (.int .i64 (0 : Int)))] 0 8 c2) 8 8 c4) 16 8 c6) 5 (D.v (.int .i64 (1 : Int)))) 8 (D.v (.bool true))) 15 (D.v (.int .i64 (0 : Int)))) 21 (D.v (.int .i64 (0 : Int)))))
 else none
 else none
 else none
theorem F_law24_steps_eq (m : Nat)  : funD Tryz.prog H_law24_steps m 4 fh_law24_steps__law24_steps Tryz.f32 [] = F_law24_steps m  := by kernel_rfl
theorem en_law24_steps : Enters Tryz.prog 32 := ⟨Tryz.f32, Tryz.func32, by kernel_rfl, by kernel_rfl⟩
theorem dt_law24_steps {ds : List D} {d : D} (h : funD Tryz.prog H_law24_steps M 4 fh_law24_steps__law24_steps Tryz.f32 ds = some d) : DataSem Tryz.prog 32 ds d := data_sound (H := H_law24_steps) (SpOk.cons ds_law24_empty SpOk.nil) mixed InlOk.nil Tryz.func32 en_law24_steps h
noncomputable def sp_law24_steps : List D → Option D
  | [] => F_law24_steps M 
  | _ => none
theorem ds_law24_steps : ∀ ds d, sp_law24_steps ds = some d → DataSem Tryz.prog 32 ds d := by
  intro ds d h
  unfold sp_law24_steps at h
  split at h
  · exact dt_law24_steps ((F_law24_steps_eq M ).trans h)
  · cases h

-- ('str', '"vidimus/vidimuslaw24.lives"')
def fh_law24_lives__law24_lives : FnH := ⟨[], [(6, ⟨[false, false, false, false, false, false, false, false, false, false, false, false, false, false, false, false, false, false, false, false, false, false, false, false, false, false, false, false, false, false, false, false, false, false, false, false, false, false, false, false, false, false, false, false, false, false, false, false, false, false, false, false, false, false, false, false, false, false, false, false, false, false, false, false, false, false, false, false, false, false, false, false, false, false, false, false, false, false, false, false, false, false, false, false, false, false, false, false, false, false, false, false, false, false, false, false, false, false, false, false, false, false, false, false, false, false, false, false, false, false, false, false, false, false, false, false, false, false, false, false, false, false, false, false, false, false, false, false, false, false, false, false, false, false, false, false, false, false, false, false, false, false, false, false, false, false, false, false, false, false, false, false, false, false, false, false, false, false, false, false, false, false, false, false, false, false, false, false, false, false, false, false, false], [], (some 0)⟩), (10, ⟨[false, false, false, false, false, false, false, false, false, false, false, false, false, false, false, false, false, false, false, false, false, false, false, false, false, false, false, false, false, false, false, false, false, false, false, false, false, false, false, false, false, false, false, false, false, false, false, false, false, false, false, false, false, false, false, false, false, false, false, false, false, false, false, false, false, false, false, false, false, false, false, false, false, false, false, false, false, false, false, false, false, false, false, false, false, false, false, false, false, false, false, false, false, false, false, false, false, false, false, false, false, false, false, false, false, false, false, false, false, false, false, false, false, false, false, false, false, false, false, false, false, false, false, false, false, false, false, false, false, false, false, false, false, false, false, false, false, false, false, false, false, false, false, false, false, false, false, false, false, false, false, false, false, false, false, false, false, false, false, false, false, false, false, false, false, false, false, false, false, false, false, false, false], [], (some 0)⟩)]⟩
noncomputable def H_law24_lives : Hints := ⟨[(11, sp_counters_Start), (13, sp_counters_Check), (15, sp_law24_three), (18, sp_counters_All), (19, sp_counters_Final), (23, sp_counters_Zero), (24, sp_law24_empty), (27, sp_counters_Wrap), (32, sp_law24_steps)], [], []⟩
noncomputable def F_law24_lives_j6 (m : Nat)  : Option D :=
 cutK m (codeK Tryz.prog H_law24_lives.sp ⟨0, [], false, []⟩ (inlK Tryz.prog H_law24_lives m 4) m fh_law24_lives__law24_lives (subc [1, 1, 1, 1, 1] (bodyOf Tryz.f10)) ⟨[.junk, .junk, .junk, .junk, .junk, .junk, .junk, .junk, .junk, .junk, .junk, .junk, .junk, .junk, .junk, .junk, .junk, .junk, .junk, .junk, .junk, .junk, .junk, .junk, .junk, .junk, .junk, .junk, .junk, .junk, .junk, .junk, .junk, .junk, .junk, .junk, .junk, .junk, .junk, .junk, .junk, .junk, .junk, .junk, .junk, .junk, .junk, .junk, .junk, .junk, .junk, .junk, .junk, .junk, .junk, .junk, .junk, .junk, .junk, .junk, .junk, .junk, .junk, .junk, .junk, .junk, .junk, .junk, .junk, .junk, .junk, .junk, .junk, .junk, .junk, .junk, .junk, .junk, .junk, .junk, .junk, .junk, .junk, .junk, .junk, .junk, .junk, .junk, .junk, .junk, .junk, .junk, .junk, .junk, .junk, .junk, .junk, .junk, .junk, .junk, .junk, .junk, .junk, .junk, .junk, .junk, .junk, .junk, .junk, .junk, .junk, .junk, .junk, .junk, .junk, .junk, .junk, .junk, .junk, .junk, .junk, .junk, .junk, .junk, .junk, .junk, .junk, .junk, .junk, .junk, .junk, .junk, .junk, .junk, .junk, .junk, .junk, .junk, .junk, .junk, .junk, .junk, .junk, .junk, .junk, .junk, .junk, .junk, .junk, .junk, .junk, .junk, .junk, .junk, .junk, .junk, .junk, .junk, .junk, .junk, .junk, .junk, .junk, .junk, .junk, .junk, .junk, .junk, .junk, .junk, .junk, .junk, .junk], []⟩
  (contK Tryz.prog H_law24_lives.sp ⟨0, [], false, []⟩ (inlK Tryz.prog H_law24_lives m 4) m fh_law24_lives__law24_lives (endK Tryz.prog Tryz.f10 (fun v L => viewK L 8 v some)) []))
noncomputable def F_law24_lives (m : Nat)  : Option D :=
 (sp_counters_Start [(D.v (.int .i64 (3 : Int))), (D.agg [(D.list 0 (some 0) []), (D.v (.bool false)), (D.v (.bool false)), (D.v (.bool false))])]).bind fun d1 =>
 (rdT d1).bind fun r2 =>
 if List.length r2 = 2 then
 (rdA r2[0]?).bind fun c3 =>
 (rdI .i64 r2[1]?).bind fun x4 =>
 if (List.length c3) = 3 then
 (sp_law24_steps []).bind fun d5 =>
 (rdL (some d5)).bind fun q6 =>
 (sp_counters_All [(D.list q6.n q6.cap q6.cs), (D.agg [(D.list 0 (some 0) []), (D.v (.bool false)), (D.v (.bool false)), (D.v (.bool false))])]).bind fun d7 =>
 (rdT d7).bind fun r8 =>
 if List.length r8 = 2 then
 (rdL r8[0]?).bind fun q9 =>
 (rdI .i64 r8[1]?).bind fun x10 =>
 (sp_law24_steps []).bind fun d11 =>
 (rdL (some d11)).bind fun q12 =>
 (sp_counters_Final [(D.list q12.n q12.cap q12.cs), (D.agg [(D.list 0 (some 0) []), (D.v (.bool false)), (D.v (.bool false)), (D.v (.bool false))])]).bind fun d13 =>
 (rdT d13).bind fun r14 =>
 if List.length r14 = 2 then
 (rdI .i64 r14[0]?).bind fun x15 =>
 (rdI .i64 r14[1]?).bind fun x16 =>
 cond (x4 != (0 : Int))
 (some (D.v (.bool false)))
 (cond (x10 != (0 : Int))
 (some (D.v (.bool false)))
 (cond (x16 != (0 : Int))
 (some (D.v (.bool false)))
 ((sp_law24_three [(D.v (.int .i64 (4 : Int))), (D.v (.int .i64 (4 : Int))), (D.v (.int .i64 (4 : Int)))]).bind fun d17 =>
 (rdA (some d17)).bind fun c18 =>
 (cellsEq [.int, .int, .int] c3 c18).bind fun b19 =>
 cond (!b19)
 (some (D.v (.bool false)))
 (cond (((q9.n : Nat) : Int) != (3 : Int))
 (some (D.v (.bool false)))
 (if 0 ≤ (0 : Int) ∧ (0 : Int) < ((q9.n : Nat) : Int) then
 if 3 ≤ (List.length q9.cs) then
 (sp_law24_three [(D.v (.int .i64 (4 : Int))), (D.v (.int .i64 (4 : Int))), (D.v (.int .i64 (4 : Int)))]).bind fun d20 =>
 (rdA (some d20)).bind fun c21 =>
 (cellsEq [.int, .int, .int] ((List.drop 0 q9.cs).take 3) c21).bind fun b22 =>
 cond (!b22)
 (some (D.v (.bool false)))
 (if 0 ≤ (1 : Int) ∧ (1 : Int) < ((q9.n : Nat) : Int) then
 if 6 ≤ (List.length q9.cs) then
 (sp_law24_three [(D.v (.int .i64 (1 : Int))), (D.v (.int .i64 (3 : Int))), (D.v (.int .i64 (3 : Int)))]).bind fun d23 =>
 (rdA (some d23)).bind fun c24 =>
 (cellsEq [.int, .int, .int] ((List.drop 3 q9.cs).take 3) c24).bind fun b25 =>
 cond (!b25)
 (some (D.v (.bool false)))
 (if 0 ≤ (2 : Int) ∧ (2 : Int) < ((q9.n : Nat) : Int) then
 if 9 ≤ (List.length q9.cs) then
 (sp_law24_three [(D.v (.int .i64 (1 : Int))), (D.v (.int .i64 (3 : Int))), (D.v (.int .i64 (0 : Int)))]).bind fun d26 =>
 (rdA (some d26)).bind fun c27 =>
 (cellsEq [.int, .int, .int] ((List.drop 6 q9.cs).take 3) c27).bind fun b28 =>
 cond (!b28)
 (some (D.v (.bool false)))
 (cond (x15 != (0 : Int))
 (some (D.v (.bool false)))
 (F_law24_lives_j6 m ))
 else none
 else none)
 else none
 else none)
 else none
 else none)))))
 else none
 else none
 else none
 else none
theorem F_law24_lives_eq (m : Nat)  : funD Tryz.prog H_law24_lives m 4 fh_law24_lives__law24_lives Tryz.f10 [] = F_law24_lives m  := by kernel_rfl
theorem en_law24_lives : Enters Tryz.prog 10 := ⟨Tryz.f10, Tryz.func10, by kernel_rfl, by kernel_rfl⟩
theorem dt_law24_lives {ds : List D} {d : D} (h : funD Tryz.prog H_law24_lives M 4 fh_law24_lives__law24_lives Tryz.f10 ds = some d) : DataSem Tryz.prog 10 ds d := data_sound (H := H_law24_lives) (SpOk.cons ds_counters_Start (SpOk.cons ds_counters_Check (SpOk.cons ds_law24_three (SpOk.cons ds_counters_All (SpOk.cons ds_counters_Final (SpOk.cons ds_counters_Zero (SpOk.cons ds_law24_empty (SpOk.cons ds_counters_Wrap (SpOk.cons ds_law24_steps SpOk.nil))))))))) mixed InlOk.nil Tryz.func10 en_law24_lives h
noncomputable def sp_law24_lives : List D → Option D
  | [] => F_law24_lives M 
  | _ => none
theorem ds_law24_lives : ∀ ds d, sp_law24_lives ds = some d → DataSem Tryz.prog 10 ds d := by
  intro ds d h
  unfold sp_law24_lives at h
  split at h
  · exact dt_law24_lives ((F_law24_lives_eq M ).trans h)
  · cases h

-- ('str', '"vidimus/vidimuslaw24.CountersStart"')
end Go.Ev
