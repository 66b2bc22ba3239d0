/- Functions of the given program in plain form, printed: each with the proof that it is what the evaluator comes to, and that the program function returns what it says. No conditions. -/
import Derived.Test.YtilgfaangfbndaaDoorEvG5
set_option linter.unusedVariables false
set_option maxRecDepth 100000
namespace Go.Ev
open Go Go.Proofs

-- ('str', '"(vidimus/vidimuslaw01.N).Of"')
def fh39_39 : FnH := ⟨[(4, ⟨[false, false, false, true, false, false, false, false, false, false, false, false, false, false, false, false, false, false, false, false, false, false, false, false, false], [], (some 0)⟩)], [(4, ⟨[false, false, false, true, false, false, false, false, false, false, false, false, false, false, false, false, false, false, false, false, false, false, false, false, false], [], (some 0)⟩), (5, ⟨[false, false, false, true, false, false, false, false, false, false, false, false, false, false, false, false, false, false, false, false, false, false, false, false, false], [], (some 0)⟩), (6, ⟨[false, false, false, true, false, false, false, false, false, false, false, false, false, false, false, false, false, false, false, false, false, false, false, false, false], [], (some 0)⟩)]⟩
noncomputable def H39 : Hints := ⟨[], []⟩
noncomputable def F39_39_j4 (m : Nat) (u0_0 : Nat) (u0_1 : Option Nat) (u0_2 : List D) : Option D :=
 cutK (codeK Tryd.prog H39.sp 0 (inlK Tryd.prog H39 m 3) m fh39_39 (subc [1, 1, 1] (bodyOf Tryd.f39)) ⟨[.junk, .junk, .junk, (AV.d (D.list u0_0 u0_1 u0_2)), .junk, .junk, .junk, .junk, .junk, .junk, .junk, .junk, .junk, .junk, .junk, .junk, .junk, .junk, .junk, .junk, .junk, .junk, .junk, .junk, .junk], []⟩
  (contK Tryd.prog H39.sp 0 (inlK Tryd.prog H39 m 3) m fh39_39 (endK Tryd.prog Tryd.f39 (fun v L => viewK L 8 v some)) []))
noncomputable def F39_39_4 (m n0 : Nat) (y0_0 : Nat) (y0_1 : Option Nat) (y0_2 : List D) : Option D :=
 loopIter [false, false, false, true, false, false, false, false, false, false, false, false, false, false, false, false, false, false, false, false, false, false, false, false, false] 0 0 (codeK Tryd.prog H39.sp 0 (inlK Tryd.prog H39 m 3) m fh39_39 (subc [1, 1, 1, 0, 0, 0] (bodyOf Tryd.f39))) n0 ⟨[.junk, .junk, .junk, (AV.d (D.list y0_0 y0_1 y0_2)), .junk, .junk, .junk, .junk, .junk, .junk, .junk, .junk, .junk, .junk, .junk, .junk, .junk, .junk, .junk, .junk, .junk, .junk, .junk, .junk, .junk], []⟩
  (contK Tryd.prog H39.sp 0 (inlK Tryd.prog H39 m 3) m fh39_39 (endK Tryd.prog Tryd.f39 (fun v L => viewK L 8 v some)) [.block 0, .code (subc [1, 1, 1, 1] (bodyOf Tryd.f39))])
noncomputable def F39_39_j5 (m n0 : Nat) (u1_0 : Nat) (u1_1 : Option Nat) (u1_2 : List D) : Option D :=
 cutK (codeK Tryd.prog H39.sp 0 (inlK Tryd.prog H39 m 3) m fh39_39 (subc [1, 1, 1, 0, 0, 0, 1] (bodyOf Tryd.f39)) ⟨[.junk, .junk, .junk, (AV.d (D.list u1_0 u1_1 u1_2)), .junk, .junk, .junk, .junk, .junk, .junk, .junk, .junk, .junk, .junk, .junk, .junk, .junk, .junk, .junk, .junk, .junk, .junk, .junk, .junk, .junk], []⟩
  (contK Tryd.prog H39.sp 0 (inlK Tryd.prog H39 m 3) m fh39_39 (endK Tryd.prog Tryd.f39 (fun v L => viewK L 8 v some)) [.loop [false, false, false, true, false, false, false, false, false, false, false, false, false, false, false, false, false, false, false, false, false, false, false, false, false] 0 (subc [1, 1, 1, 0, 0, 0] (bodyOf Tryd.f39)) n0, .block 0, .code (subc [1, 1, 1, 1] (bodyOf Tryd.f39))]))
theorem F39_39_j5_e (m n0 : Nat) (u1_0 : Nat) (u1_1 : Option Nat) (u1_2 : List D) : F39_39_j5 m n0 u1_0 u1_1 u1_2 =
 (if 0 ≤ (1 : Int) ∧ (1 : Int) ≤ ((u1_0 : Nat) : Int) then
 F39_39_4 m n0 (u1_0 - 1) (Option.map (fun q => q - 1) u1_1) ((List.drop 1 u1_2).take ((u1_0 - 1) * 1))
 else none) := by kernel_rfl
noncomputable def F39_39_j6 (m : Nat) (u2_0 : Nat) (u2_1 : Option Nat) (u2_2 : List D) : Option D :=
 cutK (codeK Tryd.prog H39.sp 0 (inlK Tryd.prog H39 m 3) m fh39_39 (subc [1, 1, 1, 1] (bodyOf Tryd.f39)) ⟨[.junk, .junk, .junk, (AV.d (D.list u2_0 u2_1 u2_2)), .junk, .junk, .junk, .junk, .junk, .junk, .junk, .junk, .junk, .junk, .junk, .junk, .junk, .junk, .junk, .junk, .junk, .junk, .junk, .junk, .junk], []⟩
  (contK Tryd.prog H39.sp 0 (inlK Tryd.prog H39 m 3) m fh39_39 (endK Tryd.prog Tryd.f39 (fun v L => viewK L 8 v some)) []))
theorem F39_39_j6_e (m : Nat) (u2_0 : Nat) (u2_1 : Option Nat) (u2_2 : List D) : F39_39_j6 m u2_0 u2_1 u2_2 =
 (if (List.length u2_2) = (u2_0 * 1) then
 if (0 + u2_0) ≤ 0 then
 (if (0 + ((0 + u2_0) * 1)) ≤ 0 ∧ (List.length u2_2) = (u2_0 * 1) then
 if (0 + ((0 + u2_0) * 1)) ≤ 0 then
 some (D.list (0 + u2_0) (some 0) (cutL 0 (List.take 0 [] ++ (u2_2 ++ List.drop (0 + ((0 + u2_0) * 1)) [])) 0 ((0 + u2_0) * 1)))
 else none
 else none)
 else
 (if fitsRow (0 + u2_0) 1 ∧ (List.length u2_2) = (u2_0 * 1) then
 if (0 + ((0 + u2_0) * 1)) ≤ ((0 + u2_0) * 1) then
 some (D.list (0 + u2_0) none (cutL ((0 + u2_0) * 1) ([] ++ u2_2) 0 ((0 + u2_0) * 1)))
 else none
 else none)
 else none) := by kernel_rfl
theorem F39_39_4_0 (m : Nat) (y0_0 : Nat) (y0_1 : Option Nat) (y0_2 : List D) : F39_39_4 m 0 y0_0 y0_1 y0_2 = none := rfl
theorem F39_39_4_s (m n0 : Nat) (y0_0 : Nat) (y0_1 : Option Nat) (y0_2 : List D) : F39_39_4 m (n0 + 1) y0_0 y0_1 y0_2 =
 (cond (decide (((y0_0 : Nat) : Int) > (0 : Int)))
 (if 0 ≤ (0 : Int) ∧ (0 : Int) < ((y0_0 : Nat) : Int) then
 (rdI .u8 y0_2[0]?).bind fun x2 =>
 cond (x2 == (0 : Int))
 (F39_39_j5 m n0 y0_0 y0_1 y0_2)
 (F39_39_j6 m y0_0 y0_1 y0_2)
 else none)
 (F39_39_j6 m y0_0 y0_1 y0_2)) := by kernel_rfl
theorem F39_39_j4_e (m : Nat) (u0_0 : Nat) (u0_1 : Option Nat) (u0_2 : List D) : F39_39_j4 m u0_0 u0_1 u0_2 =
 (F39_39_4 m m u0_0 u0_1 u0_2) := by kernel_rfl
noncomputable def F39 (m : Nat) (a0_0n : Nat) (a0_0c : Option Nat) (a0_0 : List D) : Option D :=
 cond (decide (((a0_0n : Nat) : Int) > (64 : Int)))
 (if 0 ≤ (64 : Int) ∧ (64 : Int) ≤ ((a0_0n : Nat) : Int) then
 F39_39_j4 m 64 (Option.map (fun q => q - 0) a0_0c) ((List.drop 0 a0_0).take 64)
 else none)
 (F39_39_j4 m a0_0n a0_0c a0_0)
theorem F39_eq (m : Nat) (a0_0n : Nat) (a0_0c : Option Nat) (a0_0 : List D) : funD Tryd.prog H39 m 3 fh39_39 Tryd.f39 [(D.agg [(D.list a0_0n a0_0c a0_0)])] = F39 m a0_0n a0_0c a0_0 := by kernel_rfl
theorem en39 : Enters Tryd.prog 39 := ⟨Tryd.f39, Tryd.func39, by kernel_rfl, by kernel_rfl⟩
theorem dt39 {ds : List D} {d : D} (h : funD Tryd.prog H39 M 3 fh39_39 Tryd.f39 ds = some d) : DataSem Tryd.prog 39 ds d := data_sound (H := H39) SpOk.nil mixed InlOk.nil Tryd.func39 en39 h
noncomputable def sp39 : List D → Option D
  | [.agg [.list a0_0n a0_0c a0_0]] => F39 M a0_0n a0_0c a0_0
  | _ => none
theorem ds39 : ∀ ds d, sp39 ds = some d → DataSem Tryd.prog 39 ds d := by
  intro ds d h
  unfold sp39 at h
  split at h
  · exact dt39 ((F39_eq M _ _ _).trans h)
  · cases h

-- ('str', '"vidimus/vidimusref05.PutNat"')
def fh40_40 : FnH := ⟨[], [(3, ⟨[true, false, false, false, false, false, false, false, false, false, false, false, false, false, false, false, false, false], [], (some 0)⟩)]⟩
noncomputable def H40 : Hints := ⟨[], []⟩
noncomputable def F40_40_j3 (m : Nat) (u0_0 : Nat) (u0_1 : Option Nat) (u0_2 : List D) : Option D :=
 cutK (codeK Tryd.prog H40.sp 0 (inlK Tryd.prog H40 m 3) m fh40_40 (subc [1, 1] (bodyOf Tryd.f40)) ⟨[(AV.d (D.list u0_0 u0_1 u0_2)), .junk, .junk, .junk, .junk, .junk, .junk, .junk, .junk, .junk, .junk, .junk, .junk, .junk, .junk, .junk, .junk, .junk], []⟩
  (contK Tryd.prog H40.sp 0 (inlK Tryd.prog H40 m 3) m fh40_40 (endK Tryd.prog Tryd.f40 (fun v L => viewK L 8 v some)) []))
theorem F40_40_j3_e (m : Nat) (u0_0 : Nat) (u0_1 : Option Nat) (u0_2 : List D) : F40_40_j3 m u0_0 u0_1 u0_2 =
 (if (List.length u0_2) = (u0_0 * 1) then
 if (0 + u0_0) ≤ 0 then
 (if (0 + ((0 + u0_0) * 1)) ≤ 0 ∧ (List.length u0_2) = (u0_0 * 1) then
 if (0 + ((0 + u0_0) * 1)) ≤ 0 then
 some (D.list (0 + u0_0) (some 0) (cutL 0 (List.take 0 [] ++ (u0_2 ++ List.drop (0 + ((0 + u0_0) * 1)) [])) 0 ((0 + u0_0) * 1)))
 else none
 else none)
 else
 (if fitsRow (0 + u0_0) 1 ∧ (List.length u0_2) = (u0_0 * 1) then
 if (0 + ((0 + u0_0) * 1)) ≤ ((0 + u0_0) * 1) then
 some (D.list (0 + u0_0) none (cutL ((0 + u0_0) * 1) ([] ++ u0_2) 0 ((0 + u0_0) * 1)))
 else none
 else none)
 else none) := by kernel_rfl
noncomputable def F40 (m : Nat) (a0n : Nat) (a0c : Option Nat) (a0 : List D) : Option D :=
 cond (((a0n : Nat) : Int) == (0 : Int))
 (if (List.length a0) = (a0n * 1) then
 if (1 + a0n) ≤ 1 then
 (if (0 + ((1 + a0n) * 1)) ≤ 1 ∧ (List.length a0) = (a0n * 1) then
 if (0 + ((1 + a0n) * 1)) ≤ 1 then
 some (D.list (1 + a0n) (some 1) (cutL 1 (List.take 1 [(D.v (.int .u8 (0 : Int)))] ++ (a0 ++ List.drop (0 + ((1 + a0n) * 1)) [(D.v (.int .u8 (0 : Int)))])) 0 ((1 + a0n) * 1)))
 else none
 else none)
 else
 (if fitsRow (1 + a0n) 1 ∧ (List.length a0) = (a0n * 1) then
 if (0 + ((1 + a0n) * 1)) ≤ ((1 + a0n) * 1) then
 some (D.list (1 + a0n) none (cutL ((1 + a0n) * 1) ([(D.v (.int .u8 (0 : Int)))] ++ a0) 0 ((1 + a0n) * 1)))
 else none
 else none)
 else none)
 (if 0 ≤ (0 : Int) ∧ (0 : Int) < ((a0n : Nat) : Int) then
 (rdI .u8 a0[0]?).bind fun x1 =>
 cond (decide (x1 > (127 : Int)))
 (if (List.length a0) = (a0n * 1) then
 if (1 + a0n) ≤ 1 then
 (if (0 + ((1 + a0n) * 1)) ≤ 1 ∧ (List.length a0) = (a0n * 1) then
 if (0 + ((1 + a0n) * 1)) ≤ 1 then
 some (D.list (1 + a0n) (some 1) (cutL 1 (List.take 1 [(D.v (.int .u8 (0 : Int)))] ++ (a0 ++ List.drop (0 + ((1 + a0n) * 1)) [(D.v (.int .u8 (0 : Int)))])) 0 ((1 + a0n) * 1)))
 else none
 else none)
 else
 (if fitsRow (1 + a0n) 1 ∧ (List.length a0) = (a0n * 1) then
 if (0 + ((1 + a0n) * 1)) ≤ ((1 + a0n) * 1) then
 some (D.list (1 + a0n) none (cutL ((1 + a0n) * 1) ([(D.v (.int .u8 (0 : Int)))] ++ a0) 0 ((1 + a0n) * 1)))
 else none
 else none)
 else none)
 (F40_40_j3 m a0n a0c a0)
 else none)
theorem F40_eq (m : Nat) (a0n : Nat) (a0c : Option Nat) (a0 : List D) : funD Tryd.prog H40 m 3 fh40_40 Tryd.f40 [(D.list a0n a0c a0)] = F40 m a0n a0c a0 := by kernel_rfl
theorem en40 : Enters Tryd.prog 40 := ⟨Tryd.f40, Tryd.func40, by kernel_rfl, by kernel_rfl⟩
theorem dt40 {ds : List D} {d : D} (h : funD Tryd.prog H40 M 3 fh40_40 Tryd.f40 ds = some d) : DataSem Tryd.prog 40 ds d := data_sound (H := H40) SpOk.nil mixed InlOk.nil Tryd.func40 en40 h
noncomputable def sp40 : List D → Option D
  | [.list a0n a0c a0] => F40 M a0n a0c a0
  | _ => none
theorem ds40 : ∀ ds d, sp40 ds = some d → DataSem Tryd.prog 40 ds d := by
  intro ds d h
  unfold sp40 at h
  split at h
  · exact dt40 ((F40_eq M _ _ _).trans h)
  · cases h

-- ('str', '"vidimus/scalars.Nat"')
def fh41_41 : FnH := ⟨[], []⟩
noncomputable def H41 : Hints := ⟨[(34, sp34), (74, sp74)], []⟩
noncomputable def F41 (m : Nat) (a0n : Nat) (a0c : Option Nat) (a0 : List D) : Option D :=
 (sp34 [(D.list a0n a0c a0)]).bind fun d1 =>
 (rdT d1).bind fun r2 =>
 if List.length r2 = 2 then
 (rdL r2[0]?).bind fun q3 =>
 (rdI .i64 r2[1]?).bind fun x4 =>
 cond (x4 != (0 : Int))
 (some (D.tup [(D.agg [(D.v (.int .u8 (0 : Int))), (D.v (.bool false)), (D.v (.int .u32 (0 : Int))), (D.list 0 (some 0) []), (D.list 0 (some 0) [])]), (D.v (.int .i64 x4))]))
 ((sp74 [(D.v (.int .u32 (2 : Int))), (D.list q3.n q3.cap q3.cs)]).bind fun d5 =>
 (rdA (some d5)).bind fun c6 =>
 if (List.length c6) = 5 then
 some (D.tup [(D.agg c6), (D.v (.int .i64 (0 : Int)))])
 else none)
 else none
theorem F41_eq (m : Nat) (a0n : Nat) (a0c : Option Nat) (a0 : List D) : funD Tryd.prog H41 m 3 fh41_41 Tryd.f41 [(D.list a0n a0c a0)] = F41 m a0n a0c a0 := by kernel_rfl
theorem en41 : Enters Tryd.prog 41 := ⟨Tryd.f41, Tryd.func41, by kernel_rfl, by kernel_rfl⟩
theorem dt41 {ds : List D} {d : D} (h : funD Tryd.prog H41 M 3 fh41_41 Tryd.f41 ds = some d) : DataSem Tryd.prog 41 ds d := data_sound (H := H41) (SpOk.cons ds34 (SpOk.cons ds74 SpOk.nil)) mixed InlOk.nil Tryd.func41 en41 h
noncomputable def sp41 : List D → Option D
  | [.list a0n a0c a0] => F41 M a0n a0c a0
  | _ => none
theorem ds41 : ∀ ds d, sp41 ds = some d → DataSem Tryd.prog 41 ds d := by
  intro ds d h
  unfold sp41 at h
  split at h
  · exact dt41 ((F41_eq M _ _ _).trans h)
  · cases h

-- ('str', '"vidimus/scalars.OfNat"')
def fh42_42 : FnH := ⟨[], []⟩
def fh42_81 : FnH := ⟨[], []⟩
noncomputable def H42 : Hints := ⟨[(77, sp77)], [(81, Tryd.f81, fh42_81)]⟩
noncomputable def F42 (m : Nat) (a0_0 : Int) (a0_1 : Bool) (a0_2 : Int) (a0_3n : Nat) (a0_3c : Option Nat) (a0_3 : List D) (a0_4n : Nat) (a0_4c : Option Nat) (a0_4 : List D) : Option D :=
 (cellsEq [.int, .bool, .int] [(D.v (.int .u8 a0_0)), (D.v (.bool a0_1)), (D.v (.int .u32 a0_2))] [(D.v (.int .u8 (0 : Int))), (D.v (.bool false)), (D.v (.int .u32 (2 : Int)))]).bind fun b1 =>
 cond (!b1)
 (some (D.tup [(D.list 0 (some 0) []), (D.v (.int .i64 (9 : Int)))]))
 (cond (decide (((a0_4n : Nat) : Int) > (0 : Int)))
 (some (D.tup [(D.list 0 (some 0) []), (D.v (.int .i64 (1 : Int)))]))
 ((sp77 [(D.list a0_3n a0_3c a0_3)]).bind fun d2 =>
 (rdT d2).bind fun r3 =>
 if List.length r3 = 2 then
 (rdL r3[0]?).bind fun q4 =>
 (rdI .i64 r3[1]?).bind fun x5 =>
 some (D.tup [(D.list q4.n q4.cap q4.cs), (D.v (.int .i64 x5))])
 else none))
theorem F42_eq (m : Nat) (a0_0 : Int) (a0_1 : Bool) (a0_2 : Int) (a0_3n : Nat) (a0_3c : Option Nat) (a0_3 : List D) (a0_4n : Nat) (a0_4c : Option Nat) (a0_4 : List D) : funD Tryd.prog H42 m 3 fh42_42 Tryd.f42 [(D.agg [(D.v (.int .u8 a0_0)), (D.v (.bool a0_1)), (D.v (.int .u32 a0_2)), (D.list a0_3n a0_3c a0_3), (D.list a0_4n a0_4c a0_4)])] = F42 m a0_0 a0_1 a0_2 a0_3n a0_3c a0_3 a0_4n a0_4c a0_4 := by kernel_rfl
theorem en42 : Enters Tryd.prog 42 := ⟨Tryd.f42, Tryd.func42, by kernel_rfl, by kernel_rfl⟩
theorem dt42 {ds : List D} {d : D} (h : funD Tryd.prog H42 M 3 fh42_42 Tryd.f42 ds = some d) : DataSem Tryd.prog 42 ds d := data_sound (H := H42) (SpOk.cons ds77 SpOk.nil) mixed (InlOk.cons Tryd.func81 en81 InlOk.nil) Tryd.func42 en42 h
noncomputable def sp42 : List D → Option D
  | [.agg [.v (.int .u8 a0_0), .v (.bool a0_1), .v (.int .u32 a0_2), .list a0_3n a0_3c a0_3, .list a0_4n a0_4c a0_4]] => F42 M a0_0 a0_1 a0_2 a0_3n a0_3c a0_3 a0_4n a0_4c a0_4
  | _ => none
theorem ds42 : ∀ ds d, sp42 ds = some d → DataSem Tryd.prog 42 ds d := by
  intro ds d h
  unfold sp42 at h
  split at h
  · exact dt42 ((F42_eq M _ _ _ _ _ _ _ _ _).trans h)
  · cases h

-- ('str', '"vidimus/vidimuslaw05.ScalarsNats"')
def fh6_6 : FnH := ⟨[], [(6, ⟨[false, false, false, true, true, false, true, false, false, false, false, false, false, false, false, false, false, false, false, false, false, false, false, false, false, false, false, false, false, false, false, false, false, false, false, false, false, false, false, false, false, false, false, false, false, false, false, false, false, false, false, false, false, false, false, false, false, false, false, false, false, false, false, false, false, false, false, false, false, false, false, false, false, false, false, false, false, false, false, false, false, false, false, false, false, false, false, false, false, false, false, false, false], [], (some 0)⟩), (10, ⟨[false, false, false, false, true, false, true, true, false, false, false, false, false, false, false, false, false, false, false, false, false, false, false, false, false, false, false, false, false, false, false, false, false, false, false, false, false, false, false, false, false, false, false, false, false, false, false, false, false, false, false, false, false, false, false, false, false, false, false, false, false, false, false, false, false, false, false, false, false, false, false, false, false, false, false, false, false, false, false, false, false, false, false, false, false, false, false, false, false, false, false, false, false], [], (some 1)⟩)]⟩
noncomputable def H6 : Hints := ⟨[(18, sp18), (20, sp20), (22, sp22), (25, sp25), (27, sp27), (31, sp31), (33, sp33), (34, sp34), (39, sp39), (40, sp40), (41, sp41), (42, sp42)], []⟩
noncomputable def F6_6_j6 (m : Nat) (u0_0 : Nat) (u0_1 : Option Nat) (u0_2 : List D) (u0_3 : Nat) (u0_4 : Option Nat) (u0_5 : List D) (u0_6 : Nat) (u0_7 : Option Nat) (u0_8 : List D) : Option D :=
 cutK (codeK Tryd.prog H6.sp 0 (inlK Tryd.prog H6 m 3) m fh6_6 (subc [1, 1, 1, 1, 1] (bodyOf Tryd.f6)) ⟨[.junk, .junk, .junk, (AV.d (D.list u0_0 u0_1 u0_2)), (AV.d (D.list u0_3 u0_4 u0_5)), .junk, (AV.d (D.list u0_6 u0_7 u0_8)), .junk, .junk, .junk, .junk, .junk, .junk, .junk, .junk, .junk, .junk, .junk, .junk, .junk, .junk, .junk, .junk, .junk, .junk, .junk, .junk, .junk, .junk, .junk, .junk, .junk, .junk, .junk, .junk, .junk, .junk, .junk, .junk, .junk, .junk, .junk, .junk, .junk, .junk, .junk, .junk, .junk, .junk, .junk, .junk, .junk, .junk, .junk, .junk, .junk, .junk, .junk, .junk, .junk, .junk, .junk, .junk, .junk, .junk, .junk, .junk, .junk, .junk, .junk, .junk, .junk, .junk, .junk, .junk, .junk, .junk, .junk, .junk, .junk, .junk, .junk, .junk, .junk, .junk, .junk, .junk, .junk, .junk, .junk, .junk, .junk, .junk], []⟩
  (contK Tryd.prog H6.sp 0 (inlK Tryd.prog H6 m 3) m fh6_6 (endK Tryd.prog Tryd.f6 (fun v L => viewK L 8 v some)) []))
noncomputable def F6_6_j10 (m : Nat) (u1_0 : Nat) (u1_1 : Option Nat) (u1_2 : List D) (u1_3 : Nat) (u1_4 : Option Nat) (u1_5 : List D) (u1_6 : List D) : Option D :=
 cutK (codeK Tryd.prog H6.sp 0 (inlK Tryd.prog H6 m 3) m fh6_6 (subc [1, 1, 1, 1, 1, 1, 1, 1] (bodyOf Tryd.f6)) ⟨[.junk, .junk, .junk, .junk, (AV.d (D.list u1_0 u1_1 u1_2)), .junk, (AV.d (D.list u1_3 u1_4 u1_5)), (AV.ptr 0 0), .junk, .junk, .junk, .junk, .junk, .junk, .junk, .junk, .junk, .junk, .junk, .junk, .junk, .junk, .junk, .junk, .junk, .junk, .junk, .junk, .junk, .junk, .junk, .junk, .junk, .junk, .junk, .junk, .junk, .junk, .junk, .junk, .junk, .junk, .junk, .junk, .junk, .junk, .junk, .junk, .junk, .junk, .junk, .junk, .junk, .junk, .junk, .junk, .junk, .junk, .junk, .junk, .junk, .junk, .junk, .junk, .junk, .junk, .junk, .junk, .junk, .junk, .junk, .junk, .junk, .junk, .junk, .junk, .junk, .junk, .junk, .junk, .junk, .junk, .junk, .junk, .junk, .junk, .junk, .junk, .junk, .junk, .junk, .junk, .junk], [(Blk.d 5 u1_6)]⟩
  (contK Tryd.prog H6.sp 0 (inlK Tryd.prog H6 m 3) m fh6_6 (endK Tryd.prog Tryd.f6 (fun v L => viewK L 8 v some)) []))
theorem F6_6_j10_e (m : Nat) (u1_0 : Nat) (u1_1 : Option Nat) (u1_2 : List D) (u1_3 : Nat) (u1_4 : Option Nat) (u1_5 : List D) (u1_6 : List D) : F6_6_j10 m u1_0 u1_1 u1_2 u1_3 u1_4 u1_5 u1_6 =
 ((sp31 [(D.list u1_3 u1_4 u1_5)]).bind fun d25 =>
 (rdT d25).bind fun r26 =>
 if List.length r26 = 2 then
 (rdI .i64 r26[0]?).bind fun x27 =>
 (rdI .i64 r26[1]?).bind fun x28 =>
 (sp25 [(D.agg u1_6)]).bind fun d29 =>
 (rdT d29).bind fun r30 =>
 if List.length r30 = 2 then
 (rdI .i64 r30[0]?).bind fun x31 =>
 (rdI .i64 r30[1]?).bind fun x32 =>
 cond (x31 == x27)
 (cond (x32 == x28)
 (cond (x28 != (0 : Int))
 ((sp27 []).bind fun d33 =>
 (rdB (some d33)).bind fun b34 =>
 some (D.v (.bool b34)))
 ((sp18 [(D.v (.int .i64 x27))]).bind fun d35 =>
 (rdL (some d35)).bind fun q36 =>
 if (List.length q36.cs) = q36.n then
 (bytesOf q36.cs).bind fun l37 =>
 if (List.length u1_2) = u1_0 then
 (bytesOf u1_2).bind fun l38 =>
 cond (ByteArray.toList (ByteArray.mk (List.toArray l37)) == ByteArray.toList (ByteArray.mk (List.toArray l38)))
 ((sp27 []).bind fun d39 =>
 (rdB (some d39)).bind fun b40 =>
 some (D.v (.bool b40)))
 (some (D.v (.bool false)))
 else none
 else none))
 (some (D.v (.bool false))))
 (some (D.v (.bool false)))
 else none
 else none) := by kernel_rfl
theorem F6_6_j6_e (m : Nat) (u0_0 : Nat) (u0_1 : Option Nat) (u0_2 : List D) (u0_3 : Nat) (u0_4 : Option Nat) (u0_5 : List D) (u0_6 : Nat) (u0_7 : Option Nat) (u0_8 : List D) : F6_6_j6 m u0_0 u0_1 u0_2 u0_3 u0_4 u0_5 u0_6 u0_7 u0_8 =
 ((sp41 [(D.list u0_0 u0_1 u0_2)]).bind fun d13 =>
 (rdT d13).bind fun r14 =>
 if List.length r14 = 2 then
 (rdA r14[0]?).bind fun c15 =>
 (rdI .i64 r14[1]?).bind fun x16 =>
 if (List.length c15) = 5 then
 (sp42 [(D.agg c15)]).bind fun d17 =>
 (rdT d17).bind fun r18 =>
 if List.length r18 = 2 then
 (rdL r18[0]?).bind fun q19 =>
 (rdI .i64 r18[1]?).bind fun x20 =>
 cond (x16 != (0 : Int))
 (some (D.v (.bool false)))
 ((sp22 [(D.agg c15), (D.v (.int .u32 (2 : Int))), (D.list u0_6 u0_7 u0_8)]).bind fun d21 =>
 (rdB (some d21)).bind fun b22 =>
 cond (!b22)
 (some (D.v (.bool false)))
 ((sp20 [(D.list q19.n q19.cap q19.cs), (D.v (.int .i64 x20)), (D.list u0_0 u0_1 u0_2), (D.v (.int .i64 (0 : Int)))]).bind fun d23 =>
 (rdB (some d23)).bind fun b24 =>
 cond (!b24)
 (some (D.v (.bool false)))
 (F6_6_j10 m u0_3 u0_4 u0_5 u0_6 u0_7 u0_8 c15)))
 else none
 else none
 else none) := by kernel_rfl
noncomputable def F6 (m : Nat) (a0_0n : Nat) (a0_0c : Option Nat) (a0_0 : List D) : Option D :=
 (sp39 [(D.agg [(D.list a0_0n a0_0c a0_0)])]).bind fun d1 =>
 (rdL (some d1)).bind fun q2 =>
 (sp34 [(D.list q2.n q2.cap q2.cs)]).bind fun d3 =>
 (rdT d3).bind fun r4 =>
 if List.length r4 = 2 then
 (rdL r4[0]?).bind fun q5 =>
 (rdI .i64 r4[1]?).bind fun x6 =>
 (sp40 [(D.list q2.n q2.cap q2.cs)]).bind fun d7 =>
 (rdL (some d7)).bind fun q8 =>
 (sp20 [(D.list q5.n q5.cap q5.cs), (D.v (.int .i64 x6)), (D.list q8.n q8.cap q8.cs), (D.v (.int .i64 (0 : Int)))]).bind fun d9 =>
 (rdB (some d9)).bind fun b10 =>
 cond (!b10)
 (some (D.v (.bool false)))
 ((sp33 [(D.list q5.n q5.cap q5.cs), (D.list q2.n q2.cap q2.cs), (D.v (.int .i64 (0 : Int)))]).bind fun d11 =>
 (rdB (some d11)).bind fun b12 =>
 cond (!b12)
 (some (D.v (.bool false)))
 (F6_6_j6 m q2.n q2.cap q2.cs q5.n q5.cap q5.cs q8.n q8.cap q8.cs))
 else none
theorem F6_eq (m : Nat) (a0_0n : Nat) (a0_0c : Option Nat) (a0_0 : List D) : funD Tryd.prog H6 m 3 fh6_6 Tryd.f6 [(D.agg [(D.list a0_0n a0_0c a0_0)])] = F6 m a0_0n a0_0c a0_0 := by kernel_rfl
theorem en6 : Enters Tryd.prog 6 := ⟨Tryd.f6, Tryd.func6, by kernel_rfl, by kernel_rfl⟩
theorem dt6 {ds : List D} {d : D} (h : funD Tryd.prog H6 M 3 fh6_6 Tryd.f6 ds = some d) : DataSem Tryd.prog 6 ds d := data_sound (H := H6) (SpOk.cons ds18 (SpOk.cons ds20 (SpOk.cons ds22 (SpOk.cons ds25 (SpOk.cons ds27 (SpOk.cons ds31 (SpOk.cons ds33 (SpOk.cons ds34 (SpOk.cons ds39 (SpOk.cons ds40 (SpOk.cons ds41 (SpOk.cons ds42 SpOk.nil)))))))))))) mixed InlOk.nil Tryd.func6 en6 h
noncomputable def sp6 : List D → Option D
  | [.agg [.list a0_0n a0_0c a0_0]] => F6 M a0_0n a0_0c a0_0
  | _ => none
theorem ds6 : ∀ ds d, sp6 ds = some d → DataSem Tryd.prog 6 ds d := by
  intro ds d h
  unfold sp6 at h
  split at h
  · exact dt6 ((F6_eq M _ _ _).trans h)
  · cases h

end Go.Ev
