/- Functions of the given program in plain form, printed: each with the proof that it is what the evaluator comes to, and that the program function returns what it says. No conditions. -/
import Derived.Test.YtilgfaangfbndaaDoorEvG3
set_option linter.unusedVariables false
set_option maxRecDepth 100000
namespace Go.Ev
open Go Go.Proofs

-- ('str', '"vidimus/vidimusref01.trim"')
def fh88_88 : FnH := ⟨[(1, ⟨[true, false, false, false, false, false, false, false, false, false, false, false, false, false, false, false, false, false, false, false, false], [], none⟩)], [(2, ⟨[true, false, false, false, false, false, false, false, false, false, false, false, false, false, false, false, false, false, false, false, false], [], none⟩)]⟩
noncomputable def H88 : Hints := ⟨[], []⟩
noncomputable def F88_88_1 (m n0 : Nat) (y0_0 : Nat) (y0_1 : Option Nat) (y0_2 : List D) : Option D :=
 loopIter [true, false, false, false, false, false, false, false, false, false, false, false, false, false, false, false, false, false, false, false, false] 0 0 (codeK Tryd.prog H88.sp 0 (inlK Tryd.prog H88 m 3) m fh88_88 (subc [1, 0, 0, 0] (bodyOf Tryd.f88))) n0 ⟨[(AV.d (D.list y0_0 y0_1 y0_2)), .junk, .junk, .junk, .junk, .junk, .junk, .junk, .junk, .junk, .junk, .junk, .junk, .junk, .junk, .junk, .junk, .junk, .junk, .junk, .junk], []⟩
  (contK Tryd.prog H88.sp 0 (inlK Tryd.prog H88 m 3) m fh88_88 (endK Tryd.prog Tryd.f88 (fun v L => viewK L 8 v some)) [.block 0, .code (subc [1, 1] (bodyOf Tryd.f88))])
noncomputable def F88_88_j2 (m n0 : Nat) (u0_0 : Nat) (u0_1 : Option Nat) (u0_2 : List D) : Option D :=
 cutK (codeK Tryd.prog H88.sp 0 (inlK Tryd.prog H88 m 3) m fh88_88 (subc [1, 0, 0, 0, 1] (bodyOf Tryd.f88)) ⟨[(AV.d (D.list u0_0 u0_1 u0_2)), .junk, .junk, .junk, .junk, .junk, .junk, .junk, .junk, .junk, .junk, .junk, .junk, .junk, .junk, .junk, .junk, .junk, .junk, .junk, .junk], []⟩
  (contK Tryd.prog H88.sp 0 (inlK Tryd.prog H88 m 3) m fh88_88 (endK Tryd.prog Tryd.f88 (fun v L => viewK L 8 v some)) [.loop [true, false, false, false, false, false, false, false, false, false, false, false, false, false, false, false, false, false, false, false, false] 0 (subc [1, 0, 0, 0] (bodyOf Tryd.f88)) n0, .block 0, .code (subc [1, 1] (bodyOf Tryd.f88))]))
theorem F88_88_j2_e (m n0 : Nat) (u0_0 : Nat) (u0_1 : Option Nat) (u0_2 : List D) : F88_88_j2 m n0 u0_0 u0_1 u0_2 =
 (if 0 ≤ (IntKind.wrap .i64 (((u0_0 : Nat) : Int) - (1 : Int))) ∧ (IntKind.wrap .i64 (((u0_0 : Nat) : Int) - (1 : Int))) ≤ ((u0_0 : Nat) : Int) then
 F88_88_1 m n0 ((Int.toNat (IntKind.wrap .i64 (((u0_0 : Nat) : Int) - (1 : Int)))) - 0) (Option.map (fun q => q - 0) u0_1) ((List.drop 0 u0_2).take (((Int.toNat (IntKind.wrap .i64 (((u0_0 : Nat) : Int) - (1 : Int)))) - 0) * 1))
 else none) := by kernel_rfl
theorem F88_88_1_0 (m : Nat) (y0_0 : Nat) (y0_1 : Option Nat) (y0_2 : List D) : F88_88_1 m 0 y0_0 y0_1 y0_2 = none := rfl
theorem F88_88_1_s (m n0 : Nat) (y0_0 : Nat) (y0_1 : Option Nat) (y0_2 : List D) : F88_88_1 m (n0 + 1) y0_0 y0_1 y0_2 =
 (cond (decide (((y0_0 : Nat) : Int) > (0 : Int)))
 (if 0 ≤ (IntKind.wrap .i64 (((y0_0 : Nat) : Int) - (1 : Int))) ∧ (IntKind.wrap .i64 (((y0_0 : Nat) : Int) - (1 : Int))) < ((y0_0 : Nat) : Int) then
 (rdI .i64 y0_2[((Int.toNat (IntKind.wrap .i64 (((y0_0 : Nat) : Int) - (1 : Int)))) * 1)]?).bind fun x2 =>
 cond (x2 == (0 : Int))
 (F88_88_j2 m n0 y0_0 y0_1 y0_2)
 (some (D.list y0_0 y0_1 y0_2))
 else none)
 (some (D.list y0_0 y0_1 y0_2))) := by kernel_rfl
noncomputable def F88 (m : Nat) (a0n : Nat) (a0c : Option Nat) (a0 : List D) : Option D :=
 F88_88_1 m m a0n a0c a0
theorem F88_eq (m : Nat) (a0n : Nat) (a0c : Option Nat) (a0 : List D) : funD Tryd.prog H88 m 3 fh88_88 Tryd.f88 [(D.list a0n a0c a0)] = F88 m a0n a0c a0 := by kernel_rfl
theorem en88 : Enters Tryd.prog 88 := ⟨Tryd.f88, Tryd.func88, by kernel_rfl, by kernel_rfl⟩
theorem dt88 {ds : List D} {d : D} (h : funD Tryd.prog H88 M 3 fh88_88 Tryd.f88 ds = some d) : DataSem Tryd.prog 88 ds d := data_sound (H := H88) SpOk.nil mixed InlOk.nil Tryd.func88 en88 h
noncomputable def sp88 : List D → Option D
  | [.list a0n a0c a0] => F88 M a0n a0c a0
  | _ => none
theorem ds88 : ∀ ds d, sp88 ds = some d → DataSem Tryd.prog 88 ds d := by
  intro ds d h
  unfold sp88 at h
  split at h
  · exact dt88 ((F88_eq M _ _ _).trans h)
  · cases h

-- ('str', '"vidimus/vidimusref01.scale"')
def fh82_82 : FnH := ⟨[(4, ⟨[true, true, false, false, false, false, false, true, true, true, false, false, false, false, false, false, false, false, false, false, false, false, false, false, false, false, false, false, false, false, false, false, false, false, false, false, false, false, false, false, false, false, false], [(7, 1)], none⟩), (9, ⟨[false, false, false, false, false, false, false, true, true, false, false, false, false, false, false, false, false, false, false, false, false, false, false, false, false, false, false, false, false, false, false, false, false, false, false, false, false, false, false, false, false, false, false], [], none⟩)], []⟩
noncomputable def H82 : Hints := ⟨[(88, sp88)], []⟩
noncomputable def F82_82_4 (m n0 : Nat) (y0_0 : Nat) (y0_1 : Option Nat) (y0_2 : List D) (y0_3 : Int) (y0_4 : Nat) (y0_5 : Int) (y0_6 : Int) (y0_7 : Nat) (y0_8 : List D) : Option D :=
 loopIter [true, true, false, false, false, false, false, true, true, true, false, false, false, false, false, false, false, false, false, false, false, false, false, false, false, false, false, false, false, false, false, false, false, false, false, false, false, false, false, false, false, false, false] 0 1 (codeK Tryd.prog H82.sp 0 (inlK Tryd.prog H82 m 3) m fh82_82 (subc [1, 1, 1, 0, 1, 0, 0] (bodyOf Tryd.f82))) n0 ⟨[(AV.d (D.list y0_0 y0_1 y0_2)), (AV.d (D.v (.int .i64 y0_3))), .junk, .junk, .junk, .junk, .junk, (AV.sl 0 0 y0_4 none 1), (AV.d (D.v (.int .i64 y0_5))), (AV.d (D.v (.int .i64 y0_6))), .junk, .junk, .junk, .junk, .junk, .junk, .junk, .junk, .junk, .junk, .junk, .junk, .junk, .junk, .junk, .junk, .junk, .junk, .junk, .junk, .junk, .junk, .junk, .junk, .junk, .junk, .junk, .junk, .junk, .junk, .junk, .junk, .junk], [(Blk.d y0_7 y0_8)]⟩
  (contK Tryd.prog H82.sp 0 (inlK Tryd.prog H82 m 3) m fh82_82 (endK Tryd.prog Tryd.f82 (fun v L => viewK L 8 v some)) [.block 0, .code (subc [1, 1, 1, 1] (bodyOf Tryd.f82))])
noncomputable def F82_82_9 (m n0 : Nat) (y1_0 : Nat) (y1_1 : Int) (y1_2 : Nat) (y1_3 : List D) : Option D :=
 loopIter [false, false, false, false, false, false, false, true, true, false, false, false, false, false, false, false, false, false, false, false, false, false, false, false, false, false, false, false, false, false, false, false, false, false, false, false, false, false, false, false, false, false, false] 0 1 (codeK Tryd.prog H82.sp 0 (inlK Tryd.prog H82 m 3) m fh82_82 (subc [1, 1, 1, 1, 0, 0, 0] (bodyOf Tryd.f82))) n0 ⟨[.junk, .junk, .junk, .junk, .junk, .junk, .junk, (AV.sl 0 0 y1_0 none 1), (AV.d (D.v (.int .i64 y1_1))), .junk, .junk, .junk, .junk, .junk, .junk, .junk, .junk, .junk, .junk, .junk, .junk, .junk, .junk, .junk, .junk, .junk, .junk, .junk, .junk, .junk, .junk, .junk, .junk, .junk, .junk, .junk, .junk, .junk, .junk, .junk, .junk, .junk, .junk], [(Blk.d y1_2 y1_3)]⟩
  (contK Tryd.prog H82.sp 0 (inlK Tryd.prog H82 m 3) m fh82_82 (endK Tryd.prog Tryd.f82 (fun v L => viewK L 8 v some)) [.block 2, .code (subc [1, 1, 1, 1, 1] (bodyOf Tryd.f82))])
theorem F82_82_9_0 (m : Nat) (y1_0 : Nat) (y1_1 : Int) (y1_2 : Nat) (y1_3 : List D) : F82_82_9 m 0 y1_0 y1_1 y1_2 y1_3 = none := rfl
theorem F82_82_9_s (m n0 : Nat) (y1_0 : Nat) (y1_1 : Int) (y1_2 : Nat) (y1_3 : List D) : F82_82_9 m (n0 + 1) y1_0 y1_1 y1_2 y1_3 =
 (cond (decide (y1_1 > (0 : Int)))
 (if 0 ≤ 0 ∧ y1_2 = (y1_0 * 1) ∧ fitsRow (y1_0 + 1) 8 ∧ 1 = 1 then
 F82_82_9 m n0 (y1_0 + 1) (IntKind.wrap .i64 (Int.tdiv y1_1 (10 : Int))) ((y1_0 + 1) * 1) (y1_3 ++ [(D.v (.int .i64 (Int.tmod y1_1 (10 : Int))))])
 else none)
 (if (0 + (y1_0 * 1)) ≤ y1_2 then
 (sp88 [(D.list y1_0 none (cutL y1_2 y1_3 0 (y1_0 * 1)))]).bind fun d5 =>
 (rdL (some d5)).bind fun q6 =>
 if (0 + (y1_0 * 1)) ≤ y1_2 then
 if (0 + (y1_0 * 1)) ≤ y1_2 then
 some (D.list q6.n q6.cap q6.cs)
 else none
 else none
 else none)) := by kernel_rfl
theorem F82_82_4_0 (m : Nat) (y0_0 : Nat) (y0_1 : Option Nat) (y0_2 : List D) (y0_3 : Int) (y0_4 : Nat) (y0_5 : Int) (y0_6 : Int) (y0_7 : Nat) (y0_8 : List D) : F82_82_4 m 0 y0_0 y0_1 y0_2 y0_3 y0_4 y0_5 y0_6 y0_7 y0_8 = none := rfl
theorem F82_82_4_s (m n0 : Nat) (y0_0 : Nat) (y0_1 : Option Nat) (y0_2 : List D) (y0_3 : Int) (y0_4 : Nat) (y0_5 : Int) (y0_6 : Int) (y0_7 : Nat) (y0_8 : List D) : F82_82_4 m (n0 + 1) y0_0 y0_1 y0_2 y0_3 y0_4 y0_5 y0_6 y0_7 y0_8 =
 (cond (decide (y0_6 < ((y0_0 : Nat) : Int)))
 (if 0 ≤ y0_6 ∧ y0_6 < ((y0_0 : Nat) : Int) then
 (rdI .i64 y0_2[((Int.toNat y0_6) * 1)]?).bind fun x4 =>
 if 0 ≤ 0 ∧ y0_7 = (y0_4 * 1) ∧ fitsRow (y0_4 + 1) 8 ∧ 1 = 1 then
 F82_82_4 m n0 y0_0 y0_1 y0_2 y0_3 (y0_4 + 1) (IntKind.wrap .i64 (Int.tdiv (IntKind.wrap .i64 (y0_5 + (IntKind.wrap .i64 (x4 * y0_3)))) (10 : Int))) (IntKind.wrap .i64 (y0_6 + (1 : Int))) ((y0_4 + 1) * 1) (y0_8 ++ [(D.v (.int .i64 (Int.tmod (IntKind.wrap .i64 (y0_5 + (IntKind.wrap .i64 (x4 * y0_3)))) (10 : Int))))])
 else none
 else none)
 (F82_82_9 m m y0_4 y0_5 y0_7 y0_8)) := by kernel_rfl
noncomputable def F82 (m : Nat) (a0n : Nat) (a0c : Option Nat) (a0 : List D) (a1 : Int) (a2 : Int) : Option D :=
 F82_82_4 m m a0n a0c a0 a1 0 a2 (0 : Int) 0 []
theorem F82_eq (m : Nat) (a0n : Nat) (a0c : Option Nat) (a0 : List D) (a1 : Int) (a2 : Int) : funD Tryd.prog H82 m 3 fh82_82 Tryd.f82 [(D.list a0n a0c a0), (D.v (.int .i64 a1)), (D.v (.int .i64 a2))] = F82 m a0n a0c a0 a1 a2 := by kernel_rfl
theorem en82 : Enters Tryd.prog 82 := ⟨Tryd.f82, Tryd.func82, by kernel_rfl, by kernel_rfl⟩
theorem dt82 {ds : List D} {d : D} (h : funD Tryd.prog H82 M 3 fh82_82 Tryd.f82 ds = some d) : DataSem Tryd.prog 82 ds d := data_sound (H := H82) (SpOk.cons ds88 SpOk.nil) mixed InlOk.nil Tryd.func82 en82 h
noncomputable def sp82 : List D → Option D
  | [.list a0n a0c a0, .v (.int .i64 a1), .v (.int .i64 a2)] => F82 M a0n a0c a0 a1 a2
  | _ => none
theorem ds82 : ∀ ds d, sp82 ds = some d → DataSem Tryd.prog 82 ds d := by
  intro ds d h
  unfold sp82 at h
  split at h
  · exact dt82 ((F82_eq M _ _ _ _ _).trans h)
  · cases h

-- ('str', '"vidimus/vidimusref01.Of"')
def fh45_45 : FnH := ⟨[(3, ⟨[true, false, false, true, true, false, false, false, false, false, false, false, false, false, false, false, false, false, false], [], none⟩)], []⟩
noncomputable def H45 : Hints := ⟨[(82, sp82)], []⟩
noncomputable def F45_45_3 (m n0 : Nat) (y0_0 : Nat) (y0_1 : Option Nat) (y0_2 : List D) (y0_3 : Nat) (y0_4 : Option Nat) (y0_5 : List D) (y0_6 : Int) : Option D :=
 loopIter [true, false, false, true, true, false, false, false, false, false, false, false, false, false, false, false, false, false, false] 0 0 (codeK Tryd.prog H45.sp 0 (inlK Tryd.prog H45 m 3) m fh45_45 (subc [1, 1, 0, 1, 0, 0] (bodyOf Tryd.f45))) n0 ⟨[(AV.d (D.list y0_0 y0_1 y0_2)), .junk, .junk, (AV.d (D.list y0_3 y0_4 y0_5)), (AV.d (D.v (.int .i64 y0_6))), .junk, .junk, .junk, .junk, .junk, .junk, .junk, .junk, .junk, .junk, .junk, .junk, .junk, .junk], []⟩
  (contK Tryd.prog H45.sp 0 (inlK Tryd.prog H45 m 3) m fh45_45 (endK Tryd.prog Tryd.f45 (fun v L => viewK L 8 v some)) [.block 0, .code (subc [1, 1, 1] (bodyOf Tryd.f45))])
theorem F45_45_3_0 (m : Nat) (y0_0 : Nat) (y0_1 : Option Nat) (y0_2 : List D) (y0_3 : Nat) (y0_4 : Option Nat) (y0_5 : List D) (y0_6 : Int) : F45_45_3 m 0 y0_0 y0_1 y0_2 y0_3 y0_4 y0_5 y0_6 = none := rfl
theorem F45_45_3_s (m n0 : Nat) (y0_0 : Nat) (y0_1 : Option Nat) (y0_2 : List D) (y0_3 : Nat) (y0_4 : Option Nat) (y0_5 : List D) (y0_6 : Int) : F45_45_3 m (n0 + 1) y0_0 y0_1 y0_2 y0_3 y0_4 y0_5 y0_6 =
 (cond (decide (y0_6 < ((y0_0 : Nat) : Int)))
 (if 0 ≤ y0_6 ∧ y0_6 < ((y0_0 : Nat) : Int) then
 (rdI .u8 y0_2[((Int.toNat y0_6) * 1)]?).bind fun x7 =>
 (sp82 [(D.list y0_3 y0_4 y0_5), (D.v (.int .i64 (256 : Int))), (D.v (.int .i64 (IntKind.wrap .i64 x7)))]).bind fun d8 =>
 (rdL (some d8)).bind fun q9 =>
 F45_45_3 m n0 y0_0 y0_1 y0_2 q9.n q9.cap q9.cs (IntKind.wrap .i64 (y0_6 + (1 : Int)))
 else none)
 (some (D.list y0_3 y0_4 y0_5))) := by kernel_rfl
noncomputable def F45 (m : Nat) (a0n : Nat) (a0c : Option Nat) (a0 : List D) : Option D :=
 F45_45_3 m m a0n a0c a0 0 (some 0) [] (0 : Int)
theorem F45_eq (m : Nat) (a0n : Nat) (a0c : Option Nat) (a0 : List D) : funD Tryd.prog H45 m 3 fh45_45 Tryd.f45 [(D.list a0n a0c a0)] = F45 m a0n a0c a0 := by kernel_rfl
theorem en45 : Enters Tryd.prog 45 := ⟨Tryd.f45, Tryd.func45, by kernel_rfl, by kernel_rfl⟩
theorem dt45 {ds : List D} {d : D} (h : funD Tryd.prog H45 M 3 fh45_45 Tryd.f45 ds = some d) : DataSem Tryd.prog 45 ds d := data_sound (H := H45) (SpOk.cons ds82 SpOk.nil) mixed InlOk.nil Tryd.func45 en45 h
noncomputable def sp45 : List D → Option D
  | [.list a0n a0c a0] => F45 M a0n a0c a0
  | _ => none
theorem ds45 : ∀ ds d, sp45 ds = some d → DataSem Tryd.prog 45 ds d := by
  intro ds d h
  unfold sp45 at h
  split at h
  · exact dt45 ((F45_eq M _ _ _).trans h)
  · cases h

-- ('str', '"vidimus/vidimusref01.Divide"')
def fh57_57 : FnH := ⟨[(4, ⟨[true, true, false, false, false, false, true, true, true, false, false, false, false, false, false, false, false, false, false, false, false, false, false, false, false, false, false, false, false, false, false, false, false, false, false, false, false, false], [], none⟩)], []⟩
noncomputable def H57 : Hints := ⟨[(88, sp88)], []⟩
noncomputable def F57_57_4 (m n0 : Nat) (y0_0 : Nat) (y0_1 : Option Nat) (y0_2 : List D) (y0_3 : Int) (y0_4 : Nat) (y0_5 : Int) (y0_6 : Int) (y0_7 : Nat) (y0_8 : List D) : Option D :=
 loopIter [true, true, false, false, false, false, true, true, true, false, false, false, false, false, false, false, false, false, false, false, false, false, false, false, false, false, false, false, false, false, false, false, false, false, false, false, false, false] 0 1 (codeK Tryd.prog H57.sp 0 (inlK Tryd.prog H57 m 3) m fh57_57 (subc [1, 1, 1, 0, 1, 0, 0] (bodyOf Tryd.f57))) n0 ⟨[(AV.d (D.list y0_0 y0_1 y0_2)), (AV.d (D.v (.int .i64 y0_3))), .junk, .junk, .junk, .junk, (AV.sl 0 0 y0_4 (some y0_4) 1), (AV.d (D.v (.int .i64 y0_5))), (AV.d (D.v (.int .i64 y0_6))), .junk, .junk, .junk, .junk, .junk, .junk, .junk, .junk, .junk, .junk, .junk, .junk, .junk, .junk, .junk, .junk, .junk, .junk, .junk, .junk, .junk, .junk, .junk, .junk, .junk, .junk, .junk, .junk, .junk], [(Blk.d y0_7 y0_8)]⟩
  (contK Tryd.prog H57.sp 0 (inlK Tryd.prog H57 m 3) m fh57_57 (endK Tryd.prog Tryd.f57 (fun v L => viewK L 8 v some)) [.block 0, .code (subc [1, 1, 1, 1] (bodyOf Tryd.f57))])
theorem F57_57_4_0 (m : Nat) (y0_0 : Nat) (y0_1 : Option Nat) (y0_2 : List D) (y0_3 : Int) (y0_4 : Nat) (y0_5 : Int) (y0_6 : Int) (y0_7 : Nat) (y0_8 : List D) : F57_57_4 m 0 y0_0 y0_1 y0_2 y0_3 y0_4 y0_5 y0_6 y0_7 y0_8 = none := rfl
theorem F57_57_4_s (m n0 : Nat) (y0_0 : Nat) (y0_1 : Option Nat) (y0_2 : List D) (y0_3 : Int) (y0_4 : Nat) (y0_5 : Int) (y0_6 : Int) (y0_7 : Nat) (y0_8 : List D) : F57_57_4 m (n0 + 1) y0_0 y0_1 y0_2 y0_3 y0_4 y0_5 y0_6 y0_7 y0_8 =
 (cond (decide (y0_6 ≥ (0 : Int)))
 (if 0 ≤ y0_6 ∧ y0_6 < ((y0_0 : Nat) : Int) then
 (rdI .i64 y0_2[((Int.toNat y0_6) * 1)]?).bind fun x3 =>
 if y0_3 = 0 then none else
 if 0 ≤ y0_6 ∧ y0_6 < ((y0_4 : Nat) : Int) then
 if 1 = 1 ∧ (0 + ((Int.toNat y0_6) * 1)) < y0_7 then
 if y0_3 = 0 then none else
 F57_57_4 m n0 y0_0 y0_1 y0_2 y0_3 y0_4 (Int.tmod (IntKind.wrap .i64 ((IntKind.wrap .i64 ((10 : Int) * y0_5)) + x3)) y0_3) (IntKind.wrap .i64 (y0_6 - (1 : Int))) y0_7 (List.set y0_8 (0 + ((Int.toNat y0_6) * 1)) (D.v (.int .i64 (IntKind.wrap .i64 (Int.tdiv (IntKind.wrap .i64 ((IntKind.wrap .i64 ((10 : Int) * y0_5)) + x3)) y0_3)))))
 else none
 else none
 else none)
 (if (0 + (y0_4 * 1)) ≤ y0_7 then
 (sp88 [(D.list y0_4 (some y0_4) (cutL y0_7 y0_8 0 (y0_4 * 1)))]).bind fun d4 =>
 (rdL (some d4)).bind fun q5 =>
 if (0 + (y0_4 * 1)) ≤ y0_7 then
 if (0 + (y0_4 * 1)) ≤ y0_7 then
 some (D.tup [(D.list q5.n q5.cap q5.cs), (D.v (.int .i64 y0_5))])
 else none
 else none
 else none)) := by kernel_rfl
noncomputable def F57 (m : Nat) (a0n : Nat) (a0c : Option Nat) (a0 : List D) (a1 : Int) : Option D :=
 if 0 ≤ ((a0n : Nat) : Int) ∧ ((a0n : Nat) : Int) ≤ ((a0n : Nat) : Int) ∧ fitsRow (Int.toNat ((a0n : Nat) : Int)) 8 then
 F57_57_4 m m a0n a0c a0 a1 (Int.toNat ((a0n : Nat) : Int)) (0 : Int) (IntKind.wrap .i64 (((a0n : Nat) : Int) - (1 : Int))) ((Int.toNat ((a0n : Nat) : Int)) * 1) (List.flatten (List.replicate (Int.toNat ((a0n : Nat) : Int)) [(D.v (.int .i64 (0 : Int)))]))
 else none
theorem F57_eq (m : Nat) (a0n : Nat) (a0c : Option Nat) (a0 : List D) (a1 : Int) : funD Tryd.prog H57 m 3 fh57_57 Tryd.f57 [(D.list a0n a0c a0), (D.v (.int .i64 a1))] = F57 m a0n a0c a0 a1 := by kernel_rfl
theorem en57 : Enters Tryd.prog 57 := ⟨Tryd.f57, Tryd.func57, by kernel_rfl, by kernel_rfl⟩
theorem dt57 {ds : List D} {d : D} (h : funD Tryd.prog H57 M 3 fh57_57 Tryd.f57 ds = some d) : DataSem Tryd.prog 57 ds d := data_sound (H := H57) (SpOk.cons ds88 SpOk.nil) mixed InlOk.nil Tryd.func57 en57 h
noncomputable def sp57 : List D → Option D
  | [.list a0n a0c a0, .v (.int .i64 a1)] => F57 M a0n a0c a0 a1
  | _ => none
theorem ds57 : ∀ ds d, sp57 ds = some d → DataSem Tryd.prog 57 ds d := by
  intro ds d h
  unfold sp57 at h
  split at h
  · exact dt57 ((F57_eq M _ _ _ _).trans h)
  · cases h

-- ('str', '"(vidimus/vidimusref01.D).Bytes"')
def fh76_76 : FnH := ⟨[(2, ⟨[true, false, false, true, false, false, false, false, false, false, false, false, false, false, false, false, false, false, false, false, false], [], none⟩)], []⟩
noncomputable def H76 : Hints := ⟨[(57, sp57)], []⟩
noncomputable def F76_76_2 (m n0 : Nat) (y0_0 : Nat) (y0_1 : Option Nat) (y0_2 : List D) (y0_3 : Nat) (y0_4 : Option Nat) (y0_5 : List D) : Option D :=
 loopIter [true, false, false, true, false, false, false, false, false, false, false, false, false, false, false, false, false, false, false, false, false] 0 0 (codeK Tryd.prog H76.sp 0 (inlK Tryd.prog H76 m 3) m fh76_76 (subc [1, 1, 0, 0, 0] (bodyOf Tryd.f76))) n0 ⟨[(AV.d (D.list y0_0 y0_1 y0_2)), .junk, .junk, (AV.d (D.list y0_3 y0_4 y0_5)), .junk, .junk, .junk, .junk, .junk, .junk, .junk, .junk, .junk, .junk, .junk, .junk, .junk, .junk, .junk, .junk, .junk], []⟩
  (contK Tryd.prog H76.sp 0 (inlK Tryd.prog H76 m 3) m fh76_76 (endK Tryd.prog Tryd.f76 (fun v L => viewK L 8 v some)) [.block 0, .code (subc [1, 1, 1] (bodyOf Tryd.f76))])
theorem F76_76_2_0 (m : Nat) (y0_0 : Nat) (y0_1 : Option Nat) (y0_2 : List D) (y0_3 : Nat) (y0_4 : Option Nat) (y0_5 : List D) : F76_76_2 m 0 y0_0 y0_1 y0_2 y0_3 y0_4 y0_5 = none := rfl
theorem F76_76_2_s (m n0 : Nat) (y0_0 : Nat) (y0_1 : Option Nat) (y0_2 : List D) (y0_3 : Nat) (y0_4 : Option Nat) (y0_5 : List D) : F76_76_2 m (n0 + 1) y0_0 y0_1 y0_2 y0_3 y0_4 y0_5 =
 (cond (decide (((y0_0 : Nat) : Int) > (0 : Int)))
 ((sp57 [(D.list y0_0 y0_1 y0_2), (D.v (.int .i64 (256 : Int)))]).bind fun d13 =>
 (rdT d13).bind fun r14 =>
 if List.length r14 = 2 then
 (rdL r14[0]?).bind fun q15 =>
 (rdI .i64 r14[1]?).bind fun x16 =>
 if (List.length y0_5) = (y0_3 * 1) then
 if (1 + y0_3) ≤ 1 then
 (if (0 + ((1 + y0_3) * 1)) ≤ 1 ∧ (List.length y0_5) = (y0_3 * 1) then
 if (0 + ((1 + y0_3) * 1)) ≤ 1 then
 F76_76_2 m n0 q15.n q15.cap q15.cs (1 + y0_3) (some 1) (cutL 1 (List.take 1 [(D.v (.int .u8 (IntKind.wrap .u8 x16)))] ++ (y0_5 ++ List.drop (0 + ((1 + y0_3) * 1)) [(D.v (.int .u8 (IntKind.wrap .u8 x16)))])) 0 ((1 + y0_3) * 1))
 else none
 else none)
 else
 (if fitsRow (1 + y0_3) 1 ∧ (List.length y0_5) = (y0_3 * 1) then
 if (0 + ((1 + y0_3) * 1)) ≤ ((1 + y0_3) * 1) then
 F76_76_2 m n0 q15.n q15.cap q15.cs (1 + y0_3) none (cutL ((1 + y0_3) * 1) ([(D.v (.int .u8 (IntKind.wrap .u8 x16)))] ++ y0_5) 0 ((1 + y0_3) * 1))
 else none
 else none)
 else none
 else none)
 (some (D.list y0_3 y0_4 y0_5))) := by kernel_rfl
noncomputable def F76 (m : Nat) (a0n : Nat) (a0c : Option Nat) (a0 : List D) : Option D :=
 F76_76_2 m m a0n a0c a0 0 (some 0) []
theorem F76_eq (m : Nat) (a0n : Nat) (a0c : Option Nat) (a0 : List D) : funD Tryd.prog H76 m 3 fh76_76 Tryd.f76 [(D.list a0n a0c a0)] = F76 m a0n a0c a0 := by kernel_rfl
theorem en76 : Enters Tryd.prog 76 := ⟨Tryd.f76, Tryd.func76, by kernel_rfl, by kernel_rfl⟩
theorem dt76 {ds : List D} {d : D} (h : funD Tryd.prog H76 M 3 fh76_76 Tryd.f76 ds = some d) : DataSem Tryd.prog 76 ds d := data_sound (H := H76) (SpOk.cons ds57 SpOk.nil) mixed InlOk.nil Tryd.func76 en76 h
noncomputable def sp76 : List D → Option D
  | [.list a0n a0c a0] => F76 M a0n a0c a0
  | _ => none
theorem ds76 : ∀ ds d, sp76 ds = some d → DataSem Tryd.prog 76 ds d := by
  intro ds d h
  unfold sp76 at h
  split at h
  · exact dt76 ((F76_eq M _ _ _).trans h)
  · cases h

-- ('str', '"vidimus/vidimusref05.GetNat"')
def fh32_32 : FnH := ⟨[], [(3, ⟨[true, false, false, false, false, false, false, false, false, false, false, false, false, false, false, false, false, false, false, false, false, false, false, false, false, false, false, false, false, false, false, false, false, false, false, false, false, false], [], none⟩)]⟩
noncomputable def H32 : Hints := ⟨[(45, sp45), (76, sp76)], []⟩
noncomputable def F32_32_j3 (m : Nat) (u0_0 : Nat) (u0_1 : Option Nat) (u0_2 : List D) : Option D :=
 cutK (codeK Tryd.prog H32.sp 0 (inlK Tryd.prog H32 m 3) m fh32_32 (subc [1, 1] (bodyOf Tryd.f32)) ⟨[(AV.d (D.list u0_0 u0_1 u0_2)), .junk, .junk, .junk, .junk, .junk, .junk, .junk, .junk, .junk, .junk, .junk, .junk, .junk, .junk, .junk, .junk, .junk, .junk, .junk, .junk, .junk, .junk, .junk, .junk, .junk, .junk, .junk, .junk, .junk, .junk, .junk, .junk, .junk, .junk, .junk, .junk, .junk], []⟩
  (contK Tryd.prog H32.sp 0 (inlK Tryd.prog H32 m 3) m fh32_32 (endK Tryd.prog Tryd.f32 (fun v L => viewK L 8 v some)) []))
theorem F32_32_j3_e (m : Nat) (u0_0 : Nat) (u0_1 : Option Nat) (u0_2 : List D) : F32_32_j3 m u0_0 u0_1 u0_2 =
 ((sp45 [(D.list u0_0 u0_1 u0_2)]).bind fun d4 =>
 (rdL (some d4)).bind fun q5 =>
 (sp76 [(D.list q5.n q5.cap q5.cs)]).bind fun d6 =>
 (rdL (some d6)).bind fun q7 =>
 cond (decide (((q7.n : Nat) : Int) > (64 : Int)))
 (some (D.tup [(D.list 0 (some 0) []), (D.v (.int .i64 (3 : Int)))]))
 (some (D.tup [(D.list q7.n q7.cap q7.cs), (D.v (.int .i64 (0 : Int)))]))) := by kernel_rfl
noncomputable def F32 (m : Nat) (a0n : Nat) (a0c : Option Nat) (a0 : List D) : Option D :=
 cond (((a0n : Nat) : Int) == (0 : Int))
 (some (D.tup [(D.list 0 (some 0) []), (D.v (.int .i64 (11 : Int)))]))
 (if 0 ≤ (0 : Int) ∧ (0 : Int) < ((a0n : Nat) : Int) then
 (rdI .u8 a0[0]?).bind fun x1 =>
 cond (decide (x1 > (127 : Int)))
 (some (D.tup [(D.list 0 (some 0) []), (D.v (.int .i64 (11 : Int)))]))
 (cond (decide (((a0n : Nat) : Int) > (1 : Int)))
 (if 0 ≤ (0 : Int) ∧ (0 : Int) < ((a0n : Nat) : Int) then
 (rdI .u8 a0[0]?).bind fun x2 =>
 cond (x2 == (0 : Int))
 (if 0 ≤ (1 : Int) ∧ (1 : Int) < ((a0n : Nat) : Int) then
 (rdI .u8 a0[1]?).bind fun x3 =>
 cond (decide (x3 < (128 : Int)))
 (some (D.tup [(D.list 0 (some 0) []), (D.v (.int .i64 (11 : Int)))]))
 (F32_32_j3 m a0n a0c a0)
 else none)
 (F32_32_j3 m a0n a0c a0)
 else none)
 (F32_32_j3 m a0n a0c a0))
 else none)
theorem F32_eq (m : Nat) (a0n : Nat) (a0c : Option Nat) (a0 : List D) : funD Tryd.prog H32 m 3 fh32_32 Tryd.f32 [(D.list a0n a0c a0)] = F32 m a0n a0c a0 := by kernel_rfl
theorem en32 : Enters Tryd.prog 32 := ⟨Tryd.f32, Tryd.func32, by kernel_rfl, by kernel_rfl⟩
theorem dt32 {ds : List D} {d : D} (h : funD Tryd.prog H32 M 3 fh32_32 Tryd.f32 ds = some d) : DataSem Tryd.prog 32 ds d := data_sound (H := H32) (SpOk.cons ds45 (SpOk.cons ds76 SpOk.nil)) mixed InlOk.nil Tryd.func32 en32 h
noncomputable def sp32 : List D → Option D
  | [.list a0n a0c a0] => F32 M a0n a0c a0
  | _ => none
theorem ds32 : ∀ ds d, sp32 ds = some d → DataSem Tryd.prog 32 ds d := by
  intro ds d h
  unfold sp32 at h
  split at h
  · exact dt32 ((F32_eq M _ _ _).trans h)
  · cases h

-- ('str', '"vidimus/vidimuslaw05.ScalarsGet"')
def fh4_4 : FnH := ⟨[], [(7, ⟨[true, false, false, false, false, false, false, false, false, false, false, false, false, false, false, false, false, false, false, false, false, false, false, false, false, false, false, false, false, false, false, false, false, false, false, false, false, false, false, false, false, false, false, false, false, false, false, false, false, false, false, false, false, false, false, false, false, false, false, false, false, false, false, false, false, false, false, false, false, false, false, false, false, false, false, false, false, false, false, false, false, false, false, false, false, false, false, false, false, false, false, false], [], none⟩), (10, ⟨[true, false, false, false, false, false, false, false, false, false, false, false, false, false, false, false, false, false, false, false, false, false, false, false, false, false, false, false, false, false, false, false, false, false, false, false, false, false, false, false, false, false, false, false, false, false, false, false, false, false, false, false, false, false, false, false, false, false, false, false, false, false, false, false, false, false, false, false, false, false, false, false, false, false, false, false, false, false, false, false, false, false, false, false, false, false, false, false, false, false, false, false], [], none⟩)]⟩
noncomputable def H4 : Hints := ⟨[(18, sp18), (20, sp20), (21, sp21), (27, sp27), (28, sp28), (29, sp29), (30, sp30), (31, sp31), (32, sp32), (33, sp33), (34, sp34)], []⟩
noncomputable def F4_4_j7 (m : Nat) (u0_0 : Nat) (u0_1 : Option Nat) (u0_2 : List D) : Option D :=
 cutK (codeK Tryd.prog H4.sp 0 (inlK Tryd.prog H4 m 3) m fh4_4 (subc [1, 1, 1, 1, 1] (bodyOf Tryd.f4)) ⟨[(AV.d (D.list u0_0 u0_1 u0_2)), .junk, .junk, .junk, .junk, .junk, .junk, .junk, .junk, .junk, .junk, .junk, .junk, .junk, .junk, .junk, .junk, .junk, .junk, .junk, .junk, .junk, .junk, .junk, .junk, .junk, .junk, .junk, .junk, .junk, .junk, .junk, .junk, .junk, .junk, .junk, .junk, .junk, .junk, .junk, .junk, .junk, .junk, .junk, .junk, .junk, .junk, .junk, .junk, .junk, .junk, .junk, .junk, .junk, .junk, .junk, .junk, .junk, .junk, .junk, .junk, .junk, .junk, .junk, .junk, .junk, .junk, .junk, .junk, .junk, .junk, .junk, .junk, .junk, .junk, .junk, .junk, .junk, .junk, .junk, .junk, .junk, .junk, .junk, .junk, .junk, .junk, .junk, .junk, .junk, .junk, .junk], []⟩
  (contK Tryd.prog H4.sp 0 (inlK Tryd.prog H4 m 3) m fh4_4 (endK Tryd.prog Tryd.f4 (fun v L => viewK L 8 v some)) []))
noncomputable def F4_4_j10 (m : Nat) (u1_0 : Nat) (u1_1 : Option Nat) (u1_2 : List D) : Option D :=
 cutK (codeK Tryd.prog H4.sp 0 (inlK Tryd.prog H4 m 3) m fh4_4 (subc [1, 1, 1, 1, 1, 1, 1] (bodyOf Tryd.f4)) ⟨[(AV.d (D.list u1_0 u1_1 u1_2)), .junk, .junk, .junk, .junk, .junk, .junk, .junk, .junk, .junk, .junk, .junk, .junk, .junk, .junk, .junk, .junk, .junk, .junk, .junk, .junk, .junk, .junk, .junk, .junk, .junk, .junk, .junk, .junk, .junk, .junk, .junk, .junk, .junk, .junk, .junk, .junk, .junk, .junk, .junk, .junk, .junk, .junk, .junk, .junk, .junk, .junk, .junk, .junk, .junk, .junk, .junk, .junk, .junk, .junk, .junk, .junk, .junk, .junk, .junk, .junk, .junk, .junk, .junk, .junk, .junk, .junk, .junk, .junk, .junk, .junk, .junk, .junk, .junk, .junk, .junk, .junk, .junk, .junk, .junk, .junk, .junk, .junk, .junk, .junk, .junk, .junk, .junk, .junk, .junk, .junk, .junk], []⟩
  (contK Tryd.prog H4.sp 0 (inlK Tryd.prog H4 m 3) m fh4_4 (endK Tryd.prog Tryd.f4 (fun v L => viewK L 8 v some)) []))
theorem F4_4_j10_e (m : Nat) (u1_0 : Nat) (u1_1 : Option Nat) (u1_2 : List D) : F4_4_j10 m u1_0 u1_1 u1_2 =
 ((sp32 [(D.list u1_0 u1_1 u1_2)]).bind fun d25 =>
 (rdT d25).bind fun r26 =>
 if List.length r26 = 2 then
 (rdL r26[0]?).bind fun q27 =>
 (rdI .i64 r26[1]?).bind fun x28 =>
 (sp33 [(D.list u1_0 u1_1 u1_2), (D.list q27.n q27.cap q27.cs), (D.v (.int .i64 x28))]).bind fun d29 =>
 (rdB (some d29)).bind fun b30 =>
 cond (!b30)
 (some (D.v (.bool false)))
 (cond (x28 != (0 : Int))
 ((sp27 []).bind fun d31 =>
 (rdB (some d31)).bind fun b32 =>
 some (D.v (.bool b32)))
 ((sp34 [(D.list q27.n q27.cap q27.cs)]).bind fun d33 =>
 (rdT d33).bind fun r34 =>
 if List.length r34 = 2 then
 (rdL r34[0]?).bind fun q35 =>
 (rdI .i64 r34[1]?).bind fun x36 =>
 (sp20 [(D.list q35.n q35.cap q35.cs), (D.v (.int .i64 x36)), (D.list u1_0 u1_1 u1_2), (D.v (.int .i64 (0 : Int)))]).bind fun d37 =>
 (rdB (some d37)).bind fun b38 =>
 cond b38
 ((sp27 []).bind fun d39 =>
 (rdB (some d39)).bind fun b40 =>
 some (D.v (.bool b40)))
 (some (D.v (.bool false)))
 else none))
 else none) := by kernel_rfl
theorem F4_4_j7_e (m : Nat) (u0_0 : Nat) (u0_1 : Option Nat) (u0_2 : List D) : F4_4_j7 m u0_0 u0_1 u0_2 =
 ((sp31 [(D.list u0_0 u0_1 u0_2)]).bind fun d15 =>
 (rdT d15).bind fun r16 =>
 if List.length r16 = 2 then
 (rdI .i64 r16[0]?).bind fun x17 =>
 (rdI .i64 r16[1]?).bind fun x18 =>
 (sp21 [(D.list u0_0 u0_1 u0_2), (D.v (.int .i64 x17)), (D.v (.int .i64 x18))]).bind fun d19 =>
 (rdB (some d19)).bind fun b20 =>
 cond (!b20)
 (some (D.v (.bool false)))
 (cond (x18 == (0 : Int))
 ((sp18 [(D.v (.int .i64 x17))]).bind fun d21 =>
 (rdL (some d21)).bind fun q22 =>
 if (List.length q22.cs) = q22.n then
 (bytesOf q22.cs).bind fun l23 =>
 if (List.length u0_2) = u0_0 then
 (bytesOf u0_2).bind fun l24 =>
 cond (!(ByteArray.toList (ByteArray.mk (List.toArray l23)) == ByteArray.toList (ByteArray.mk (List.toArray l24))))
 (some (D.v (.bool false)))
 (F4_4_j10 m u0_0 u0_1 u0_2)
 else none
 else none)
 (F4_4_j10 m u0_0 u0_1 u0_2))
 else none) := by kernel_rfl
noncomputable def F4 (m : Nat) (a0n : Nat) (a0c : Option Nat) (a0 : List D) : Option D :=
 cond (decide (((a0n : Nat) : Int) > (80 : Int)))
 ((sp27 []).bind fun d1 =>
 (rdB (some d1)).bind fun b2 =>
 some (D.v (.bool b2)))
 ((sp28 [(D.list a0n a0c a0)]).bind fun d3 =>
 (rdT d3).bind fun r4 =>
 if List.length r4 = 2 then
 (rdB r4[0]?).bind fun b5 =>
 (rdI .i64 r4[1]?).bind fun x6 =>
 (sp29 [(D.list a0n a0c a0)]).bind fun d7 =>
 (rdT d7).bind fun r8 =>
 if List.length r8 = 2 then
 (rdB r8[0]?).bind fun b9 =>
 (rdI .i64 r8[1]?).bind fun x10 =>
 cond (!(b5 == b9))
 (some (D.v (.bool false)))
 (cond (x6 != x10)
 (some (D.v (.bool false)))
 (cond (x6 == (0 : Int))
 ((sp30 [(D.v (.bool b5))]).bind fun d11 =>
 (rdL (some d11)).bind fun q12 =>
 if (List.length q12.cs) = q12.n then
 (bytesOf q12.cs).bind fun l13 =>
 if (List.length a0) = a0n then
 (bytesOf a0).bind fun l14 =>
 cond (!(ByteArray.toList (ByteArray.mk (List.toArray l13)) == ByteArray.toList (ByteArray.mk (List.toArray l14))))
 (some (D.v (.bool false)))
 (F4_4_j7 m a0n a0c a0)
 else none
 else none)
 (F4_4_j7 m a0n a0c a0)))
 else none
 else none)
theorem F4_eq (m : Nat) (a0n : Nat) (a0c : Option Nat) (a0 : List D) : funD Tryd.prog H4 m 3 fh4_4 Tryd.f4 [(D.list a0n a0c a0)] = F4 m a0n a0c a0 := by kernel_rfl
theorem en4 : Enters Tryd.prog 4 := ⟨Tryd.f4, Tryd.func4, by kernel_rfl, by kernel_rfl⟩
theorem dt4 {ds : List D} {d : D} (h : funD Tryd.prog H4 M 3 fh4_4 Tryd.f4 ds = some d) : DataSem Tryd.prog 4 ds d := data_sound (H := H4) (SpOk.cons ds18 (SpOk.cons ds20 (SpOk.cons ds21 (SpOk.cons ds27 (SpOk.cons ds28 (SpOk.cons ds29 (SpOk.cons ds30 (SpOk.cons ds31 (SpOk.cons ds32 (SpOk.cons ds33 (SpOk.cons ds34 SpOk.nil))))))))))) mixed InlOk.nil Tryd.func4 en4 h
noncomputable def sp4 : List D → Option D
  | [.list a0n a0c a0] => F4 M a0n a0c a0
  | _ => none
theorem ds4 : ∀ ds d, sp4 ds = some d → DataSem Tryd.prog 4 ds d := by
  intro ds d h
  unfold sp4 at h
  split at h
  · exact dt4 ((F4_eq M _ _ _).trans h)
  · cases h

end Go.Ev
