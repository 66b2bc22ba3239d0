/- Functions of the given program in plain form, printed: each with the proof that it is what the evaluator comes to, and that the program function returns what it says. No conditions. -/
import Derived.Test.YtilgfaangfbndaaDoorEvG5c
set_option linter.unusedVariables false
set_option maxRecDepth 100000
namespace Go.Ev
open Go Go.Proofs

-- ('str', '"(vidimus/vidimusref01.D).at"')
def fh87_87 : FnH := ⟨[], []⟩
noncomputable def H87 : Hints := ⟨[], []⟩
noncomputable def F87 (m : Nat) (a0n : Nat) (a0c : Option Nat) (a0 : List D) (a1 : Int) : Option D :=
 cond (decide (a1 < ((a0n : Nat) : Int)))
 (if 0 ≤ a1 ∧ a1 < ((a0n : Nat) : Int) then
 (rdI .i64 a0[((Int.toNat a1) * 1)]?).bind fun x1 =>
 some (D.v (.int .i64 x1))
 else none)
 (some (D.v (.int .i64 (0 : Int))))
theorem F87_eq (m : Nat) (a0n : Nat) (a0c : Option Nat) (a0 : List D) (a1 : Int) : funD Tryd.prog H87 m 3 fh87_87 Tryd.f87 [(D.list a0n a0c a0), (D.v (.int .i64 a1))] = F87 m a0n a0c a0 a1 := by kernel_rfl
theorem en87 : Enters Tryd.prog 87 := ⟨Tryd.f87, Tryd.func87, by kernel_rfl, by kernel_rfl⟩
theorem dt87 {ds : List D} {d : D} (h : funD Tryd.prog H87 M 3 fh87_87 Tryd.f87 ds = some d) : DataSem Tryd.prog 87 ds d := data_sound (H := H87) SpOk.nil mixed InlOk.nil Tryd.func87 en87 h
noncomputable def sp87 : List D → Option D
  | [.list a0n a0c a0, .v (.int .i64 a1)] => F87 M a0n a0c a0 a1
  | _ => none
theorem ds87 : ∀ ds d, sp87 ds = some d → DataSem Tryd.prog 87 ds d := by
  intro ds d h
  unfold sp87 at h
  split at h
  · exact dt87 ((F87_eq M _ _ _ _).trans h)
  · cases h

-- ('str', '"(vidimus/vidimusref01.D).Plus"')
def fh48_48 : FnH := ⟨[(4, ⟨[true, true, false, false, false, true, true, true, false, false, false, false, false, false, false, false, false, false, false, false, false, false, false, false, false, false, false, false, false, false, false, false, false, false, false, false, false, false, false, false, false, false], [(5, 1)], (some 1)⟩)], [(6, ⟨[true, true, false, false, false, true, true, true, false, false, false, false, false, false, false, false, false, false, false, false, false, false, false, false, false, false, false, false, false, false, false, false, false, false, false, false, false, false, false, false, false, false], [], (some 1)⟩), (9, ⟨[false, false, false, false, false, true, false, false, false, false, false, false, false, false, false, false, false, false, false, false, false, false, false, false, false, false, false, false, false, false, false, false, false, false, false, false, false, false, false, false, false, false], [], (some 1)⟩)]⟩
noncomputable def H48 : Hints := ⟨[(87, sp87), (88, sp88)], []⟩
noncomputable def F48_48_4 (m n0 : Nat) (y0_0 : Nat) (y0_1 : Option Nat) (y0_2 : List D) (y0_3 : Nat) (y0_4 : Option Nat) (y0_5 : List D) (y0_6 : Nat) (y0_7 : Int) (y0_8 : Int) (y0_9 : Nat) (y0_10 : List D) : Option D :=
 loopIter [true, true, false, false, false, true, true, true, false, false, false, false, false, false, false, false, false, false, false, false, false, false, false, false, false, false, false, false, false, false, false, false, false, false, false, false, false, false, false, false, false, false] 0 1 (codeK Tryd.prog H48.sp 0 (inlK Tryd.prog H48 m 3) m fh48_48 (subc [1, 1, 1, 0, 1, 0, 0] (bodyOf Tryd.f48))) n0 ⟨[(AV.d (D.list y0_0 y0_1 y0_2)), (AV.d (D.list y0_3 y0_4 y0_5)), .junk, .junk, .junk, (AV.sl 0 0 y0_6 none 1), (AV.d (D.v (.int .i64 y0_7))), (AV.d (D.v (.int .i64 y0_8))), .junk, .junk, .junk, .junk, .junk, .junk, .junk, .junk, .junk, .junk, .junk, .junk, .junk, .junk, .junk, .junk, .junk, .junk, .junk, .junk, .junk, .junk, .junk, .junk, .junk, .junk, .junk, .junk, .junk, .junk, .junk, .junk, .junk, .junk], [(Blk.d y0_9 y0_10)]⟩
  (contK Tryd.prog H48.sp 0 (inlK Tryd.prog H48 m 3) m fh48_48 (endK Tryd.prog Tryd.f48 (fun v L => viewK L 8 v some)) [.block 0, .code (subc [1, 1, 1, 1] (bodyOf Tryd.f48))])
noncomputable def F48_48_j6 (m n0 : Nat) (u0_0 : Nat) (u0_1 : Option Nat) (u0_2 : List D) (u0_3 : Nat) (u0_4 : Option Nat) (u0_5 : List D) (u0_6 : Nat) (u0_7 : Int) (u0_8 : Int) (u0_9 : Nat) (u0_10 : List D) : Option D :=
 cutK (codeK Tryd.prog H48.sp 0 (inlK Tryd.prog H48 m 3) m fh48_48 (subc [1, 1, 1, 0, 1, 0, 0, 1] (bodyOf Tryd.f48)) ⟨[(AV.d (D.list u0_0 u0_1 u0_2)), (AV.d (D.list u0_3 u0_4 u0_5)), .junk, .junk, .junk, (AV.sl 0 0 u0_6 none 1), (AV.d (D.v (.int .i64 u0_7))), (AV.d (D.v (.int .i64 u0_8))), .junk, .junk, .junk, .junk, .junk, .junk, .junk, .junk, .junk, .junk, .junk, .junk, .junk, .junk, .junk, .junk, .junk, .junk, .junk, .junk, .junk, .junk, .junk, .junk, .junk, .junk, .junk, .junk, .junk, .junk, .junk, .junk, .junk, .junk], [(Blk.d u0_9 u0_10)]⟩
  (contK Tryd.prog H48.sp 0 (inlK Tryd.prog H48 m 3) m fh48_48 (endK Tryd.prog Tryd.f48 (fun v L => viewK L 8 v some)) [.loop [true, true, false, false, false, true, true, true, false, false, false, false, false, false, false, false, false, false, false, false, false, false, false, false, false, false, false, false, false, false, false, false, false, false, false, false, false, false, false, false, false, false] 1 (subc [1, 1, 1, 0, 1, 0, 0] (bodyOf Tryd.f48)) n0, .block 0, .code (subc [1, 1, 1, 1] (bodyOf Tryd.f48))]))
theorem F48_48_j6_e (m n0 : Nat) (u0_0 : Nat) (u0_1 : Option Nat) (u0_2 : List D) (u0_3 : Nat) (u0_4 : Option Nat) (u0_5 : List D) (u0_6 : Nat) (u0_7 : Int) (u0_8 : Int) (u0_9 : Nat) (u0_10 : List D) : F48_48_j6 m n0 u0_0 u0_1 u0_2 u0_3 u0_4 u0_5 u0_6 u0_7 u0_8 u0_9 u0_10 =
 ((sp87 [(D.list u0_0 u0_1 u0_2), (D.v (.int .i64 u0_8))]).bind fun d9 =>
 (rdI .i64 (some d9)).bind fun x10 =>
 (sp87 [(D.list u0_3 u0_4 u0_5), (D.v (.int .i64 u0_8))]).bind fun d11 =>
 (rdI .i64 (some d11)).bind fun x12 =>
 if 0 ≤ 0 ∧ u0_9 = (u0_6 * 1) ∧ fitsRow (u0_6 + 1) 8 ∧ 1 = 1 then
 F48_48_4 m n0 u0_0 u0_1 u0_2 u0_3 u0_4 u0_5 (u0_6 + 1) (IntKind.wrap .i64 (Int.tdiv (IntKind.wrap .i64 (u0_7 + (IntKind.wrap .i64 (x10 + x12)))) (10 : Int))) (IntKind.wrap .i64 (u0_8 + (1 : Int))) ((u0_6 + 1) * 1) (u0_10 ++ [(D.v (.int .i64 (Int.tmod (IntKind.wrap .i64 (u0_7 + (IntKind.wrap .i64 (x10 + x12)))) (10 : Int))))])
 else none) := by kernel_rfl
noncomputable def F48_48_j9 (m : Nat) (u1_0 : Nat) (u1_1 : Nat) (u1_2 : List D) : Option D :=
 cutK (codeK Tryd.prog H48.sp 0 (inlK Tryd.prog H48 m 3) m fh48_48 (subc [1, 1, 1, 1] (bodyOf Tryd.f48)) ⟨[.junk, .junk, .junk, .junk, .junk, (AV.sl 0 0 u1_0 none 1), .junk, .junk, .junk, .junk, .junk, .junk, .junk, .junk, .junk, .junk, .junk, .junk, .junk, .junk, .junk, .junk, .junk, .junk, .junk, .junk, .junk, .junk, .junk, .junk, .junk, .junk, .junk, .junk, .junk, .junk, .junk, .junk, .junk, .junk, .junk, .junk], [(Blk.d u1_1 u1_2)]⟩
  (contK Tryd.prog H48.sp 0 (inlK Tryd.prog H48 m 3) m fh48_48 (endK Tryd.prog Tryd.f48 (fun v L => viewK L 8 v some)) []))
theorem F48_48_j9_e (m : Nat) (u1_0 : Nat) (u1_1 : Nat) (u1_2 : List D) : F48_48_j9 m u1_0 u1_1 u1_2 =
 (if (0 + (u1_0 * 1)) ≤ u1_1 then
 (sp88 [(D.list u1_0 none (cutL u1_1 u1_2 0 (u1_0 * 1)))]).bind fun d13 =>
 (rdL (some d13)).bind fun q14 =>
 if (0 + (u1_0 * 1)) ≤ u1_1 then
 if (0 + (u1_0 * 1)) ≤ u1_1 then
 some (D.list q14.n q14.cap q14.cs)
 else none
 else none
 else none) := by kernel_rfl
theorem F48_48_4_0 (m : Nat) (y0_0 : Nat) (y0_1 : Option Nat) (y0_2 : List D) (y0_3 : Nat) (y0_4 : Option Nat) (y0_5 : List D) (y0_6 : Nat) (y0_7 : Int) (y0_8 : Int) (y0_9 : Nat) (y0_10 : List D) : F48_48_4 m 0 y0_0 y0_1 y0_2 y0_3 y0_4 y0_5 y0_6 y0_7 y0_8 y0_9 y0_10 = none := rfl
theorem F48_48_4_s (m n0 : Nat) (y0_0 : Nat) (y0_1 : Option Nat) (y0_2 : List D) (y0_3 : Nat) (y0_4 : Option Nat) (y0_5 : List D) (y0_6 : Nat) (y0_7 : Int) (y0_8 : Int) (y0_9 : Nat) (y0_10 : List D) : F48_48_4 m (n0 + 1) y0_0 y0_1 y0_2 y0_3 y0_4 y0_5 y0_6 y0_7 y0_8 y0_9 y0_10 =
 (cond (decide (y0_8 < ((y0_0 : Nat) : Int)))
 (F48_48_j6 m n0 y0_0 y0_1 y0_2 y0_3 y0_4 y0_5 y0_6 y0_7 y0_8 y0_9 y0_10)
 (cond (decide (y0_8 < ((y0_3 : Nat) : Int)))
 (F48_48_j6 m n0 y0_0 y0_1 y0_2 y0_3 y0_4 y0_5 y0_6 y0_7 y0_8 y0_9 y0_10)
 (cond (decide (y0_7 > (0 : Int)))
 (F48_48_j6 m n0 y0_0 y0_1 y0_2 y0_3 y0_4 y0_5 y0_6 y0_7 y0_8 y0_9 y0_10)
 (F48_48_j9 m y0_6 y0_9 y0_10)))) := by kernel_rfl
noncomputable def F48 (m : Nat) (a0n : Nat) (a0c : Option Nat) (a0 : List D) (a1n : Nat) (a1c : Option Nat) (a1 : List D) : Option D :=
 F48_48_4 m m a0n a0c a0 a1n a1c a1 0 (0 : Int) (0 : Int) 0 []
theorem F48_eq (m : Nat) (a0n : Nat) (a0c : Option Nat) (a0 : List D) (a1n : Nat) (a1c : Option Nat) (a1 : List D) : funD Tryd.prog H48 m 3 fh48_48 Tryd.f48 [(D.list a0n a0c a0), (D.list a1n a1c a1)] = F48 m a0n a0c a0 a1n a1c a1 := by kernel_rfl
theorem en48 : Enters Tryd.prog 48 := ⟨Tryd.f48, Tryd.func48, by kernel_rfl, by kernel_rfl⟩
theorem dt48 {ds : List D} {d : D} (h : funD Tryd.prog H48 M 3 fh48_48 Tryd.f48 ds = some d) : DataSem Tryd.prog 48 ds d := data_sound (H := H48) (SpOk.cons ds87 (SpOk.cons ds88 SpOk.nil)) mixed InlOk.nil Tryd.func48 en48 h
noncomputable def sp48 : List D → Option D
  | [.list a0n a0c a0, .list a1n a1c a1] => F48 M a0n a0c a0 a1n a1c a1
  | _ => none
theorem ds48 : ∀ ds d, sp48 ds = some d → DataSem Tryd.prog 48 ds d := by
  intro ds d h
  unfold sp48 at h
  split at h
  · exact dt48 ((F48_eq M _ _ _ _ _ _).trans h)
  · cases h

-- ('str', '"vidimus/vidimuslaw01.fits"')
def fh49_49 : FnH := ⟨[], []⟩
noncomputable def H49 : Hints := ⟨[(76, sp76)], []⟩
noncomputable def F49 (m : Nat) (a0n : Nat) (a0c : Option Nat) (a0 : List D) : Option D :=
 (sp76 [(D.list a0n a0c a0)]).bind fun d1 =>
 (rdL (some d1)).bind fun q2 =>
 cond (decide (((q2.n : Nat) : Int) > (64 : Int)))
 (some (D.v (.int .i64 (3 : Int))))
 (some (D.v (.int .i64 (0 : Int))))
theorem F49_eq (m : Nat) (a0n : Nat) (a0c : Option Nat) (a0 : List D) : funD Tryd.prog H49 m 3 fh49_49 Tryd.f49 [(D.list a0n a0c a0)] = F49 m a0n a0c a0 := by kernel_rfl
theorem en49 : Enters Tryd.prog 49 := ⟨Tryd.f49, Tryd.func49, by kernel_rfl, by kernel_rfl⟩
theorem dt49 {ds : List D} {d : D} (h : funD Tryd.prog H49 M 3 fh49_49 Tryd.f49 ds = some d) : DataSem Tryd.prog 49 ds d := data_sound (H := H49) (SpOk.cons ds76 SpOk.nil) mixed InlOk.nil Tryd.func49 en49 h
noncomputable def sp49 : List D → Option D
  | [.list a0n a0c a0] => F49 M a0n a0c a0
  | _ => none
theorem ds49 : ∀ ds d, sp49 ds = some d → DataSem Tryd.prog 49 ds d := by
  intro ds d h
  unfold sp49 at h
  split at h
  · exact dt49 ((F49_eq M _ _ _).trans h)
  · cases h

-- ('str', '"(vidimus/vidimusref01.D).Compare"')
def fh51_51 : FnH := ⟨[(6, ⟨[true, true, false, false, false, true, false, false, false, false, false, false, false, false, false, false, false, false, false, false, false, false, false, false, false, false, false, false, false, false, false, false, false, false, false, false, false, false, false, false, false], [], (some 0)⟩)], []⟩
noncomputable def H51 : Hints := ⟨[], []⟩
noncomputable def F51_51_6 (m n0 : Nat) (y0_0 : Nat) (y0_1 : Option Nat) (y0_2 : List D) (y0_3 : Nat) (y0_4 : Option Nat) (y0_5 : List D) (y0_6 : Int) : Option D :=
 loopIter [true, true, false, false, false, true, false, false, false, false, false, false, false, false, false, false, false, false, false, false, false, false, false, false, false, false, false, false, false, false, false, false, false, false, false, false, false, false, false, false, false] 0 0 (codeK Tryd.prog H51.sp 0 (inlK Tryd.prog H51 m 3) m fh51_51 (subc [1, 1, 0, 1, 0, 0] (bodyOf Tryd.f51))) n0 ⟨[(AV.d (D.list y0_0 y0_1 y0_2)), (AV.d (D.list y0_3 y0_4 y0_5)), .junk, .junk, .junk, (AV.d (D.v (.int .i64 y0_6))), .junk, .junk, .junk, .junk, .junk, .junk, .junk, .junk, .junk, .junk, .junk, .junk, .junk, .junk, .junk, .junk, .junk, .junk, .junk, .junk, .junk, .junk, .junk, .junk, .junk, .junk, .junk, .junk, .junk, .junk, .junk, .junk, .junk, .junk, .junk], []⟩
  (contK Tryd.prog H51.sp 0 (inlK Tryd.prog H51 m 3) m fh51_51 (endK Tryd.prog Tryd.f51 (fun v L => viewK L 8 v some)) [.block 0, .code (subc [1, 1, 1] (bodyOf Tryd.f51))])
theorem F51_51_6_0 (m : Nat) (y0_0 : Nat) (y0_1 : Option Nat) (y0_2 : List D) (y0_3 : Nat) (y0_4 : Option Nat) (y0_5 : List D) (y0_6 : Int) : F51_51_6 m 0 y0_0 y0_1 y0_2 y0_3 y0_4 y0_5 y0_6 = none := rfl
theorem F51_51_6_s (m n0 : Nat) (y0_0 : Nat) (y0_1 : Option Nat) (y0_2 : List D) (y0_3 : Nat) (y0_4 : Option Nat) (y0_5 : List D) (y0_6 : Int) : F51_51_6 m (n0 + 1) y0_0 y0_1 y0_2 y0_3 y0_4 y0_5 y0_6 =
 (cond (decide (y0_6 ≥ (0 : Int)))
 (if 0 ≤ y0_6 ∧ y0_6 < ((y0_0 : Nat) : Int) then
 (rdI .i64 y0_2[((Int.toNat y0_6) * 1)]?).bind fun x5 =>
 if 0 ≤ y0_6 ∧ y0_6 < ((y0_3 : Nat) : Int) then
 (rdI .i64 y0_5[((Int.toNat y0_6) * 1)]?).bind fun x6 =>
 cond (x5 != x6)
 (if 0 ≤ y0_6 ∧ y0_6 < ((y0_0 : Nat) : Int) then
 (rdI .i64 y0_2[((Int.toNat y0_6) * 1)]?).bind fun x7 =>
 if 0 ≤ y0_6 ∧ y0_6 < ((y0_3 : Nat) : Int) then
 (rdI .i64 y0_5[((Int.toNat y0_6) * 1)]?).bind fun x8 =>
 cond (decide (x7 < x8))
 (some (D.v (.int .i64 (-1 : Int))))
 (some (D.v (.int .i64 (1 : Int))))
 else none
 else none)
 (F51_51_6 m n0 y0_0 y0_1 y0_2 y0_3 y0_4 y0_5 (IntKind.wrap .i64 (y0_6 - (1 : Int))))
 else none
 else none)
 (some (D.v (.int .i64 (0 : Int))))) := by kernel_rfl
noncomputable def F51 (m : Nat) (a0n : Nat) (a0c : Option Nat) (a0 : List D) (a1n : Nat) (a1c : Option Nat) (a1 : List D) : Option D :=
 cond (((a0n : Nat) : Int) != ((a1n : Nat) : Int))
 (cond (decide (((a0n : Nat) : Int) < ((a1n : Nat) : Int)))
 (some (D.v (.int .i64 (-1 : Int))))
 (some (D.v (.int .i64 (1 : Int)))))
 (F51_51_6 m m a0n a0c a0 a1n a1c a1 (IntKind.wrap .i64 (((a0n : Nat) : Int) - (1 : Int))))
theorem F51_eq (m : Nat) (a0n : Nat) (a0c : Option Nat) (a0 : List D) (a1n : Nat) (a1c : Option Nat) (a1 : List D) : funD Tryd.prog H51 m 3 fh51_51 Tryd.f51 [(D.list a0n a0c a0), (D.list a1n a1c a1)] = F51 m a0n a0c a0 a1n a1c a1 := by kernel_rfl
theorem en51 : Enters Tryd.prog 51 := ⟨Tryd.f51, Tryd.func51, by kernel_rfl, by kernel_rfl⟩
theorem dt51 {ds : List D} {d : D} (h : funD Tryd.prog H51 M 3 fh51_51 Tryd.f51 ds = some d) : DataSem Tryd.prog 51 ds d := data_sound (H := H51) SpOk.nil mixed InlOk.nil Tryd.func51 en51 h
noncomputable def sp51 : List D → Option D
  | [.list a0n a0c a0, .list a1n a1c a1] => F51 M a0n a0c a0 a1n a1c a1
  | _ => none
theorem ds51 : ∀ ds d, sp51 ds = some d → DataSem Tryd.prog 51 ds d := by
  intro ds d h
  unfold sp51 at h
  split at h
  · exact dt51 ((F51_eq M _ _ _ _ _ _).trans h)
  · cases h

-- ('str', '"(vidimus/vidimusref01.D).Minus"')
def fh53_53 : FnH := ⟨[(4, ⟨[true, true, false, false, false, true, true, true, false, false, false, false, false, false, false, false, false, false, false, false, false, false, false, false, false, false, false, false, false, false, false, false, false, false, false], [(5, 1)], (some 1)⟩)], [(11, ⟨[true, true, false, false, false, true, true, true, true, false, false, false, false, false, false, false, false, false, false, false, false, false, false, false, false, false, false, false, false, false, false, false, false, false, false], [], (some 1)⟩)]⟩
noncomputable def H53 : Hints := ⟨[(87, sp87), (88, sp88)], []⟩
noncomputable def F53_53_4 (m n0 : Nat) (y0_0 : Nat) (y0_1 : Option Nat) (y0_2 : List D) (y0_3 : Nat) (y0_4 : Option Nat) (y0_5 : List D) (y0_6 : Nat) (y0_7 : Int) (y0_8 : Int) (y0_9 : Nat) (y0_10 : List D) : Option D :=
 loopIter [true, true, false, false, false, true, true, true, false, false, false, false, false, false, false, false, false, false, false, false, false, false, false, false, false, false, false, false, false, false, false, false, false, false, false] 0 1 (codeK Tryd.prog H53.sp 0 (inlK Tryd.prog H53 m 3) m fh53_53 (subc [1, 1, 1, 0, 1, 0, 0] (bodyOf Tryd.f53))) n0 ⟨[(AV.d (D.list y0_0 y0_1 y0_2)), (AV.d (D.list y0_3 y0_4 y0_5)), .junk, .junk, .junk, (AV.sl 0 0 y0_6 none 1), (AV.d (D.v (.int .i64 y0_7))), (AV.d (D.v (.int .i64 y0_8))), .junk, .junk, .junk, .junk, .junk, .junk, .junk, .junk, .junk, .junk, .junk, .junk, .junk, .junk, .junk, .junk, .junk, .junk, .junk, .junk, .junk, .junk, .junk, .junk, .junk, .junk, .junk], [(Blk.d y0_9 y0_10)]⟩
  (contK Tryd.prog H53.sp 0 (inlK Tryd.prog H53 m 3) m fh53_53 (endK Tryd.prog Tryd.f53 (fun v L => viewK L 8 v some)) [.block 0, .code (subc [1, 1, 1, 1] (bodyOf Tryd.f53))])
noncomputable def F53_53_j11 (m n0 : Nat) (u0_0 : Nat) (u0_1 : Option Nat) (u0_2 : List D) (u0_3 : Nat) (u0_4 : Option Nat) (u0_5 : List D) (u0_6 : Nat) (u0_7 : Int) (u0_8 : Int) (u0_9 : Int) (u0_10 : Nat) (u0_11 : List D) : Option D :=
 cutK (codeK Tryd.prog H53.sp 0 (inlK Tryd.prog H53 m 3) m fh53_53 (subc [1, 1, 1, 0, 1, 0, 0, 1, 0, 0, 1, 1, 1] (bodyOf Tryd.f53)) ⟨[(AV.d (D.list u0_0 u0_1 u0_2)), (AV.d (D.list u0_3 u0_4 u0_5)), .junk, .junk, .junk, (AV.sl 0 0 u0_6 none 1), (AV.d (D.v (.int .i64 u0_7))), (AV.d (D.v (.int .i64 u0_8))), (AV.d (D.v (.int .i64 u0_9))), .junk, .junk, .junk, .junk, .junk, .junk, .junk, .junk, .junk, .junk, .junk, .junk, .junk, .junk, .junk, .junk, .junk, .junk, .junk, .junk, .junk, .junk, .junk, .junk, .junk, .junk], [(Blk.d u0_10 u0_11)]⟩
  (contK Tryd.prog H53.sp 0 (inlK Tryd.prog H53 m 3) m fh53_53 (endK Tryd.prog Tryd.f53 (fun v L => viewK L 8 v some)) [.block 1, .code (subc [1, 1, 1, 0, 1, 0, 0, 1, 1] (bodyOf Tryd.f53)), .loop [true, true, false, false, false, true, true, true, false, false, false, false, false, false, false, false, false, false, false, false, false, false, false, false, false, false, false, false, false, false, false, false, false, false, false] 1 (subc [1, 1, 1, 0, 1, 0, 0] (bodyOf Tryd.f53)) n0, .block 0, .code (subc [1, 1, 1, 1] (bodyOf Tryd.f53))]))
theorem F53_53_j11_e (m n0 : Nat) (u0_0 : Nat) (u0_1 : Option Nat) (u0_2 : List D) (u0_3 : Nat) (u0_4 : Option Nat) (u0_5 : List D) (u0_6 : Nat) (u0_7 : Int) (u0_8 : Int) (u0_9 : Int) (u0_10 : Nat) (u0_11 : List D) : F53_53_j11 m n0 u0_0 u0_1 u0_2 u0_3 u0_4 u0_5 u0_6 u0_7 u0_8 u0_9 u0_10 u0_11 =
 (if 0 ≤ 0 ∧ u0_10 = (u0_6 * 1) ∧ fitsRow (u0_6 + 1) 8 ∧ 1 = 1 then
 F53_53_4 m n0 u0_0 u0_1 u0_2 u0_3 u0_4 u0_5 (u0_6 + 1) u0_7 (IntKind.wrap .i64 (u0_8 + (1 : Int))) ((u0_6 + 1) * 1) (u0_11 ++ [(D.v (.int .i64 u0_9))])
 else none) := by kernel_rfl
theorem F53_53_4_0 (m : Nat) (y0_0 : Nat) (y0_1 : Option Nat) (y0_2 : List D) (y0_3 : Nat) (y0_4 : Option Nat) (y0_5 : List D) (y0_6 : Nat) (y0_7 : Int) (y0_8 : Int) (y0_9 : Nat) (y0_10 : List D) : F53_53_4 m 0 y0_0 y0_1 y0_2 y0_3 y0_4 y0_5 y0_6 y0_7 y0_8 y0_9 y0_10 = none := rfl
theorem F53_53_4_s (m n0 : Nat) (y0_0 : Nat) (y0_1 : Option Nat) (y0_2 : List D) (y0_3 : Nat) (y0_4 : Option Nat) (y0_5 : List D) (y0_6 : Nat) (y0_7 : Int) (y0_8 : Int) (y0_9 : Nat) (y0_10 : List D) : F53_53_4 m (n0 + 1) y0_0 y0_1 y0_2 y0_3 y0_4 y0_5 y0_6 y0_7 y0_8 y0_9 y0_10 =
 (cond (decide (y0_8 < ((y0_0 : Nat) : Int)))
 (if 0 ≤ y0_8 ∧ y0_8 < ((y0_0 : Nat) : Int) then
 (rdI .i64 y0_2[((Int.toNat y0_8) * 1)]?).bind fun x7 =>
 (sp87 [(D.list y0_3 y0_4 y0_5), (D.v (.int .i64 y0_8))]).bind fun d8 =>
 (rdI .i64 (some d8)).bind fun x9 =>
 cond (decide ((IntKind.wrap .i64 ((IntKind.wrap .i64 (x7 - x9)) - y0_7)) < (0 : Int)))
 (F53_53_j11 m n0 y0_0 y0_1 y0_2 y0_3 y0_4 y0_5 y0_6 (1 : Int) y0_8 (IntKind.wrap .i64 ((IntKind.wrap .i64 ((IntKind.wrap .i64 (x7 - x9)) - y0_7)) + (10 : Int))) y0_9 y0_10)
 (F53_53_j11 m n0 y0_0 y0_1 y0_2 y0_3 y0_4 y0_5 y0_6 (0 : Int) y0_8 (IntKind.wrap .i64 ((IntKind.wrap .i64 (x7 - x9)) - y0_7)) y0_9 y0_10)
 else none)
 (if (0 + (y0_6 * 1)) ≤ y0_9 then
 (sp88 [(D.list y0_6 none (cutL y0_9 y0_10 0 (y0_6 * 1)))]).bind fun d10 =>
 (rdL (some d10)).bind fun q11 =>
 if (0 + (y0_6 * 1)) ≤ y0_9 then
 if (0 + (y0_6 * 1)) ≤ y0_9 then
 some (D.list q11.n q11.cap q11.cs)
 else none
 else none
 else none)) := by kernel_rfl
noncomputable def F53 (m : Nat) (a0n : Nat) (a0c : Option Nat) (a0 : List D) (a1n : Nat) (a1c : Option Nat) (a1 : List D) : Option D :=
 F53_53_4 m m a0n a0c a0 a1n a1c a1 0 (0 : Int) (0 : Int) 0 []
theorem F53_eq (m : Nat) (a0n : Nat) (a0c : Option Nat) (a0 : List D) (a1n : Nat) (a1c : Option Nat) (a1 : List D) : funD Tryd.prog H53 m 3 fh53_53 Tryd.f53 [(D.list a0n a0c a0), (D.list a1n a1c a1)] = F53 m a0n a0c a0 a1n a1c a1 := by kernel_rfl
theorem en53 : Enters Tryd.prog 53 := ⟨Tryd.f53, Tryd.func53, by kernel_rfl, by kernel_rfl⟩
theorem dt53 {ds : List D} {d : D} (h : funD Tryd.prog H53 M 3 fh53_53 Tryd.f53 ds = some d) : DataSem Tryd.prog 53 ds d := data_sound (H := H53) (SpOk.cons ds87 (SpOk.cons ds88 SpOk.nil)) mixed InlOk.nil Tryd.func53 en53 h
noncomputable def sp53 : List D → Option D
  | [.list a0n a0c a0, .list a1n a1c a1] => F53 M a0n a0c a0 a1n a1c a1
  | _ => none
theorem ds53 : ∀ ds d, sp53 ds = some d → DataSem Tryd.prog 53 ds d := by
  intro ds d h
  unfold sp53 at h
  split at h
  · exact dt53 ((F53_eq M _ _ _ _ _ _).trans h)
  · cases h

-- ('str', '"(vidimus/vidimusref01.D).Times"')
def fh54_54 : FnH := ⟨[(3, ⟨[true, true, false, false, false, true, true, false, false, false, false, false, false, false, false, false, false, false, false, false, false, false, false, false, false, false, false, false, false, false, false, false, false, false, false, false, false, false, false, false, false, false, false, false, false, false, false, false, false, false, false, false, false, false, false, false, false, false, false], [], (some 1)⟩), (7, ⟨[true, true, false, false, false, true, true, true, true, false, false, false, false, false, false, false, false, false, false, false, false, false, false, false, false, false, false, false, false, false, false, false, false, false, false, false, false, false, false, false, false, false, false, false, false, false, false, false, false, false, false, false, false, false, false, false, false, false, false], [], (some 1)⟩)], [(9, ⟨[true, true, false, false, false, true, true, true, true, false, false, false, false, false, false, false, false, false, false, false, false, false, false, false, false, false, false, false, false, false, false, false, false, false, false, false, false, false, false, false, false, false, false, false, false, false, false, false, false, false, false, false, false, false, false, false, false, false, false], [], (some 1)⟩), (4, ⟨[true, true, false, false, false, true, true, false, false, false, false, false, false, false, false, false, false, false, false, false, false, false, false, false, false, false, false, false, false, false, false, false, false, false, false, false, false, false, false, false, false, false, false, false, false, false, false, false, false, false, false, false, false, false, false, false, false, false, false], [], (some 1)⟩)]⟩
noncomputable def H54 : Hints := ⟨[(87, sp87), (88, sp88)], []⟩
noncomputable def F54_54_3 (m n0 : Nat) (y0_0 : Nat) (y0_1 : Option Nat) (y0_2 : List D) (y0_3 : Nat) (y0_4 : Option Nat) (y0_5 : List D) (y0_6 : Nat) (y0_7 : Nat) (y0_8 : Int) (y0_9 : Nat) (y0_10 : List D) : Option D :=
 loopIter [true, true, false, false, false, true, true, false, false, false, false, false, false, false, false, false, false, false, false, false, false, false, false, false, false, false, false, false, false, false, false, false, false, false, false, false, false, false, false, false, false, false, false, false, false, false, false, false, false, false, false, false, false, false, false, false, false, false, false] 0 1 (codeK Tryd.prog H54.sp 0 (inlK Tryd.prog H54 m 3) m fh54_54 (subc [1, 1, 0, 1, 0, 0] (bodyOf Tryd.f54))) n0 ⟨[(AV.d (D.list y0_0 y0_1 y0_2)), (AV.d (D.list y0_3 y0_4 y0_5)), .junk, .junk, .junk, (AV.sl 0 0 y0_6 (some y0_7) 1), (AV.d (D.v (.int .i64 y0_8))), .junk, .junk, .junk, .junk, .junk, .junk, .junk, .junk, .junk, .junk, .junk, .junk, .junk, .junk, .junk, .junk, .junk, .junk, .junk, .junk, .junk, .junk, .junk, .junk, .junk, .junk, .junk, .junk, .junk, .junk, .junk, .junk, .junk, .junk, .junk, .junk, .junk, .junk, .junk, .junk, .junk, .junk, .junk, .junk, .junk, .junk, .junk, .junk, .junk, .junk, .junk, .junk], [(Blk.d y0_9 y0_10)]⟩
  (contK Tryd.prog H54.sp 0 (inlK Tryd.prog H54 m 3) m fh54_54 (endK Tryd.prog Tryd.f54 (fun v L => viewK L 8 v some)) [.block 0, .code (subc [1, 1, 1] (bodyOf Tryd.f54))])
noncomputable def F54_54_7 (m n0 n1 : Nat) (y1_0 : Nat) (y1_1 : Option Nat) (y1_2 : List D) (y1_3 : Nat) (y1_4 : Option Nat) (y1_5 : List D) (y1_6 : Nat) (y1_7 : Nat) (y1_8 : Int) (y1_9 : Int) (y1_10 : Int) (y1_11 : Nat) (y1_12 : List D) : Option D :=
 loopIter [true, true, false, false, false, true, true, true, true, false, false, false, false, false, false, false, false, false, false, false, false, false, false, false, false, false, false, false, false, false, false, false, false, false, false, false, false, false, false, false, false, false, false, false, false, false, false, false, false, false, false, false, false, false, false, false, false, false, false] 0 1 (codeK Tryd.prog H54.sp 0 (inlK Tryd.prog H54 m 3) m fh54_54 (subc [1, 1, 0, 1, 0, 0, 1, 0, 0, 1, 1, 0, 0] (bodyOf Tryd.f54))) n1 ⟨[(AV.d (D.list y1_0 y1_1 y1_2)), (AV.d (D.list y1_3 y1_4 y1_5)), .junk, .junk, .junk, (AV.sl 0 0 y1_6 (some y1_7) 1), (AV.d (D.v (.int .i64 y1_8))), (AV.d (D.v (.int .i64 y1_9))), (AV.d (D.v (.int .i64 y1_10))), .junk, .junk, .junk, .junk, .junk, .junk, .junk, .junk, .junk, .junk, .junk, .junk, .junk, .junk, .junk, .junk, .junk, .junk, .junk, .junk, .junk, .junk, .junk, .junk, .junk, .junk, .junk, .junk, .junk, .junk, .junk, .junk, .junk, .junk, .junk, .junk, .junk, .junk, .junk, .junk, .junk, .junk, .junk, .junk, .junk, .junk, .junk, .junk, .junk, .junk], [(Blk.d y1_11 y1_12)]⟩
  (contK Tryd.prog H54.sp 0 (inlK Tryd.prog H54 m 3) m fh54_54 (endK Tryd.prog Tryd.f54 (fun v L => viewK L 8 v some)) [.block 2, .block 1, .code (subc [1, 1, 0, 1, 0, 0, 1, 1] (bodyOf Tryd.f54)), .loop [true, true, false, false, false, true, true, false, false, false, false, false, false, false, false, false, false, false, false, false, false, false, false, false, false, false, false, false, false, false, false, false, false, false, false, false, false, false, false, false, false, false, false, false, false, false, false, false, false, false, false, false, false, false, false, false, false, false, false] 1 (subc [1, 1, 0, 1, 0, 0] (bodyOf Tryd.f54)) n0, .block 0, .code (subc [1, 1, 1] (bodyOf Tryd.f54))])
noncomputable def F54_54_j9 (m n0 n1 : Nat) (u0_0 : Nat) (u0_1 : Option Nat) (u0_2 : List D) (u0_3 : Nat) (u0_4 : Option Nat) (u0_5 : List D) (u0_6 : Nat) (u0_7 : Nat) (u0_8 : Int) (u0_9 : Int) (u0_10 : Int) (u0_11 : Nat) (u0_12 : List D) : Option D :=
 cutK (codeK Tryd.prog H54.sp 0 (inlK Tryd.prog H54 m 3) m fh54_54 (subc [1, 1, 0, 1, 0, 0, 1, 0, 0, 1, 1, 0, 0, 1] (bodyOf Tryd.f54)) ⟨[(AV.d (D.list u0_0 u0_1 u0_2)), (AV.d (D.list u0_3 u0_4 u0_5)), .junk, .junk, .junk, (AV.sl 0 0 u0_6 (some u0_7) 1), (AV.d (D.v (.int .i64 u0_8))), (AV.d (D.v (.int .i64 u0_9))), (AV.d (D.v (.int .i64 u0_10))), .junk, .junk, .junk, .junk, .junk, .junk, .junk, .junk, .junk, .junk, .junk, .junk, .junk, .junk, .junk, .junk, .junk, .junk, .junk, .junk, .junk, .junk, .junk, .junk, .junk, .junk, .junk, .junk, .junk, .junk, .junk, .junk, .junk, .junk, .junk, .junk, .junk, .junk, .junk, .junk, .junk, .junk, .junk, .junk, .junk, .junk, .junk, .junk, .junk, .junk], [(Blk.d u0_11 u0_12)]⟩
  (contK Tryd.prog H54.sp 0 (inlK Tryd.prog H54 m 3) m fh54_54 (endK Tryd.prog Tryd.f54 (fun v L => viewK L 8 v some)) [.loop [true, true, false, false, false, true, true, true, true, false, false, false, false, false, false, false, false, false, false, false, false, false, false, false, false, false, false, false, false, false, false, false, false, false, false, false, false, false, false, false, false, false, false, false, false, false, false, false, false, false, false, false, false, false, false, false, false, false, false] 1 (subc [1, 1, 0, 1, 0, 0, 1, 0, 0, 1, 1, 0, 0] (bodyOf Tryd.f54)) n1, .block 2, .block 1, .code (subc [1, 1, 0, 1, 0, 0, 1, 1] (bodyOf Tryd.f54)), .loop [true, true, false, false, false, true, true, false, false, false, false, false, false, false, false, false, false, false, false, false, false, false, false, false, false, false, false, false, false, false, false, false, false, false, false, false, false, false, false, false, false, false, false, false, false, false, false, false, false, false, false, false, false, false, false, false, false, false, false] 1 (subc [1, 1, 0, 1, 0, 0] (bodyOf Tryd.f54)) n0, .block 0, .code (subc [1, 1, 1] (bodyOf Tryd.f54))]))
theorem F54_54_j9_e (m n0 n1 : Nat) (u0_0 : Nat) (u0_1 : Option Nat) (u0_2 : List D) (u0_3 : Nat) (u0_4 : Option Nat) (u0_5 : List D) (u0_6 : Nat) (u0_7 : Nat) (u0_8 : Int) (u0_9 : Int) (u0_10 : Int) (u0_11 : Nat) (u0_12 : List D) : F54_54_j9 m n0 n1 u0_0 u0_1 u0_2 u0_3 u0_4 u0_5 u0_6 u0_7 u0_8 u0_9 u0_10 u0_11 u0_12 =
 (if 0 ≤ (IntKind.wrap .i64 (u0_8 + u0_10)) ∧ (IntKind.wrap .i64 (u0_8 + u0_10)) < ((u0_6 : Nat) : Int) then
 (rdI .i64 u0_12[(0 + ((Int.toNat (IntKind.wrap .i64 (u0_8 + u0_10))) * 1))]?).bind fun x33 =>
 if 0 ≤ u0_8 ∧ u0_8 < ((u0_0 : Nat) : Int) then
 (rdI .i64 u0_2[((Int.toNat u0_8) * 1)]?).bind fun x34 =>
 (sp87 [(D.list u0_3 u0_4 u0_5), (D.v (.int .i64 u0_10))]).bind fun d35 =>
 (rdI .i64 (some d35)).bind fun x36 =>
 if 0 ≤ (IntKind.wrap .i64 (u0_8 + u0_10)) ∧ (IntKind.wrap .i64 (u0_8 + u0_10)) < ((u0_6 : Nat) : Int) then
 if 1 = 1 ∧ (0 + ((Int.toNat (IntKind.wrap .i64 (u0_8 + u0_10))) * 1)) < u0_11 then
 F54_54_7 m n0 n1 u0_0 u0_1 u0_2 u0_3 u0_4 u0_5 u0_6 u0_7 u0_8 (IntKind.wrap .i64 (Int.tdiv (IntKind.wrap .i64 (u0_9 + (IntKind.wrap .i64 (x33 + (IntKind.wrap .i64 (x34 * x36)))))) (10 : Int))) (IntKind.wrap .i64 (u0_10 + (1 : Int))) u0_11 (List.set u0_12 (0 + ((Int.toNat (IntKind.wrap .i64 (u0_8 + u0_10))) * 1)) (D.v (.int .i64 (Int.tmod (IntKind.wrap .i64 (u0_9 + (IntKind.wrap .i64 (x33 + (IntKind.wrap .i64 (x34 * x36)))))) (10 : Int)))))
 else none
 else none
 else none
 else none) := by kernel_rfl
noncomputable def F54_54_j4 (m n0 : Nat) (u1_0 : Nat) (u1_1 : Option Nat) (u1_2 : List D) (u1_3 : Nat) (u1_4 : Option Nat) (u1_5 : List D) (u1_6 : Nat) (u1_7 : Nat) (u1_8 : Int) (u1_9 : Nat) (u1_10 : List D) : Option D :=
 cutK (codeK Tryd.prog H54.sp 0 (inlK Tryd.prog H54 m 3) m fh54_54 (subc [1, 1, 0, 1, 0, 0, 1, 1] (bodyOf Tryd.f54)) ⟨[(AV.d (D.list u1_0 u1_1 u1_2)), (AV.d (D.list u1_3 u1_4 u1_5)), .junk, .junk, .junk, (AV.sl 0 0 u1_6 (some u1_7) 1), (AV.d (D.v (.int .i64 u1_8))), .junk, .junk, .junk, .junk, .junk, .junk, .junk, .junk, .junk, .junk, .junk, .junk, .junk, .junk, .junk, .junk, .junk, .junk, .junk, .junk, .junk, .junk, .junk, .junk, .junk, .junk, .junk, .junk, .junk, .junk, .junk, .junk, .junk, .junk, .junk, .junk, .junk, .junk, .junk, .junk, .junk, .junk, .junk, .junk, .junk, .junk, .junk, .junk, .junk, .junk, .junk, .junk], [(Blk.d u1_9 u1_10)]⟩
  (contK Tryd.prog H54.sp 0 (inlK Tryd.prog H54 m 3) m fh54_54 (endK Tryd.prog Tryd.f54 (fun v L => viewK L 8 v some)) [.loop [true, true, false, false, false, true, true, false, false, false, false, false, false, false, false, false, false, false, false, false, false, false, false, false, false, false, false, false, false, false, false, false, false, false, false, false, false, false, false, false, false, false, false, false, false, false, false, false, false, false, false, false, false, false, false, false, false, false, false] 1 (subc [1, 1, 0, 1, 0, 0] (bodyOf Tryd.f54)) n0, .block 0, .code (subc [1, 1, 1] (bodyOf Tryd.f54))]))
theorem F54_54_j4_e (m n0 : Nat) (u1_0 : Nat) (u1_1 : Option Nat) (u1_2 : List D) (u1_3 : Nat) (u1_4 : Option Nat) (u1_5 : List D) (u1_6 : Nat) (u1_7 : Nat) (u1_8 : Int) (u1_9 : Nat) (u1_10 : List D) : F54_54_j4 m n0 u1_0 u1_1 u1_2 u1_3 u1_4 u1_5 u1_6 u1_7 u1_8 u1_9 u1_10 =
 (F54_54_3 m n0 u1_0 u1_1 u1_2 u1_3 u1_4 u1_5 u1_6 u1_7 (IntKind.wrap .i64 (u1_8 + (1 : Int))) u1_9 u1_10) := by kernel_rfl
theorem F54_54_7_0 (m n0 : Nat) (y1_0 : Nat) (y1_1 : Option Nat) (y1_2 : List D) (y1_3 : Nat) (y1_4 : Option Nat) (y1_5 : List D) (y1_6 : Nat) (y1_7 : Nat) (y1_8 : Int) (y1_9 : Int) (y1_10 : Int) (y1_11 : Nat) (y1_12 : List D) : F54_54_7 m n0 0 y1_0 y1_1 y1_2 y1_3 y1_4 y1_5 y1_6 y1_7 y1_8 y1_9 y1_10 y1_11 y1_12 = none := rfl
theorem F54_54_7_s (m n0 n1 : Nat) (y1_0 : Nat) (y1_1 : Option Nat) (y1_2 : List D) (y1_3 : Nat) (y1_4 : Option Nat) (y1_5 : List D) (y1_6 : Nat) (y1_7 : Nat) (y1_8 : Int) (y1_9 : Int) (y1_10 : Int) (y1_11 : Nat) (y1_12 : List D) : F54_54_7 m n0 (n1 + 1) y1_0 y1_1 y1_2 y1_3 y1_4 y1_5 y1_6 y1_7 y1_8 y1_9 y1_10 y1_11 y1_12 =
 (cond (decide (y1_10 < ((y1_3 : Nat) : Int)))
 (F54_54_j9 m n0 n1 y1_0 y1_1 y1_2 y1_3 y1_4 y1_5 y1_6 y1_7 y1_8 y1_9 y1_10 y1_11 y1_12)
 (cond (decide (y1_9 > (0 : Int)))
 (F54_54_j9 m n0 n1 y1_0 y1_1 y1_2 y1_3 y1_4 y1_5 y1_6 y1_7 y1_8 y1_9 y1_10 y1_11 y1_12)
 (F54_54_j4 m n0 y1_0 y1_1 y1_2 y1_3 y1_4 y1_5 y1_6 y1_7 y1_8 y1_11 y1_12))) := by kernel_rfl
theorem F54_54_3_0 (m : Nat) (y0_0 : Nat) (y0_1 : Option Nat) (y0_2 : List D) (y0_3 : Nat) (y0_4 : Option Nat) (y0_5 : List D) (y0_6 : Nat) (y0_7 : Nat) (y0_8 : Int) (y0_9 : Nat) (y0_10 : List D) : F54_54_3 m 0 y0_0 y0_1 y0_2 y0_3 y0_4 y0_5 y0_6 y0_7 y0_8 y0_9 y0_10 = none := rfl
theorem F54_54_3_s (m n0 : Nat) (y0_0 : Nat) (y0_1 : Option Nat) (y0_2 : List D) (y0_3 : Nat) (y0_4 : Option Nat) (y0_5 : List D) (y0_6 : Nat) (y0_7 : Nat) (y0_8 : Int) (y0_9 : Nat) (y0_10 : List D) : F54_54_3 m (n0 + 1) y0_0 y0_1 y0_2 y0_3 y0_4 y0_5 y0_6 y0_7 y0_8 y0_9 y0_10 =
 (cond (decide (y0_8 < ((y0_0 : Nat) : Int)))
 (F54_54_7 m n0 m y0_0 y0_1 y0_2 y0_3 y0_4 y0_5 y0_6 y0_7 y0_8 (0 : Int) (0 : Int) y0_9 y0_10)
 (if (0 + (y0_6 * 1)) ≤ y0_9 then
 (sp88 [(D.list y0_6 (some y0_7) (cutL y0_9 y0_10 0 (y0_6 * 1)))]).bind fun d37 =>
 (rdL (some d37)).bind fun q38 =>
 if (0 + (y0_6 * 1)) ≤ y0_9 then
 if (0 + (y0_6 * 1)) ≤ y0_9 then
 some (D.list q38.n q38.cap q38.cs)
 else none
 else none
 else none)) := by kernel_rfl
noncomputable def F54 (m : Nat) (a0n : Nat) (a0c : Option Nat) (a0 : List D) (a1n : Nat) (a1c : Option Nat) (a1 : List D) : Option D :=
 if 0 ≤ (IntKind.wrap .i64 (((a0n : Nat) : Int) + ((a1n : Nat) : Int))) ∧ (IntKind.wrap .i64 (((a0n : Nat) : Int) + ((a1n : Nat) : Int))) ≤ (IntKind.wrap .i64 (((a0n : Nat) : Int) + ((a1n : Nat) : Int))) ∧ fitsRow (Int.toNat (IntKind.wrap .i64 (((a0n : Nat) : Int) + ((a1n : Nat) : Int)))) 8 then
 F54_54_3 m m a0n a0c a0 a1n a1c a1 (Int.toNat (IntKind.wrap .i64 (((a0n : Nat) : Int) + ((a1n : Nat) : Int)))) (Int.toNat (IntKind.wrap .i64 (((a0n : Nat) : Int) + ((a1n : Nat) : Int)))) (0 : Int) ((Int.toNat (IntKind.wrap .i64 (((a0n : Nat) : Int) + ((a1n : Nat) : Int)))) * 1) (List.flatten (List.replicate (Int.toNat (IntKind.wrap .i64 (((a0n : Nat) : Int) + ((a1n : Nat) : Int)))) [(D.v (.int .i64 (0 : Int)))]))
 else none
theorem F54_eq (m : Nat) (a0n : Nat) (a0c : Option Nat) (a0 : List D) (a1n : Nat) (a1c : Option Nat) (a1 : List D) : funD Tryd.prog H54 m 3 fh54_54 Tryd.f54 [(D.list a0n a0c a0), (D.list a1n a1c a1)] = F54 m a0n a0c a0 a1n a1c a1 := by kernel_rfl
theorem en54 : Enters Tryd.prog 54 := ⟨Tryd.f54, Tryd.func54, by kernel_rfl, by kernel_rfl⟩
theorem dt54 {ds : List D} {d : D} (h : funD Tryd.prog H54 M 3 fh54_54 Tryd.f54 ds = some d) : DataSem Tryd.prog 54 ds d := data_sound (H := H54) (SpOk.cons ds87 (SpOk.cons ds88 SpOk.nil)) mixed InlOk.nil Tryd.func54 en54 h
noncomputable def sp54 : List D → Option D
  | [.list a0n a0c a0, .list a1n a1c a1] => F54 M a0n a0c a0 a1n a1c a1
  | _ => none
theorem ds54 : ∀ ds d, sp54 ds = some d → DataSem Tryd.prog 54 ds d := by
  intro ds d h
  unfold sp54 at h
  split at h
  · exact dt54 ((F54_eq M _ _ _ _ _ _).trans h)
  · cases h

-- ('str', '"vidimus/vidimusref01.Small"')
def fh60_60 : FnH := ⟨[(2, ⟨[true, false, false, true, false, false, false, false, false, false, false, false, false, false], [(3, 1)], (some 1)⟩)], []⟩
noncomputable def H60 : Hints := ⟨[], []⟩
noncomputable def F60_60_2 (m n0 : Nat) (y0_0 : Int) (y0_1 : Nat) (y0_2 : Nat) (y0_3 : List D) : Option D :=
 loopIter [true, false, false, true, false, false, false, false, false, false, false, false, false, false] 0 1 (codeK Tryd.prog H60.sp 0 (inlK Tryd.prog H60 m 3) m fh60_60 (subc [1, 1, 0, 0, 0] (bodyOf Tryd.f60))) n0 ⟨[(AV.d (D.v (.int .i64 y0_0))), .junk, .junk, (AV.sl 0 0 y0_1 none 1), .junk, .junk, .junk, .junk, .junk, .junk, .junk, .junk, .junk, .junk], [(Blk.d y0_2 y0_3)]⟩
  (contK Tryd.prog H60.sp 0 (inlK Tryd.prog H60 m 3) m fh60_60 (endK Tryd.prog Tryd.f60 (fun v L => viewK L 8 v some)) [.block 0, .code (subc [1, 1, 1] (bodyOf Tryd.f60))])
theorem F60_60_2_0 (m : Nat) (y0_0 : Int) (y0_1 : Nat) (y0_2 : Nat) (y0_3 : List D) : F60_60_2 m 0 y0_0 y0_1 y0_2 y0_3 = none := rfl
theorem F60_60_2_s (m n0 : Nat) (y0_0 : Int) (y0_1 : Nat) (y0_2 : Nat) (y0_3 : List D) : F60_60_2 m (n0 + 1) y0_0 y0_1 y0_2 y0_3 =
 (cond (decide (y0_0 > (0 : Int)))
 (if 0 ≤ 0 ∧ y0_2 = (y0_1 * 1) ∧ fitsRow (y0_1 + 1) 8 ∧ 1 = 1 then
 F60_60_2 m n0 (IntKind.wrap .i64 (Int.tdiv y0_0 (10 : Int))) (y0_1 + 1) ((y0_1 + 1) * 1) (y0_3 ++ [(D.v (.int .i64 (Int.tmod y0_0 (10 : Int))))])
 else none)
 (if (0 + (y0_1 * 1)) ≤ y0_2 then
 some (D.list y0_1 none (cutL y0_2 y0_3 0 (y0_1 * 1)))
 else none)) := by kernel_rfl
noncomputable def F60 (m : Nat) (a0 : Int) : Option D :=
 F60_60_2 m m a0 0 0 []
theorem F60_eq (m : Nat) (a0 : Int) : funD Tryd.prog H60 m 3 fh60_60 Tryd.f60 [(D.v (.int .i64 a0))] = F60 m a0 := by kernel_rfl
theorem en60 : Enters Tryd.prog 60 := ⟨Tryd.f60, Tryd.func60, by kernel_rfl, by kernel_rfl⟩
theorem dt60 {ds : List D} {d : D} (h : funD Tryd.prog H60 M 3 fh60_60 Tryd.f60 ds = some d) : DataSem Tryd.prog 60 ds d := data_sound (H := H60) SpOk.nil mixed InlOk.nil Tryd.func60 en60 h
noncomputable def sp60 : List D → Option D
  | [.v (.int .i64 a0)] => F60 M a0
  | _ => none
theorem ds60 : ∀ ds d, sp60 ds = some d → DataSem Tryd.prog 60 ds d := by
  intro ds d h
  unfold sp60 at h
  split at h
  · exact dt60 ((F60_eq M _).trans h)
  · cases h

-- ('str', '"(vidimus/vidimusref01.D).Text"')
def fh64_64 : FnH := ⟨[(5, ⟨[true, false, false, true, true, false, false, false, false, false, false, false, false, false, false, false, false, false, false, false, false, false, false, false, false, false, false, false], [], (some 0)⟩)], []⟩
noncomputable def H64 : Hints := ⟨[], []⟩
noncomputable def F64_64_5 (m n0 : Nat) (y0_0 : Nat) (y0_1 : Option Nat) (y0_2 : List D) (y0_3 : ByteArray) (y0_4 : Int) : Option D :=
 loopIter [true, false, false, true, true, false, false, false, false, false, false, false, false, false, false, false, false, false, false, false, false, false, false, false, false, false, false, false] 0 0 (codeK Tryd.prog H64.sp 0 (inlK Tryd.prog H64 m 3) m fh64_64 (subc [1, 1, 1, 0, 1, 0, 0] (bodyOf Tryd.f64))) n0 ⟨[(AV.d (D.list y0_0 y0_1 y0_2)), .junk, .junk, (AV.d (D.v (.string y0_3))), (AV.d (D.v (.int .i64 y0_4))), .junk, .junk, .junk, .junk, .junk, .junk, .junk, .junk, .junk, .junk, .junk, .junk, .junk, .junk, .junk, .junk, .junk, .junk, .junk, .junk, .junk, .junk, .junk], []⟩
  (contK Tryd.prog H64.sp 0 (inlK Tryd.prog H64 m 3) m fh64_64 (endK Tryd.prog Tryd.f64 (fun v L => viewK L 8 v some)) [.block 0, .code (subc [1, 1, 1, 1] (bodyOf Tryd.f64))])
theorem F64_64_5_0 (m : Nat) (y0_0 : Nat) (y0_1 : Option Nat) (y0_2 : List D) (y0_3 : ByteArray) (y0_4 : Int) : F64_64_5 m 0 y0_0 y0_1 y0_2 y0_3 y0_4 = none := rfl
theorem F64_64_5_s (m n0 : Nat) (y0_0 : Nat) (y0_1 : Option Nat) (y0_2 : List D) (y0_3 : ByteArray) (y0_4 : Int) : F64_64_5 m (n0 + 1) y0_0 y0_1 y0_2 y0_3 y0_4 =
 (cond (decide (y0_4 ≥ (0 : Int)))
 (if 0 ≤ y0_4 ∧ y0_4 < ((y0_0 : Nat) : Int) then
 (rdI .i64 y0_2[((Int.toNat y0_4) * 1)]?).bind fun x3 =>
 if 0 ≤ y0_4 ∧ y0_4 < ((y0_0 : Nat) : Int) then
 (rdI .i64 y0_2[((Int.toNat y0_4) * 1)]?).bind fun x4 =>
 if 0 ≤ (IntKind.wrap .i64 (x4 + (1 : Int))) ∧ (IntKind.wrap .i64 (x4 + (1 : Int))) ≤ (((ByteArray.size (ByteArray.mk #[48, 49, 50, 51, 52, 53, 54, 55, 56, 57])) : Nat) : Int) then
 if 0 ≤ x3 ∧ x3 ≤ (((Int.toNat (IntKind.wrap .i64 (x4 + (1 : Int)))) : Nat) : Int) then
 if ByteArray.size y0_3 + ByteArray.size (ByteArray.extract (ByteArray.mk #[48, 49, 50, 51, 52, 53, 54, 55, 56, 57]) (Int.toNat x3) (Int.toNat (IntKind.wrap .i64 (x4 + (1 : Int))))) ≤ 9223372036854775807 then
 F64_64_5 m n0 y0_0 y0_1 y0_2 (y0_3 ++ (ByteArray.extract (ByteArray.mk #[48, 49, 50, 51, 52, 53, 54, 55, 56, 57]) (Int.toNat x3) (Int.toNat (IntKind.wrap .i64 (x4 + (1 : Int)))))) (IntKind.wrap .i64 (y0_4 - (1 : Int)))
 else none
 else none
 else none
 else none
 else none)
 (some (D.v (.string y0_3)))) := by kernel_rfl
noncomputable def F64 (m : Nat) (a0n : Nat) (a0c : Option Nat) (a0 : List D) : Option D :=
 cond (((a0n : Nat) : Int) == (0 : Int))
 (some (D.v (.string (ByteArray.mk #[48]))))
 (F64_64_5 m m a0n a0c a0 (ByteArray.mk #[]) (IntKind.wrap .i64 (((a0n : Nat) : Int) - (1 : Int))))
theorem F64_eq (m : Nat) (a0n : Nat) (a0c : Option Nat) (a0 : List D) : funD Tryd.prog H64 m 3 fh64_64 Tryd.f64 [(D.list a0n a0c a0)] = F64 m a0n a0c a0 := by kernel_rfl
theorem en64 : Enters Tryd.prog 64 := ⟨Tryd.f64, Tryd.func64, by kernel_rfl, by kernel_rfl⟩
theorem dt64 {ds : List D} {d : D} (h : funD Tryd.prog H64 M 3 fh64_64 Tryd.f64 ds = some d) : DataSem Tryd.prog 64 ds d := data_sound (H := H64) SpOk.nil mixed InlOk.nil Tryd.func64 en64 h
noncomputable def sp64 : List D → Option D
  | [.list a0n a0c a0] => F64 M a0n a0c a0
  | _ => none
theorem ds64 : ∀ ds d, sp64 ds = some d → DataSem Tryd.prog 64 ds d := by
  intro ds d h
  unfold sp64 at h
  split at h
  · exact dt64 ((F64_eq M _ _ _).trans h)
  · cases h

-- ('str', '"vidimus/vidimusref01.Parse"')
def fh65_65 : FnH := ⟨[(5, ⟨[true, false, false, false, true, true, false, false, false, false, false, false, false, false, false, false, false, false, false, false, false, false, false, false, false, false, false, false, false, false, false, false, false, false, false, false, false, false, false, false, false, false, false, false, false, false, false, false, false, false, false, false, false, false], [], (some 0)⟩)], [(3, ⟨[true, false, false, false, false, false, false, false, false, false, false, false, false, false, false, false, false, false, false, false, false, false, false, false, false, false, false, false, false, false, false, false, false, false, false, false, false, false, false, false, false, false, false, false, false, false, false, false, false, false, false, false, false, false], [], (some 0)⟩), (9, ⟨[true, false, false, false, true, true, false, false, false, false, false, false, false, false, false, false, false, false, false, false, false, false, false, false, false, false, false, false, false, false, false, false, false, false, false, false, false, false, false, false, false, false, false, false, false, false, false, false, false, false, false, false, false, false], [], (some 0)⟩), (13, ⟨[false, false, false, false, true, false, false, false, false, false, false, false, false, false, false, false, false, false, false, false, false, false, false, false, false, false, false, false, false, false, false, false, false, false, false, false, false, false, false, false, false, false, false, false, false, false, false, false, false, false, false, false, false, false], [], (some 0)⟩)]⟩
noncomputable def H65 : Hints := ⟨[(76, sp76), (88, sp88)], []⟩
noncomputable def F65_65_j3 (m : Nat) (u0_0 : ByteArray) : Option D :=
 cutK (codeK Tryd.prog H65.sp 0 (inlK Tryd.prog H65 m 3) m fh65_65 (subc [1, 1] (bodyOf Tryd.f65)) ⟨[(AV.d (D.v (.string u0_0))), .junk, .junk, .junk, .junk, .junk, .junk, .junk, .junk, .junk, .junk, .junk, .junk, .junk, .junk, .junk, .junk, .junk, .junk, .junk, .junk, .junk, .junk, .junk, .junk, .junk, .junk, .junk, .junk, .junk, .junk, .junk, .junk, .junk, .junk, .junk, .junk, .junk, .junk, .junk, .junk, .junk, .junk, .junk, .junk, .junk, .junk, .junk, .junk, .junk, .junk, .junk, .junk, .junk], []⟩
  (contK Tryd.prog H65.sp 0 (inlK Tryd.prog H65 m 3) m fh65_65 (endK Tryd.prog Tryd.f65 (fun v L => viewK L 8 v some)) []))
noncomputable def F65_65_5 (m n0 : Nat) (y0_0 : ByteArray) (y0_1 : Nat) (y0_2 : Option Nat) (y0_3 : List D) (y0_4 : Int) : Option D :=
 loopIter [true, false, false, false, true, true, false, false, false, false, false, false, false, false, false, false, false, false, false, false, false, false, false, false, false, false, false, false, false, false, false, false, false, false, false, false, false, false, false, false, false, false, false, false, false, false, false, false, false, false, false, false, false, false] 0 0 (codeK Tryd.prog H65.sp 0 (inlK Tryd.prog H65 m 3) m fh65_65 (subc [1, 1, 1, 0, 1, 0, 0] (bodyOf Tryd.f65))) n0 ⟨[(AV.d (D.v (.string y0_0))), .junk, .junk, .junk, (AV.d (D.list y0_1 y0_2 y0_3)), (AV.d (D.v (.int .i64 y0_4))), .junk, .junk, .junk, .junk, .junk, .junk, .junk, .junk, .junk, .junk, .junk, .junk, .junk, .junk, .junk, .junk, .junk, .junk, .junk, .junk, .junk, .junk, .junk, .junk, .junk, .junk, .junk, .junk, .junk, .junk, .junk, .junk, .junk, .junk, .junk, .junk, .junk, .junk, .junk, .junk, .junk, .junk, .junk, .junk, .junk, .junk, .junk, .junk], []⟩
  (contK Tryd.prog H65.sp 0 (inlK Tryd.prog H65 m 3) m fh65_65 (endK Tryd.prog Tryd.f65 (fun v L => viewK L 8 v some)) [.block 0, .code (subc [1, 1, 1, 1] (bodyOf Tryd.f65))])
noncomputable def F65_65_j9 (m n0 : Nat) (u1_0 : ByteArray) (u1_1 : Nat) (u1_2 : Option Nat) (u1_3 : List D) (u1_4 : Int) : Option D :=
 cutK (codeK Tryd.prog H65.sp 0 (inlK Tryd.prog H65 m 3) m fh65_65 (subc [1, 1, 1, 0, 1, 0, 0, 1, 0, 0, 1] (bodyOf Tryd.f65)) ⟨[(AV.d (D.v (.string u1_0))), .junk, .junk, .junk, (AV.d (D.list u1_1 u1_2 u1_3)), (AV.d (D.v (.int .i64 u1_4))), .junk, .junk, .junk, .junk, .junk, .junk, .junk, .junk, .junk, .junk, .junk, .junk, .junk, .junk, .junk, .junk, .junk, .junk, .junk, .junk, .junk, .junk, .junk, .junk, .junk, .junk, .junk, .junk, .junk, .junk, .junk, .junk, .junk, .junk, .junk, .junk, .junk, .junk, .junk, .junk, .junk, .junk, .junk, .junk, .junk, .junk, .junk, .junk], []⟩
  (contK Tryd.prog H65.sp 0 (inlK Tryd.prog H65 m 3) m fh65_65 (endK Tryd.prog Tryd.f65 (fun v L => viewK L 8 v some)) [.block 1, .code (subc [1, 1, 1, 0, 1, 0, 0, 1, 1] (bodyOf Tryd.f65)), .loop [true, false, false, false, true, true, false, false, false, false, false, false, false, false, false, false, false, false, false, false, false, false, false, false, false, false, false, false, false, false, false, false, false, false, false, false, false, false, false, false, false, false, false, false, false, false, false, false, false, false, false, false, false, false] 0 (subc [1, 1, 1, 0, 1, 0, 0] (bodyOf Tryd.f65)) n0, .block 0, .code (subc [1, 1, 1, 1] (bodyOf Tryd.f65))]))
theorem F65_65_j9_e (m n0 : Nat) (u1_0 : ByteArray) (u1_1 : Nat) (u1_2 : Option Nat) (u1_3 : List D) (u1_4 : Int) : F65_65_j9 m n0 u1_0 u1_1 u1_2 u1_3 u1_4 =
 (if 0 ≤ u1_4 ∧ u1_4 < (((ByteArray.size u1_0) : Nat) : Int) then
 if (List.length u1_3) = (u1_1 * 1) then
 if (1 + u1_1) ≤ 1 then
 (if (0 + ((1 + u1_1) * 1)) ≤ 1 ∧ (List.length u1_3) = (u1_1 * 1) then
 if (0 + ((1 + u1_1) * 1)) ≤ 1 then
 F65_65_5 m n0 u1_0 (1 + u1_1) (some 1) (cutL 1 (List.take 1 [(D.v (.int .i64 (IntKind.wrap .i64 (IntKind.wrap .u8 ((((List.getD (Array.toList (ByteArray.data u1_0)) (Int.toNat u1_4) 0).toNat : Nat) : Int) - (48 : Int))))))] ++ (u1_3 ++ List.drop (0 + ((1 + u1_1) * 1)) [(D.v (.int .i64 (IntKind.wrap .i64 (IntKind.wrap .u8 ((((List.getD (Array.toList (ByteArray.data u1_0)) (Int.toNat u1_4) 0).toNat : Nat) : Int) - (48 : Int))))))])) 0 ((1 + u1_1) * 1)) (IntKind.wrap .i64 (u1_4 + (1 : Int)))
 else none
 else none)
 else
 (if fitsRow (1 + u1_1) 8 ∧ (List.length u1_3) = (u1_1 * 1) then
 if (0 + ((1 + u1_1) * 1)) ≤ ((1 + u1_1) * 1) then
 F65_65_5 m n0 u1_0 (1 + u1_1) none (cutL ((1 + u1_1) * 1) ([(D.v (.int .i64 (IntKind.wrap .i64 (IntKind.wrap .u8 ((((List.getD (Array.toList (ByteArray.data u1_0)) (Int.toNat u1_4) 0).toNat : Nat) : Int) - (48 : Int))))))] ++ u1_3) 0 ((1 + u1_1) * 1)) (IntKind.wrap .i64 (u1_4 + (1 : Int)))
 else none
 else none)
 else none
 else none) := by kernel_rfl
noncomputable def F65_65_j13 (m : Nat) (u2_0 : Nat) (u2_1 : Option Nat) (u2_2 : List D) : Option D :=
 cutK (codeK Tryd.prog H65.sp 0 (inlK Tryd.prog H65 m 3) m fh65_65 (subc [1, 1, 1, 1, 1, 1] (bodyOf Tryd.f65)) ⟨[.junk, .junk, .junk, .junk, (AV.d (D.list u2_0 u2_1 u2_2)), .junk, .junk, .junk, .junk, .junk, .junk, .junk, .junk, .junk, .junk, .junk, .junk, .junk, .junk, .junk, .junk, .junk, .junk, .junk, .junk, .junk, .junk, .junk, .junk, .junk, .junk, .junk, .junk, .junk, .junk, .junk, .junk, .junk, .junk, .junk, .junk, .junk, .junk, .junk, .junk, .junk, .junk, .junk, .junk, .junk, .junk, .junk, .junk, .junk], []⟩
  (contK Tryd.prog H65.sp 0 (inlK Tryd.prog H65 m 3) m fh65_65 (endK Tryd.prog Tryd.f65 (fun v L => viewK L 8 v some)) []))
theorem F65_65_j13_e (m : Nat) (u2_0 : Nat) (u2_1 : Option Nat) (u2_2 : List D) : F65_65_j13 m u2_0 u2_1 u2_2 =
 (some (D.tup [(D.list u2_0 u2_1 u2_2), (D.v (.int .i64 (0 : Int)))])) := by kernel_rfl
theorem F65_65_5_0 (m : Nat) (y0_0 : ByteArray) (y0_1 : Nat) (y0_2 : Option Nat) (y0_3 : List D) (y0_4 : Int) : F65_65_5 m 0 y0_0 y0_1 y0_2 y0_3 y0_4 = none := rfl
theorem F65_65_5_s (m n0 : Nat) (y0_0 : ByteArray) (y0_1 : Nat) (y0_2 : Option Nat) (y0_3 : List D) (y0_4 : Int) : F65_65_5 m (n0 + 1) y0_0 y0_1 y0_2 y0_3 y0_4 =
 (cond (decide (y0_4 < ((ByteArray.size y0_0 : Nat) : Int)))
 (if 0 ≤ y0_4 ∧ y0_4 < (((ByteArray.size y0_0) : Nat) : Int) then
 cond (decide ((((List.getD (Array.toList (ByteArray.data y0_0)) (Int.toNat y0_4) 0).toNat : Nat) : Int) < (48 : Int)))
 (some (D.tup [(D.list 0 (some 0) []), (D.v (.int .i64 (6 : Int)))]))
 (if 0 ≤ y0_4 ∧ y0_4 < (((ByteArray.size y0_0) : Nat) : Int) then
 cond (decide ((((List.getD (Array.toList (ByteArray.data y0_0)) (Int.toNat y0_4) 0).toNat : Nat) : Int) > (57 : Int)))
 (some (D.tup [(D.list 0 (some 0) []), (D.v (.int .i64 (6 : Int)))]))
 (F65_65_j9 m n0 y0_0 y0_1 y0_2 y0_3 y0_4)
 else none)
 else none)
 ((sp88 [(D.list y0_1 y0_2 y0_3)]).bind fun d1 =>
 (rdL (some d1)).bind fun q2 =>
 cond (decide (((q2.n : Nat) : Int) > (155 : Int)))
 (some (D.tup [(D.list 0 (some 0) []), (D.v (.int .i64 (3 : Int)))]))
 ((sp76 [(D.list q2.n q2.cap q2.cs)]).bind fun d3 =>
 (rdL (some d3)).bind fun q4 =>
 cond (decide (((q4.n : Nat) : Int) > (64 : Int)))
 (some (D.tup [(D.list 0 (some 0) []), (D.v (.int .i64 (3 : Int)))]))
 (F65_65_j13 m q2.n q2.cap q2.cs)))) := by kernel_rfl
theorem F65_65_j3_e (m : Nat) (u0_0 : ByteArray) : F65_65_j3 m u0_0 =
 (F65_65_5 m m u0_0 0 (some 0) [] (0 : Int)) := by kernel_rfl
noncomputable def F65 (m : Nat) (a0 : ByteArray) : Option D :=
 cond (ByteArray.toList a0 == ByteArray.toList (ByteArray.mk #[]))
 (some (D.tup [(D.list 0 (some 0) []), (D.v (.int .i64 (6 : Int)))]))
 (if 0 ≤ (0 : Int) ∧ (0 : Int) < (((ByteArray.size a0) : Nat) : Int) then
 cond ((((List.getD (Array.toList (ByteArray.data a0)) 0 0).toNat : Nat) : Int) == (48 : Int))
 (cond (decide (((ByteArray.size a0 : Nat) : Int) > (1 : Int)))
 (some (D.tup [(D.list 0 (some 0) []), (D.v (.int .i64 (6 : Int)))]))
 (F65_65_j3 m a0))
 (F65_65_j3 m a0)
 else none)
theorem F65_eq (m : Nat) (a0 : ByteArray) : funD Tryd.prog H65 m 3 fh65_65 Tryd.f65 [(D.v (.string a0))] = F65 m a0 := by kernel_rfl
theorem en65 : Enters Tryd.prog 65 := ⟨Tryd.f65, Tryd.func65, by kernel_rfl, by kernel_rfl⟩
theorem dt65 {ds : List D} {d : D} (h : funD Tryd.prog H65 M 3 fh65_65 Tryd.f65 ds = some d) : DataSem Tryd.prog 65 ds d := data_sound (H := H65) (SpOk.cons ds76 (SpOk.cons ds88 SpOk.nil)) mixed InlOk.nil Tryd.func65 en65 h
noncomputable def sp65 : List D → Option D
  | [.v (.string a0)] => F65 M a0
  | _ => none
theorem ds65 : ∀ ds d, sp65 ds = some d → DataSem Tryd.prog 65 ds d := by
  intro ds d h
  unfold sp65 at h
  split at h
  · exact dt65 ((F65_eq M _).trans h)
  · cases h

-- ('str', '"vidimus/vidimuslaw01.same"')
def fh47_47 : FnH := ⟨[], [(3, ⟨[true, false, true, false, false, false, false, false, false, false, false, false, false, false, false, false, false, false, false, false, false, false, false, false, false, false, false, false, false, false, false, false, false, false, false, false, false], [], (some 0)⟩)]⟩
noncomputable def H47 : Hints := ⟨[(76, sp76)], []⟩
noncomputable def F47_47_j3 (m : Nat) (u0_0 : Nat) (u0_1 : Nat) (u0_2 : List D) (u0_3 : Nat) (u0_4 : Option Nat) (u0_5 : List D) : Option D :=
 cutK (codeK Tryd.prog H47.sp 0 (inlK Tryd.prog H47 m 3) m fh47_47 (subc [1, 1] (bodyOf Tryd.f47)) ⟨[(AV.d (D.list u0_0 (some u0_1) u0_2)), .junk, (AV.d (D.list u0_3 u0_4 u0_5)), .junk, .junk, .junk, .junk, .junk, .junk, .junk, .junk, .junk, .junk, .junk, .junk, .junk, .junk, .junk, .junk, .junk, .junk, .junk, .junk, .junk, .junk, .junk, .junk, .junk, .junk, .junk, .junk, .junk, .junk, .junk, .junk, .junk, .junk], []⟩
  (contK Tryd.prog H47.sp 0 (inlK Tryd.prog H47 m 3) m fh47_47 (endK Tryd.prog Tryd.f47 (fun v L => viewK L 8 v some)) []))
theorem F47_47_j3_e (m : Nat) (u0_0 : Nat) (u0_1 : Nat) (u0_2 : List D) (u0_3 : Nat) (u0_4 : Option Nat) (u0_5 : List D) : F47_47_j3 m u0_0 u0_1 u0_2 u0_3 u0_4 u0_5 =
 (if (List.length u0_2) = u0_0 then
 (bytesOf u0_2).bind fun l1 =>
 (sp76 [(D.list u0_3 u0_4 u0_5)]).bind fun d2 =>
 (rdL (some d2)).bind fun q3 =>
 if (List.length q3.cs) = q3.n then
 (bytesOf q3.cs).bind fun l4 =>
 cond (ByteArray.toList (ByteArray.mk (List.toArray l1)) == ByteArray.toList (ByteArray.mk (List.toArray l4)))
 (some (D.v (.bool (((u0_1 : Nat) : Int) == ((u0_0 : Nat) : Int)))))
 (some (D.v (.bool false)))
 else none
 else none) := by kernel_rfl
noncomputable def F47 (m : Nat) (a0n : Nat) (a0c : Nat) (a0 : List D) (a1 : Int) (a2n : Nat) (a2c : Option Nat) (a2 : List D) (a3 : Int) : Option D :=
 cond (a1 != a3)
 (cond (a1 == a3)
 (some (D.v (.bool (((a0n : Nat) : Int) == (0 : Int)))))
 (some (D.v (.bool false))))
 (cond (a3 != (0 : Int))
 (cond (a1 == a3)
 (some (D.v (.bool (((a0n : Nat) : Int) == (0 : Int)))))
 (some (D.v (.bool false))))
 (F47_47_j3 m a0n a0c a0 a2n a2c a2))
theorem F47_eq (m : Nat) (a0n : Nat) (a0c : Nat) (a0 : List D) (a1 : Int) (a2n : Nat) (a2c : Option Nat) (a2 : List D) (a3 : Int) : funD Tryd.prog H47 m 3 fh47_47 Tryd.f47 [(D.list a0n (some a0c) a0), (D.v (.int .i64 a1)), (D.list a2n a2c a2), (D.v (.int .i64 a3))] = F47 m a0n a0c a0 a1 a2n a2c a2 a3 := by kernel_rfl
theorem en47 : Enters Tryd.prog 47 := ⟨Tryd.f47, Tryd.func47, by kernel_rfl, by kernel_rfl⟩
theorem dt47 {ds : List D} {d : D} (h : funD Tryd.prog H47 M 3 fh47_47 Tryd.f47 ds = some d) : DataSem Tryd.prog 47 ds d := data_sound (H := H47) (SpOk.cons ds76 SpOk.nil) mixed InlOk.nil Tryd.func47 en47 h
noncomputable def sp47 : List D → Option D
  | [.list a0n (some a0c) a0, .v (.int .i64 a1), .list a2n a2c a2, .v (.int .i64 a3)] => F47 M a0n a0c a0 a1 a2n a2c a2 a3
  | _ => none
theorem ds47 : ∀ ds d, sp47 ds = some d → DataSem Tryd.prog 47 ds d := by
  intro ds d h
  unfold sp47 at h
  split at h
  · exact dt47 ((F47_eq M _ _ _ _ _ _ _ _).trans h)
  · cases h

-- ('str', '"vidimus/vidimuslaw01.is"')
def fh66_66 : FnH := ⟨[], []⟩
noncomputable def H66 : Hints := ⟨[], []⟩
noncomputable def F66 (m : Nat) (a0n : Nat) (a0c : Option Nat) (a0 : List D) (a1 : Int) (a2 : ByteArray) : Option D :=
 cond (a1 == (0 : Int))
 (if (List.length a0) = a0n then
 (bytesOf a0).bind fun l1 =>
 some (D.v (.bool (ByteArray.toList (ByteArray.mk (List.toArray l1)) == ByteArray.toList a2)))
 else none)
 (some (D.v (.bool false)))
theorem F66_eq (m : Nat) (a0n : Nat) (a0c : Option Nat) (a0 : List D) (a1 : Int) (a2 : ByteArray) : funD Tryd.prog H66 m 3 fh66_66 Tryd.f66 [(D.list a0n a0c a0), (D.v (.int .i64 a1)), (D.v (.string a2))] = F66 m a0n a0c a0 a1 a2 := by kernel_rfl
theorem en66 : Enters Tryd.prog 66 := ⟨Tryd.f66, Tryd.func66, by kernel_rfl, by kernel_rfl⟩
theorem dt66 {ds : List D} {d : D} (h : funD Tryd.prog H66 M 3 fh66_66 Tryd.f66 ds = some d) : DataSem Tryd.prog 66 ds d := data_sound (H := H66) SpOk.nil mixed InlOk.nil Tryd.func66 en66 h
noncomputable def sp66 : List D → Option D
  | [.list a0n a0c a0, .v (.int .i64 a1), .v (.string a2)] => F66 M a0n a0c a0 a1 a2
  | _ => none
theorem ds66 : ∀ ds d, sp66 ds = some d → DataSem Tryd.prog 66 ds d := by
  intro ds d h
  unfold sp66 at h
  split at h
  · exact dt66 ((F66_eq M _ _ _ _ _).trans h)
  · cases h

-- ('str', '"vidimus/vidimuslaw01.power"')
def fh70_70 : FnH := ⟨[], []⟩
noncomputable def H70 : Hints := ⟨[], []⟩
noncomputable def F70 (m : Nat) (a0 : Int) : Option D :=
 if 0 ≤ (IntKind.wrap .i64 ((IntKind.wrap .i64 (Int.tdiv a0 (8 : Int))) + (1 : Int))) ∧ (IntKind.wrap .i64 ((IntKind.wrap .i64 (Int.tdiv a0 (8 : Int))) + (1 : Int))) ≤ (IntKind.wrap .i64 ((IntKind.wrap .i64 (Int.tdiv a0 (8 : Int))) + (1 : Int))) ∧ fitsRow (Int.toNat (IntKind.wrap .i64 ((IntKind.wrap .i64 (Int.tdiv a0 (8 : Int))) + (1 : Int)))) 1 then
 if (Int.tmod a0 (8 : Int)) < 0 then none else
 if 0 ≤ (0 : Int) ∧ (0 : Int) < (((Int.toNat (IntKind.wrap .i64 ((IntKind.wrap .i64 (Int.tdiv a0 (8 : Int))) + (1 : Int)))) : Nat) : Int) then
 if 1 = 1 ∧ 0 < ((Int.toNat (IntKind.wrap .i64 ((IntKind.wrap .i64 (Int.tdiv a0 (8 : Int))) + (1 : Int)))) * 1) then
 if (0 + ((Int.toNat (IntKind.wrap .i64 ((IntKind.wrap .i64 (Int.tdiv a0 (8 : Int))) + (1 : Int)))) * 1)) ≤ ((Int.toNat (IntKind.wrap .i64 ((IntKind.wrap .i64 (Int.tdiv a0 (8 : Int))) + (1 : Int)))) * 1) then
 some (D.list (Int.toNat (IntKind.wrap .i64 ((IntKind.wrap .i64 (Int.tdiv a0 (8 : Int))) + (1 : Int)))) (some (Int.toNat (IntKind.wrap .i64 ((IntKind.wrap .i64 (Int.tdiv a0 (8 : Int))) + (1 : Int))))) (cutL ((Int.toNat (IntKind.wrap .i64 ((IntKind.wrap .i64 (Int.tdiv a0 (8 : Int))) + (1 : Int)))) * 1) (List.set (List.flatten (List.replicate (Int.toNat (IntKind.wrap .i64 ((IntKind.wrap .i64 (Int.tdiv a0 (8 : Int))) + (1 : Int)))) [(D.v (.int .u8 (0 : Int)))])) 0 (D.v (.int .u8 (IntKind.wrap .u8 ((1 : Int) * 2 ^ (min (Int.toNat (Int.tmod a0 (8 : Int))) (IntKind.bits .u8))))))) 0 ((Int.toNat (IntKind.wrap .i64 ((IntKind.wrap .i64 (Int.tdiv a0 (8 : Int))) + (1 : Int)))) * 1)))
 else none
 else none
 else none
 else none
theorem F70_eq (m : Nat) (a0 : Int) : funD Tryd.prog H70 m 3 fh70_70 Tryd.f70 [(D.v (.int .i64 a0))] = F70 m a0 := by kernel_rfl
theorem en70 : Enters Tryd.prog 70 := ⟨Tryd.f70, Tryd.func70, by kernel_rfl, by kernel_rfl⟩
theorem dt70 {ds : List D} {d : D} (h : funD Tryd.prog H70 M 3 fh70_70 Tryd.f70 ds = some d) : DataSem Tryd.prog 70 ds d := data_sound (H := H70) SpOk.nil mixed InlOk.nil Tryd.func70 en70 h
noncomputable def sp70 : List D → Option D
  | [.v (.int .i64 a0)] => F70 M a0
  | _ => none
theorem ds70 : ∀ ds d, sp70 ds = some d → DataSem Tryd.prog 70 ds d := by
  intro ds d h
  unfold sp70 at h
  split at h
  · exact dt70 ((F70_eq M _).trans h)
  · cases h

end Go.Ev
