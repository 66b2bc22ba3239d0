/- Functions of the given program in plain form, printed: each with the proof that it is what the evaluator comes to, and that the program function returns what it says. No conditions. -/
import Derived.Test.YtilgfaangfbndaaDoorEvClone
set_option linter.unusedVariables false
set_option maxRecDepth 100000
namespace Go.Ev
open Go Go.Proofs
theorem mixed : Tryd.prog.follows .mixedOrders = true := by kernel_rfl
theorem en85 : Enters Tryd.prog 85 := ⟨Tryd.f85, Tryd.func85, by kernel_rfl, by kernel_rfl⟩
theorem en86 : Enters Tryd.prog 86 := ⟨Tryd.f86, Tryd.func86, by kernel_rfl, by kernel_rfl⟩
theorem en94 : Enters Tryd.prog 94 := ⟨Tryd.f94, Tryd.func94, by kernel_rfl, by kernel_rfl⟩
theorem en72 : Enters Tryd.prog 72 := ⟨Tryd.f72, Tryd.func72, by kernel_rfl, by kernel_rfl⟩
theorem en89 : Enters Tryd.prog 89 := ⟨Tryd.f89, Tryd.func89, by kernel_rfl, by kernel_rfl⟩
theorem en75 : Enters Tryd.prog 75 := ⟨Tryd.f75, Tryd.func75, by kernel_rfl, by kernel_rfl⟩
theorem en78 : Enters Tryd.prog 78 := ⟨Tryd.f78, Tryd.func78, by kernel_rfl, by kernel_rfl⟩
theorem en79 : Enters Tryd.prog 79 := ⟨Tryd.f79, Tryd.func79, by kernel_rfl, by kernel_rfl⟩
theorem en81 : Enters Tryd.prog 81 := ⟨Tryd.f81, Tryd.func81, by kernel_rfl, by kernel_rfl⟩
theorem en91 : Enters Tryd.prog 91 := ⟨Tryd.f91, Tryd.func91, by kernel_rfl, by kernel_rfl⟩

-- ('str', '"vidimus/scalars.superfluous"')
def fh71_71 : FnH := ⟨[], []⟩
noncomputable def H71 : Hints := ⟨[], []⟩
noncomputable def F71 (m : Nat) (a0n : Nat) (a0c : Option Nat) (a0 : List D) : Option D :=
 cond (decide (((a0n : Nat) : Int) > (1 : Int)))
 (if 0 ≤ (0 : Int) ∧ (0 : Int) < ((a0n : Nat) : Int) then
 (rdI .u8 a0[0]?).bind fun x1 =>
 cond (x1 == (0 : Int))
 (if 0 ≤ (1 : Int) ∧ (1 : Int) < ((a0n : Nat) : Int) then
 (rdI .u8 a0[1]?).bind fun x2 =>
 cond (decide (x2 < (128 : Int)))
 (some (D.v (.bool true)))
 (if 0 ≤ (0 : Int) ∧ (0 : Int) < ((a0n : Nat) : Int) then
 (rdI .u8 a0[0]?).bind fun x3 =>
 cond (x3 == (255 : Int))
 (if 0 ≤ (1 : Int) ∧ (1 : Int) < ((a0n : Nat) : Int) then
 (rdI .u8 a0[1]?).bind fun x4 =>
 some (D.v (.bool (decide (x4 ≥ (128 : Int)))))
 else none)
 (some (D.v (.bool false)))
 else none)
 else none)
 (if 0 ≤ (0 : Int) ∧ (0 : Int) < ((a0n : Nat) : Int) then
 (rdI .u8 a0[0]?).bind fun x5 =>
 cond (x5 == (255 : Int))
 (if 0 ≤ (1 : Int) ∧ (1 : Int) < ((a0n : Nat) : Int) then
 (rdI .u8 a0[1]?).bind fun x6 =>
 some (D.v (.bool (decide (x6 ≥ (128 : Int)))))
 else none)
 (some (D.v (.bool false)))
 else none)
 else none)
 (some (D.v (.bool false)))
theorem F71_eq (m : Nat) (a0n : Nat) (a0c : Option Nat) (a0 : List D) : funD Tryd.prog H71 m 3 fh71_71 Tryd.f71 [(D.list a0n a0c a0)] = F71 m a0n a0c a0 := by kernel_rfl
theorem en71 : Enters Tryd.prog 71 := ⟨Tryd.f71, Tryd.func71, by kernel_rfl, by kernel_rfl⟩
theorem dt71 {ds : List D} {d : D} (h : funD Tryd.prog H71 M 3 fh71_71 Tryd.f71 ds = some d) : DataSem Tryd.prog 71 ds d := data_sound (H := H71) SpOk.nil mixed InlOk.nil Tryd.func71 en71 h
noncomputable def sp71 : List D → Option D
  | [.list a0n a0c a0] => F71 M a0n a0c a0
  | _ => none
theorem ds71 : ∀ ds d, sp71 ds = some d → DataSem Tryd.prog 71 ds d := by
  intro ds d h
  unfold sp71 at h
  split at h
  · exact dt71 ((F71_eq M _ _ _).trans h)
  · cases h

-- ('str', '"vidimus/scalars.GetInt"')
def fh73_73 : FnH := ⟨[(7, ⟨[false, false, false, false, true, false, false, false, false, false, false, false, false, false, false, false, false, false, false, false, false, false, false, false, false, true, true, true, false, false, false, false, false, false, false, false, false, false], [], none⟩)], []⟩
noncomputable def H73 : Hints := ⟨[(71, sp71)], []⟩
noncomputable def F73_73_7 (m n0 : Nat) (y0_0 : Int) (y0_1 : Nat) (y0_2 : Option Nat) (y0_3 : List D) (y0_4 : Int) (y0_5 : Int) : Option D :=
 loopIter [false, false, false, false, true, false, false, false, false, false, false, false, false, false, false, false, false, false, false, false, false, false, false, false, false, true, true, true, false, false, false, false, false, false, false, false, false, false] 0 0 (codeK Tryd.prog H73.sp 0 (inlK Tryd.prog H73 m 3) m fh73_73 (subc [1, 1, 1, 0, 1, 0, 0] (bodyOf Tryd.f73))) n0 ⟨[.junk, .junk, .junk, .junk, (AV.d (D.v (.int .i64 y0_0))), .junk, .junk, .junk, .junk, .junk, .junk, .junk, .junk, .junk, .junk, .junk, .junk, .junk, .junk, .junk, .junk, .junk, .junk, .junk, .junk, (AV.d (D.list y0_1 y0_2 y0_3)), (AV.d (D.v (.int .i64 y0_4))), (AV.d (D.v (.int .i64 y0_5))), .junk, .junk, .junk, .junk, .junk, .junk, .junk, .junk, .junk, .junk], []⟩
  (contK Tryd.prog H73.sp 0 (inlK Tryd.prog H73 m 3) m fh73_73 (endK Tryd.prog Tryd.f73 (fun v L => viewK L 8 v some)) [.block 1, .code (subc [1, 1, 1, 1] (bodyOf Tryd.f73))])
theorem F73_73_7_0 (m : Nat) (y0_0 : Int) (y0_1 : Nat) (y0_2 : Option Nat) (y0_3 : List D) (y0_4 : Int) (y0_5 : Int) : F73_73_7 m 0 y0_0 y0_1 y0_2 y0_3 y0_4 y0_5 = none := rfl
theorem F73_73_7_s (m n0 : Nat) (y0_0 : Int) (y0_1 : Nat) (y0_2 : Option Nat) (y0_3 : List D) (y0_4 : Int) (y0_5 : Int) : F73_73_7 m (n0 + 1) y0_0 y0_1 y0_2 y0_3 y0_4 y0_5 =
 (cond (decide (y0_5 < y0_4))
 (if 0 ≤ y0_5 ∧ y0_5 < ((y0_1 : Nat) : Int) then
 (rdI .u8 y0_3[((Int.toNat y0_5) * 1)]?).bind fun x6 =>
 F73_73_7 m n0 (IntKind.wrap .i64 (((BitVec.ofInt (IntKind.bits .i64) (IntKind.wrap .i64 (y0_0 * 2 ^ 8)) ||| BitVec.ofInt (IntKind.bits .i64) (IntKind.wrap .i64 x6)).toNat : Nat) : Int)) y0_1 y0_2 y0_3 y0_4 (IntKind.wrap .i64 (y0_5 + (1 : Int)))
 else none)
 (some (D.tup [(D.v (.int .i64 y0_0)), (D.v (.int .i64 (0 : Int)))]))) := by kernel_rfl
noncomputable def F73 (m : Nat) (a0n : Nat) (a0c : Option Nat) (a0 : List D) : Option D :=
 cond (((a0n : Nat) : Int) == (0 : Int))
 (some (D.tup [(D.v (.int .i64 (0 : Int))), (D.v (.int .i64 (11 : Int)))]))
 ((sp71 [(D.list a0n a0c a0)]).bind fun d1 =>
 (rdB (some d1)).bind fun b2 =>
 cond b2
 (some (D.tup [(D.v (.int .i64 (0 : Int))), (D.v (.int .i64 (11 : Int)))]))
 (cond (decide (((a0n : Nat) : Int) > (8 : Int)))
 (some (D.tup [(D.v (.int .i64 (0 : Int))), (D.v (.int .i64 (3 : Int)))]))
 (if 0 ≤ (0 : Int) ∧ (0 : Int) < ((a0n : Nat) : Int) then
 (rdI .u8 a0[0]?).bind fun x3 =>
 if 0 ≤ (1 : Int) ∧ (1 : Int) ≤ ((a0n : Nat) : Int) then
 F73_73_7 m m (IntKind.wrap .i64 (IntKind.wrap .i8 x3)) (a0n - 1) (Option.map (fun q => q - 1) a0c) ((List.drop 1 a0).take ((a0n - 1) * 1)) (((a0n - 1) : Nat) : Int) (0 : Int)
 else none
 else none)))
theorem F73_eq (m : Nat) (a0n : Nat) (a0c : Option Nat) (a0 : List D) : funD Tryd.prog H73 m 3 fh73_73 Tryd.f73 [(D.list a0n a0c a0)] = F73 m a0n a0c a0 := by kernel_rfl
theorem en73 : Enters Tryd.prog 73 := ⟨Tryd.f73, Tryd.func73, by kernel_rfl, by kernel_rfl⟩
theorem dt73 {ds : List D} {d : D} (h : funD Tryd.prog H73 M 3 fh73_73 Tryd.f73 ds = some d) : DataSem Tryd.prog 73 ds d := data_sound (H := H73) (SpOk.cons ds71 SpOk.nil) mixed InlOk.nil Tryd.func73 en73 h
noncomputable def sp73 : List D → Option D
  | [.list a0n a0c a0] => F73 M a0n a0c a0
  | _ => none
theorem ds73 : ∀ ds d, sp73 ds = some d → DataSem Tryd.prog 73 ds d := by
  intro ds d h
  unfold sp73 at h
  split at h
  · exact dt73 ((F73_eq M _ _ _).trans h)
  · cases h

-- ('str', '"vidimus/scalars.PutInt"')
def fh18_18 : FnH := ⟨[(3, ⟨[true, false, false, true, false, false, true, false, false, false, false, false, false, false, false, false, false, false, false, false, false, false, false, false, false], [], none⟩), (8, ⟨[false, false, false, false, false, true, false, false, false, false, false, false, false, false, false, false, false, false, false, false, false, false, false, false, false], [], none⟩)], []⟩
def fh18_72 : FnH := ⟨[], []⟩
noncomputable def H18 : Hints := ⟨[(71, sp71)], [(72, Tryd.f72, fh18_72)]⟩
noncomputable def F18_18_3 (m n0 : Nat) (y0_0 : Int) (y0_1 : Int) (y0_2 : List D) : Option D :=
 loopIter [true, false, false, true, false, false, true, false, false, false, false, false, false, false, false, false, false, false, false, false, false, false, false, false, false] 0 1 (codeK Tryd.prog H18.sp 0 (inlK Tryd.prog H18 m 3) m fh18_18 (subc [1, 1, 0, 1, 0, 0] (bodyOf Tryd.f18))) n0 ⟨[(AV.d (D.v (.int .i64 y0_0))), .junk, .junk, (AV.ptr 0 0), .junk, .junk, (AV.d (D.v (.int .i64 y0_1))), .junk, .junk, .junk, .junk, .junk, .junk, .junk, .junk, .junk, .junk, .junk, .junk, .junk, .junk, .junk, .junk, .junk, .junk], [(Blk.d 8 y0_2)]⟩
  (contK Tryd.prog H18.sp 0 (inlK Tryd.prog H18 m 3) m fh18_18 (endK Tryd.prog Tryd.f18 (fun v L => viewK L 8 v some)) [.block 0, .code (subc [1, 1, 1] (bodyOf Tryd.f18))])
noncomputable def F18_18_8 (m n0 : Nat) (y1_0 : Nat) (y1_1 : Nat) (y1_2 : Nat) (y1_3 : List D) : Option D :=
 loopIter [false, false, false, false, false, true, false, false, false, false, false, false, false, false, false, false, false, false, false, false, false, false, false, false, false] 0 1 (codeK Tryd.prog H18.sp 0 (inlK Tryd.prog H18 m 3) m fh18_18 (subc [1, 1, 1, 1, 0, 0, 0] (bodyOf Tryd.f18))) n0 ⟨[.junk, .junk, .junk, .junk, .junk, (AV.sl 0 y1_0 y1_1 (some y1_2) 1), .junk, .junk, .junk, .junk, .junk, .junk, .junk, .junk, .junk, .junk, .junk, .junk, .junk, .junk, .junk, .junk, .junk, .junk, .junk], [(Blk.d 8 y1_3)]⟩
  (contK Tryd.prog H18.sp 0 (inlK Tryd.prog H18 m 3) m fh18_18 (endK Tryd.prog Tryd.f18 (fun v L => viewK L 8 v some)) [.block 2, .code (subc [1, 1, 1, 1, 1] (bodyOf Tryd.f18))])
theorem F18_18_8_0 (m : Nat) (y1_0 : Nat) (y1_1 : Nat) (y1_2 : Nat) (y1_3 : List D) : F18_18_8 m 0 y1_0 y1_1 y1_2 y1_3 = none := rfl
theorem F18_18_8_s (m n0 : Nat) (y1_0 : Nat) (y1_1 : Nat) (y1_2 : Nat) (y1_3 : List D) : F18_18_8 m (n0 + 1) y1_0 y1_1 y1_2 y1_3 =
 (if (y1_0 + (y1_1 * 1)) ≤ 8 then
 (sp71 [(D.list y1_1 (some y1_2) (cutL 8 y1_3 y1_0 (y1_1 * 1)))]).bind fun d5 =>
 (rdB (some d5)).bind fun b6 =>
 cond b6
 (if 0 ≤ (1 : Int) ∧ (1 : Int) ≤ ((y1_1 : Nat) : Int) then
 F18_18_8 m n0 (y1_0 + 1) (y1_1 - 1) (y1_2 - 1) y1_3
 else none)
 (if 0 ≤ ((y1_1 : Nat) : Int) ∧ ((y1_1 : Nat) : Int) ≤ ((y1_1 : Nat) : Int) then
 if 0 ≤ ((y1_1 : Nat) : Int) ∧ ((y1_1 : Nat) : Int) ≤ (((Int.toNat ((y1_1 : Nat) : Int)) : Nat) : Int) then
 if ((y1_0 + 0) + (((Int.toNat ((y1_1 : Nat) : Int)) - 0) * 1)) ≤ 8 then
 some (D.list ((Int.toNat ((y1_1 : Nat) : Int)) - 0) (some ((Int.toNat ((y1_1 : Nat) : Int)) - 0)) (cutL 8 y1_3 (y1_0 + 0) (((Int.toNat ((y1_1 : Nat) : Int)) - 0) * 1)))
 else none
 else none
 else none)
 else none) := by kernel_rfl
theorem F18_18_3_0 (m : Nat) (y0_0 : Int) (y0_1 : Int) (y0_2 : List D) : F18_18_3 m 0 y0_0 y0_1 y0_2 = none := rfl
theorem F18_18_3_s (m n0 : Nat) (y0_0 : Int) (y0_1 : Int) (y0_2 : List D) : F18_18_3 m (n0 + 1) y0_0 y0_1 y0_2 =
 (cond (decide (y0_1 < (8 : Int)))
 (if (IntKind.wrap .i64 ((8 : Int) * y0_1)) < 0 then none else
 if 0 ≤ (IntKind.wrap .i64 ((7 : Int) - y0_1)) ∧ (IntKind.wrap .i64 ((7 : Int) - y0_1)) < (8 : Int) then
 if 1 = 1 ∧ (0 + ((Int.toNat (IntKind.wrap .i64 ((7 : Int) - y0_1))) * 1)) < 8 then
 F18_18_3 m n0 y0_0 (IntKind.wrap .i64 (y0_1 + (1 : Int))) (List.set y0_2 (0 + ((Int.toNat (IntKind.wrap .i64 ((7 : Int) - y0_1))) * 1)) (D.v (.int .u8 (IntKind.wrap .u8 (Int.fdiv y0_0 (2 ^ (min (Int.toNat (IntKind.wrap .i64 ((8 : Int) * y0_1))) (IntKind.bits .i64))))))))
 else none
 else none)
 (F18_18_8 m m 0 8 8 y0_2)) := by kernel_rfl
noncomputable def F18 (m : Nat) (a0 : Int) : Option D :=
 F18_18_3 m m a0 (0 : Int) [(D.v (.int .u8 (0 : Int))), (D.v (.int .u8 (0 : Int))), (D.v (.int .u8 (0 : Int))), (D.v (.int .u8 (0 : Int))), (D.v (.int .u8 (0 : Int))), (D.v (.int .u8 (0 : Int))), (D.v (.int .u8 (0 : Int))), (D.v (.int .u8 (0 : Int)))]
theorem F18_eq (m : Nat) (a0 : Int) : funD Tryd.prog H18 m 3 fh18_18 Tryd.f18 [(D.v (.int .i64 a0))] = F18 m a0 := by kernel_rfl
theorem en18 : Enters Tryd.prog 18 := ⟨Tryd.f18, Tryd.func18, by kernel_rfl, by kernel_rfl⟩
theorem dt18 {ds : List D} {d : D} (h : funD Tryd.prog H18 M 3 fh18_18 Tryd.f18 ds = some d) : DataSem Tryd.prog 18 ds d := data_sound (H := H18) (SpOk.cons ds71 SpOk.nil) mixed (InlOk.cons Tryd.func72 en72 InlOk.nil) Tryd.func18 en18 h
noncomputable def sp18 : List D → Option D
  | [.v (.int .i64 a0)] => F18 M a0
  | _ => none
theorem ds18 : ∀ ds d, sp18 ds = some d → DataSem Tryd.prog 18 ds d := by
  intro ds d h
  unfold sp18 at h
  split at h
  · exact dt18 ((F18_eq M _).trans h)
  · cases h

-- ('str', '"vidimus/vidimusref05.PutInt"')
def fh19_19 : FnH := ⟨[(3, ⟨[false, false, false, true, true, false, false, false, false, false, false, false, false, false, false, false, false, false, false, false, false, false, false, false, false, false, false, false, false, false, false, false, false], [], none⟩)], []⟩
noncomputable def H19 : Hints := ⟨[], []⟩
noncomputable def F19_19_3 (m n0 : Nat) (y0_0 : Nat) (y0_1 : Option Nat) (y0_2 : List D) (y0_3 : Int) : Option D :=
 loopIter [false, false, false, true, true, false, false, false, false, false, false, false, false, false, false, false, false, false, false, false, false, false, false, false, false, false, false, false, false, false, false, false, false] 0 0 (codeK Tryd.prog H19.sp 0 (inlK Tryd.prog H19 m 3) m fh19_19 (subc [1, 1, 1, 0, 0] (bodyOf Tryd.f19))) n0 ⟨[.junk, .junk, .junk, (AV.d (D.list y0_0 y0_1 y0_2)), (AV.d (D.v (.int .i64 y0_3))), .junk, .junk, .junk, .junk, .junk, .junk, .junk, .junk, .junk, .junk, .junk, .junk, .junk, .junk, .junk, .junk, .junk, .junk, .junk, .junk, .junk, .junk, .junk, .junk, .junk, .junk, .junk, .junk], []⟩
  (contK Tryd.prog H19.sp 0 (inlK Tryd.prog H19 m 3) m fh19_19 (endK Tryd.prog Tryd.f19 (fun v L => viewK L 8 v some)) [.block 0])
theorem F19_19_3_0 (m : Nat) (y0_0 : Nat) (y0_1 : Option Nat) (y0_2 : List D) (y0_3 : Int) : F19_19_3 m 0 y0_0 y0_1 y0_2 y0_3 = none := rfl
theorem F19_19_3_s (m n0 : Nat) (y0_0 : Nat) (y0_1 : Option Nat) (y0_2 : List D) (y0_3 : Int) : F19_19_3 m (n0 + 1) y0_0 y0_1 y0_2 y0_3 =
 (if (List.length y0_2) = (y0_0 * 1) then
 if (1 + y0_0) ≤ 1 then
 (if (0 + ((1 + y0_0) * 1)) ≤ 1 ∧ (List.length y0_2) = (y0_0 * 1) then
 cond ((Int.fdiv y0_3 (2 ^ 8)) == (0 : Int))
 (if 0 ≤ (0 : Int) ∧ (0 : Int) < (((1 + y0_0) : Nat) : Int) then
 (rdI .u8 (List.take 1 [(D.v (.int .u8 (IntKind.wrap .u8 (IntKind.wrap .i64 (((BitVec.ofInt (IntKind.bits .i64) y0_3 &&& BitVec.ofInt (IntKind.bits .i64) (255 : Int)).toNat : Nat) : Int)))))] ++ (y0_2 ++ List.drop (0 + ((1 + y0_0) * 1)) [(D.v (.int .u8 (IntKind.wrap .u8 (IntKind.wrap .i64 (((BitVec.ofInt (IntKind.bits .i64) y0_3 &&& BitVec.ofInt (IntKind.bits .i64) (255 : Int)).toNat : Nat) : Int)))))]))[0]?).bind fun x13 =>
 cond (decide (x13 < (128 : Int)))
 (if (0 + ((1 + y0_0) * 1)) ≤ 1 then
 some (D.list (1 + y0_0) (some 1) (cutL 1 (List.take 1 [(D.v (.int .u8 (IntKind.wrap .u8 (IntKind.wrap .i64 (((BitVec.ofInt (IntKind.bits .i64) y0_3 &&& BitVec.ofInt (IntKind.bits .i64) (255 : Int)).toNat : Nat) : Int)))))] ++ (y0_2 ++ List.drop (0 + ((1 + y0_0) * 1)) [(D.v (.int .u8 (IntKind.wrap .u8 (IntKind.wrap .i64 (((BitVec.ofInt (IntKind.bits .i64) y0_3 &&& BitVec.ofInt (IntKind.bits .i64) (255 : Int)).toNat : Nat) : Int)))))])) 0 ((1 + y0_0) * 1)))
 else none)
 (cond ((Int.fdiv y0_3 (2 ^ 8)) == (-1 : Int))
 (if 0 ≤ (0 : Int) ∧ (0 : Int) < (((1 + y0_0) : Nat) : Int) then
 (rdI .u8 (List.take 1 [(D.v (.int .u8 (IntKind.wrap .u8 (IntKind.wrap .i64 (((BitVec.ofInt (IntKind.bits .i64) y0_3 &&& BitVec.ofInt (IntKind.bits .i64) (255 : Int)).toNat : Nat) : Int)))))] ++ (y0_2 ++ List.drop (0 + ((1 + y0_0) * 1)) [(D.v (.int .u8 (IntKind.wrap .u8 (IntKind.wrap .i64 (((BitVec.ofInt (IntKind.bits .i64) y0_3 &&& BitVec.ofInt (IntKind.bits .i64) (255 : Int)).toNat : Nat) : Int)))))]))[0]?).bind fun x14 =>
 cond (decide (x14 > (127 : Int)))
 (if (0 + ((1 + y0_0) * 1)) ≤ 1 then
 some (D.list (1 + y0_0) (some 1) (cutL 1 (List.take 1 [(D.v (.int .u8 (IntKind.wrap .u8 (IntKind.wrap .i64 (((BitVec.ofInt (IntKind.bits .i64) y0_3 &&& BitVec.ofInt (IntKind.bits .i64) (255 : Int)).toNat : Nat) : Int)))))] ++ (y0_2 ++ List.drop (0 + ((1 + y0_0) * 1)) [(D.v (.int .u8 (IntKind.wrap .u8 (IntKind.wrap .i64 (((BitVec.ofInt (IntKind.bits .i64) y0_3 &&& BitVec.ofInt (IntKind.bits .i64) (255 : Int)).toNat : Nat) : Int)))))])) 0 ((1 + y0_0) * 1)))
 else none)
 (if (0 + ((1 + y0_0) * 1)) ≤ 1 then
 F19_19_3 m n0 (1 + y0_0) (some 1) (cutL 1 (List.take 1 [(D.v (.int .u8 (IntKind.wrap .u8 (IntKind.wrap .i64 (((BitVec.ofInt (IntKind.bits .i64) y0_3 &&& BitVec.ofInt (IntKind.bits .i64) (255 : Int)).toNat : Nat) : Int)))))] ++ (y0_2 ++ List.drop (0 + ((1 + y0_0) * 1)) [(D.v (.int .u8 (IntKind.wrap .u8 (IntKind.wrap .i64 (((BitVec.ofInt (IntKind.bits .i64) y0_3 &&& BitVec.ofInt (IntKind.bits .i64) (255 : Int)).toNat : Nat) : Int)))))])) 0 ((1 + y0_0) * 1)) (Int.fdiv y0_3 (2 ^ 8))
 else none)
 else none)
 (if (0 + ((1 + y0_0) * 1)) ≤ 1 then
 F19_19_3 m n0 (1 + y0_0) (some 1) (cutL 1 (List.take 1 [(D.v (.int .u8 (IntKind.wrap .u8 (IntKind.wrap .i64 (((BitVec.ofInt (IntKind.bits .i64) y0_3 &&& BitVec.ofInt (IntKind.bits .i64) (255 : Int)).toNat : Nat) : Int)))))] ++ (y0_2 ++ List.drop (0 + ((1 + y0_0) * 1)) [(D.v (.int .u8 (IntKind.wrap .u8 (IntKind.wrap .i64 (((BitVec.ofInt (IntKind.bits .i64) y0_3 &&& BitVec.ofInt (IntKind.bits .i64) (255 : Int)).toNat : Nat) : Int)))))])) 0 ((1 + y0_0) * 1)) (Int.fdiv y0_3 (2 ^ 8))
 else none))
 else none)
 (cond ((Int.fdiv y0_3 (2 ^ 8)) == (-1 : Int))
 (if 0 ≤ (0 : Int) ∧ (0 : Int) < (((1 + y0_0) : Nat) : Int) then
 (rdI .u8 (List.take 1 [(D.v (.int .u8 (IntKind.wrap .u8 (IntKind.wrap .i64 (((BitVec.ofInt (IntKind.bits .i64) y0_3 &&& BitVec.ofInt (IntKind.bits .i64) (255 : Int)).toNat : Nat) : Int)))))] ++ (y0_2 ++ List.drop (0 + ((1 + y0_0) * 1)) [(D.v (.int .u8 (IntKind.wrap .u8 (IntKind.wrap .i64 (((BitVec.ofInt (IntKind.bits .i64) y0_3 &&& BitVec.ofInt (IntKind.bits .i64) (255 : Int)).toNat : Nat) : Int)))))]))[0]?).bind fun x15 =>
 cond (decide (x15 > (127 : Int)))
 (if (0 + ((1 + y0_0) * 1)) ≤ 1 then
 some (D.list (1 + y0_0) (some 1) (cutL 1 (List.take 1 [(D.v (.int .u8 (IntKind.wrap .u8 (IntKind.wrap .i64 (((BitVec.ofInt (IntKind.bits .i64) y0_3 &&& BitVec.ofInt (IntKind.bits .i64) (255 : Int)).toNat : Nat) : Int)))))] ++ (y0_2 ++ List.drop (0 + ((1 + y0_0) * 1)) [(D.v (.int .u8 (IntKind.wrap .u8 (IntKind.wrap .i64 (((BitVec.ofInt (IntKind.bits .i64) y0_3 &&& BitVec.ofInt (IntKind.bits .i64) (255 : Int)).toNat : Nat) : Int)))))])) 0 ((1 + y0_0) * 1)))
 else none)
 (if (0 + ((1 + y0_0) * 1)) ≤ 1 then
 F19_19_3 m n0 (1 + y0_0) (some 1) (cutL 1 (List.take 1 [(D.v (.int .u8 (IntKind.wrap .u8 (IntKind.wrap .i64 (((BitVec.ofInt (IntKind.bits .i64) y0_3 &&& BitVec.ofInt (IntKind.bits .i64) (255 : Int)).toNat : Nat) : Int)))))] ++ (y0_2 ++ List.drop (0 + ((1 + y0_0) * 1)) [(D.v (.int .u8 (IntKind.wrap .u8 (IntKind.wrap .i64 (((BitVec.ofInt (IntKind.bits .i64) y0_3 &&& BitVec.ofInt (IntKind.bits .i64) (255 : Int)).toNat : Nat) : Int)))))])) 0 ((1 + y0_0) * 1)) (Int.fdiv y0_3 (2 ^ 8))
 else none)
 else none)
 (if (0 + ((1 + y0_0) * 1)) ≤ 1 then
 F19_19_3 m n0 (1 + y0_0) (some 1) (cutL 1 (List.take 1 [(D.v (.int .u8 (IntKind.wrap .u8 (IntKind.wrap .i64 (((BitVec.ofInt (IntKind.bits .i64) y0_3 &&& BitVec.ofInt (IntKind.bits .i64) (255 : Int)).toNat : Nat) : Int)))))] ++ (y0_2 ++ List.drop (0 + ((1 + y0_0) * 1)) [(D.v (.int .u8 (IntKind.wrap .u8 (IntKind.wrap .i64 (((BitVec.ofInt (IntKind.bits .i64) y0_3 &&& BitVec.ofInt (IntKind.bits .i64) (255 : Int)).toNat : Nat) : Int)))))])) 0 ((1 + y0_0) * 1)) (Int.fdiv y0_3 (2 ^ 8))
 else none))
 else none)
 else
 (if fitsRow (1 + y0_0) 1 ∧ (List.length y0_2) = (y0_0 * 1) then
 cond ((Int.fdiv y0_3 (2 ^ 8)) == (0 : Int))
 (if 0 ≤ (0 : Int) ∧ (0 : Int) < (((1 + y0_0) : Nat) : Int) then
 (rdI .u8 ([(D.v (.int .u8 (IntKind.wrap .u8 (IntKind.wrap .i64 (((BitVec.ofInt (IntKind.bits .i64) y0_3 &&& BitVec.ofInt (IntKind.bits .i64) (255 : Int)).toNat : Nat) : Int)))))] ++ y0_2)[0]?).bind fun x16 =>
 cond (decide (x16 < (128 : Int)))
 (if (0 + ((1 + y0_0) * 1)) ≤ ((1 + y0_0) * 1) then
 some (D.list (1 + y0_0) none (cutL ((1 + y0_0) * 1) ([(D.v (.int .u8 (IntKind.wrap .u8 (IntKind.wrap .i64 (((BitVec.ofInt (IntKind.bits .i64) y0_3 &&& BitVec.ofInt (IntKind.bits .i64) (255 : Int)).toNat : Nat) : Int)))))] ++ y0_2) 0 ((1 + y0_0) * 1)))
 else none)
 (cond ((Int.fdiv y0_3 (2 ^ 8)) == (-1 : Int))
 (if 0 ≤ (0 : Int) ∧ (0 : Int) < (((1 + y0_0) : Nat) : Int) then
 (rdI .u8 ([(D.v (.int .u8 (IntKind.wrap .u8 (IntKind.wrap .i64 (((BitVec.ofInt (IntKind.bits .i64) y0_3 &&& BitVec.ofInt (IntKind.bits .i64) (255 : Int)).toNat : Nat) : Int)))))] ++ y0_2)[0]?).bind fun x17 =>
 cond (decide (x17 > (127 : Int)))
 (if (0 + ((1 + y0_0) * 1)) ≤ ((1 + y0_0) * 1) then
 some (D.list (1 + y0_0) none (cutL ((1 + y0_0) * 1) ([(D.v (.int .u8 (IntKind.wrap .u8 (IntKind.wrap .i64 (((BitVec.ofInt (IntKind.bits .i64) y0_3 &&& BitVec.ofInt (IntKind.bits .i64) (255 : Int)).toNat : Nat) : Int)))))] ++ y0_2) 0 ((1 + y0_0) * 1)))
 else none)
 (if (0 + ((1 + y0_0) * 1)) ≤ ((1 + y0_0) * 1) then
 F19_19_3 m n0 (1 + y0_0) none (cutL ((1 + y0_0) * 1) ([(D.v (.int .u8 (IntKind.wrap .u8 (IntKind.wrap .i64 (((BitVec.ofInt (IntKind.bits .i64) y0_3 &&& BitVec.ofInt (IntKind.bits .i64) (255 : Int)).toNat : Nat) : Int)))))] ++ y0_2) 0 ((1 + y0_0) * 1)) (Int.fdiv y0_3 (2 ^ 8))
 else none)
 else none)
 (if (0 + ((1 + y0_0) * 1)) ≤ ((1 + y0_0) * 1) then
 F19_19_3 m n0 (1 + y0_0) none (cutL ((1 + y0_0) * 1) ([(D.v (.int .u8 (IntKind.wrap .u8 (IntKind.wrap .i64 (((BitVec.ofInt (IntKind.bits .i64) y0_3 &&& BitVec.ofInt (IntKind.bits .i64) (255 : Int)).toNat : Nat) : Int)))))] ++ y0_2) 0 ((1 + y0_0) * 1)) (Int.fdiv y0_3 (2 ^ 8))
 else none))
 else none)
 (cond ((Int.fdiv y0_3 (2 ^ 8)) == (-1 : Int))
 (if 0 ≤ (0 : Int) ∧ (0 : Int) < (((1 + y0_0) : Nat) : Int) then
 (rdI .u8 ([(D.v (.int .u8 (IntKind.wrap .u8 (IntKind.wrap .i64 (((BitVec.ofInt (IntKind.bits .i64) y0_3 &&& BitVec.ofInt (IntKind.bits .i64) (255 : Int)).toNat : Nat) : Int)))))] ++ y0_2)[0]?).bind fun x18 =>
 cond (decide (x18 > (127 : Int)))
 (if (0 + ((1 + y0_0) * 1)) ≤ ((1 + y0_0) * 1) then
 some (D.list (1 + y0_0) none (cutL ((1 + y0_0) * 1) ([(D.v (.int .u8 (IntKind.wrap .u8 (IntKind.wrap .i64 (((BitVec.ofInt (IntKind.bits .i64) y0_3 &&& BitVec.ofInt (IntKind.bits .i64) (255 : Int)).toNat : Nat) : Int)))))] ++ y0_2) 0 ((1 + y0_0) * 1)))
 else none)
 (if (0 + ((1 + y0_0) * 1)) ≤ ((1 + y0_0) * 1) then
 F19_19_3 m n0 (1 + y0_0) none (cutL ((1 + y0_0) * 1) ([(D.v (.int .u8 (IntKind.wrap .u8 (IntKind.wrap .i64 (((BitVec.ofInt (IntKind.bits .i64) y0_3 &&& BitVec.ofInt (IntKind.bits .i64) (255 : Int)).toNat : Nat) : Int)))))] ++ y0_2) 0 ((1 + y0_0) * 1)) (Int.fdiv y0_3 (2 ^ 8))
 else none)
 else none)
 (if (0 + ((1 + y0_0) * 1)) ≤ ((1 + y0_0) * 1) then
 F19_19_3 m n0 (1 + y0_0) none (cutL ((1 + y0_0) * 1) ([(D.v (.int .u8 (IntKind.wrap .u8 (IntKind.wrap .i64 (((BitVec.ofInt (IntKind.bits .i64) y0_3 &&& BitVec.ofInt (IntKind.bits .i64) (255 : Int)).toNat : Nat) : Int)))))] ++ y0_2) 0 ((1 + y0_0) * 1)) (Int.fdiv y0_3 (2 ^ 8))
 else none))
 else none)
 else none) := by kernel_rfl
noncomputable def F19 (m : Nat) (a0 : Int) : Option D :=
 F19_19_3 m m 0 (some 0) [] a0
theorem F19_eq (m : Nat) (a0 : Int) : funD Tryd.prog H19 m 3 fh19_19 Tryd.f19 [(D.v (.int .i64 a0))] = F19 m a0 := by kernel_rfl
theorem en19 : Enters Tryd.prog 19 := ⟨Tryd.f19, Tryd.func19, by kernel_rfl, by kernel_rfl⟩
theorem dt19 {ds : List D} {d : D} (h : funD Tryd.prog H19 M 3 fh19_19 Tryd.f19 ds = some d) : DataSem Tryd.prog 19 ds d := data_sound (H := H19) SpOk.nil mixed InlOk.nil Tryd.func19 en19 h
noncomputable def sp19 : List D → Option D
  | [.v (.int .i64 a0)] => F19 M a0
  | _ => none
theorem ds19 : ∀ ds d, sp19 ds = some d → DataSem Tryd.prog 19 ds d := by
  intro ds d h
  unfold sp19 at h
  split at h
  · exact dt19 ((F19_eq M _).trans h)
  · cases h

-- ('str', '"vidimus/vidimuslaw05.same"')
def fh20_20 : FnH := ⟨[], []⟩
noncomputable def H20 : Hints := ⟨[], []⟩
noncomputable def F20 (m : Nat) (a0n : Nat) (a0c : Nat) (a0 : List D) (a1 : Int) (a2n : Nat) (a2c : Option Nat) (a2 : List D) (a3 : Int) : Option D :=
 cond (a1 == a3)
 (if (List.length a0) = a0n then
 (bytesOf a0).bind fun l1 =>
 if (List.length a2) = a2n then
 (bytesOf a2).bind fun l2 =>
 cond (ByteArray.toList (ByteArray.mk (List.toArray l1)) == ByteArray.toList (ByteArray.mk (List.toArray l2)))
 (some (D.v (.bool (((a0c : Nat) : Int) == ((a0n : Nat) : Int)))))
 (some (D.v (.bool false)))
 else none
 else none)
 (some (D.v (.bool false)))
theorem F20_eq (m : Nat) (a0n : Nat) (a0c : Nat) (a0 : List D) (a1 : Int) (a2n : Nat) (a2c : Option Nat) (a2 : List D) (a3 : Int) : funD Tryd.prog H20 m 3 fh20_20 Tryd.f20 [(D.list a0n (some a0c) a0), (D.v (.int .i64 a1)), (D.list a2n a2c a2), (D.v (.int .i64 a3))] = F20 m a0n a0c a0 a1 a2n a2c a2 a3 := by kernel_rfl
theorem en20 : Enters Tryd.prog 20 := ⟨Tryd.f20, Tryd.func20, by kernel_rfl, by kernel_rfl⟩
theorem dt20 {ds : List D} {d : D} (h : funD Tryd.prog H20 M 3 fh20_20 Tryd.f20 ds = some d) : DataSem Tryd.prog 20 ds d := data_sound (H := H20) SpOk.nil mixed InlOk.nil Tryd.func20 en20 h
noncomputable def sp20 : List D → Option D
  | [.list a0n (some a0c) a0, .v (.int .i64 a1), .list a2n a2c a2, .v (.int .i64 a3)] => F20 M a0n a0c a0 a1 a2n a2c a2 a3
  | _ => none
theorem ds20 : ∀ ds d, sp20 ds = some d → DataSem Tryd.prog 20 ds d := by
  intro ds d h
  unfold sp20 at h
  split at h
  · exact dt20 ((F20_eq M _ _ _ _ _ _ _ _).trans h)
  · cases h

-- ('str', '"vidimus/vidimuslaw05.integer"')
def fh21_21 : FnH := ⟨[], []⟩
noncomputable def H21 : Hints := ⟨[(73, sp73)], []⟩
noncomputable def F21 (m : Nat) (a0n : Nat) (a0c : Option Nat) (a0 : List D) (a1 : Int) (a2 : Int) : Option D :=
 (sp73 [(D.list a0n a0c a0)]).bind fun d1 =>
 (rdT d1).bind fun r2 =>
 if List.length r2 = 2 then
 (rdI .i64 r2[0]?).bind fun x3 =>
 (rdI .i64 r2[1]?).bind fun x4 =>
 cond (x3 == a1)
 (some (D.v (.bool (x4 == a2))))
 (some (D.v (.bool false)))
 else none
theorem F21_eq (m : Nat) (a0n : Nat) (a0c : Option Nat) (a0 : List D) (a1 : Int) (a2 : Int) : funD Tryd.prog H21 m 3 fh21_21 Tryd.f21 [(D.list a0n a0c a0), (D.v (.int .i64 a1)), (D.v (.int .i64 a2))] = F21 m a0n a0c a0 a1 a2 := by kernel_rfl
theorem en21 : Enters Tryd.prog 21 := ⟨Tryd.f21, Tryd.func21, by kernel_rfl, by kernel_rfl⟩
theorem dt21 {ds : List D} {d : D} (h : funD Tryd.prog H21 M 3 fh21_21 Tryd.f21 ds = some d) : DataSem Tryd.prog 21 ds d := data_sound (H := H21) (SpOk.cons ds73 SpOk.nil) mixed InlOk.nil Tryd.func21 en21 h
noncomputable def sp21 : List D → Option D
  | [.list a0n a0c a0, .v (.int .i64 a1), .v (.int .i64 a2)] => F21 M a0n a0c a0 a1 a2
  | _ => none
theorem ds21 : ∀ ds d, sp21 ds = some d → DataSem Tryd.prog 21 ds d := by
  intro ds d h
  unfold sp21 at h
  split at h
  · exact dt21 ((F21_eq M _ _ _ _ _).trans h)
  · cases h

-- ('str', '"vidimus/vidimuslaw05.is"')
def fh22_22 : FnH := ⟨[], []⟩
noncomputable def H22 : Hints := ⟨[(20, sp20)], []⟩
noncomputable def F22 (m : Nat) (a0_0 : Int) (a0_1 : Bool) (a0_2 : Int) (a0_3n : Nat) (a0_3c : Option Nat) (a0_3 : List D) (a0_4n : Nat) (a0_4c : Option Nat) (a0_4 : List D) (a1 : Int) (a2n : Nat) (a2c : Option Nat) (a2 : List D) : Option D :=
 (cellsEq [.int, .bool, .int] [(D.v (.int .u8 a0_0)), (D.v (.bool a0_1)), (D.v (.int .u32 a0_2))] [(D.v (.int .u8 (0 : Int))), (D.v (.bool false)), (D.v (.int .u32 a1))]).bind fun b1 =>
 cond b1
 (cond (((a0_4n : Nat) : Int) == (0 : Int))
 ((sp20 [(D.list a0_3n a0_3c a0_3), (D.v (.int .i64 (0 : Int))), (D.list a2n a2c a2), (D.v (.int .i64 (0 : Int)))]).bind fun d2 =>
 (rdB (some d2)).bind fun b3 =>
 some (D.v (.bool b3)))
 (some (D.v (.bool false))))
 (some (D.v (.bool false)))
theorem F22_eq (m : Nat) (a0_0 : Int) (a0_1 : Bool) (a0_2 : Int) (a0_3n : Nat) (a0_3c : Option Nat) (a0_3 : List D) (a0_4n : Nat) (a0_4c : Option Nat) (a0_4 : List D) (a1 : Int) (a2n : Nat) (a2c : Option Nat) (a2 : List D) : funD Tryd.prog H22 m 3 fh22_22 Tryd.f22 [(D.agg [(D.v (.int .u8 a0_0)), (D.v (.bool a0_1)), (D.v (.int .u32 a0_2)), (D.list a0_3n a0_3c a0_3), (D.list a0_4n a0_4c a0_4)]), (D.v (.int .u32 a1)), (D.list a2n a2c a2)] = F22 m a0_0 a0_1 a0_2 a0_3n a0_3c a0_3 a0_4n a0_4c a0_4 a1 a2n a2c a2 := by kernel_rfl
theorem en22 : Enters Tryd.prog 22 := ⟨Tryd.f22, Tryd.func22, by kernel_rfl, by kernel_rfl⟩
theorem dt22 {ds : List D} {d : D} (h : funD Tryd.prog H22 M 3 fh22_22 Tryd.f22 ds = some d) : DataSem Tryd.prog 22 ds d := data_sound (H := H22) (SpOk.cons ds20 SpOk.nil) mixed InlOk.nil Tryd.func22 en22 h
noncomputable def sp22 : List D → Option D
  | [.agg [.v (.int .u8 a0_0), .v (.bool a0_1), .v (.int .u32 a0_2), .list a0_3n a0_3c a0_3, .list a0_4n a0_4c a0_4], .v (.int .u32 a1), .list a2n a2c a2] => F22 M a0_0 a0_1 a0_2 a0_3n a0_3c a0_3 a0_4n a0_4c a0_4 a1 a2n a2c a2
  | _ => none
theorem ds22 : ∀ ds d, sp22 ds = some d → DataSem Tryd.prog 22 ds d := by
  intro ds d h
  unfold sp22 at h
  split at h
  · exact dt22 ((F22_eq M _ _ _ _ _ _ _ _ _ _ _ _ _).trans h)
  · cases h

-- ('str', '"vidimus/scalars.element"')
def fh74_74 : FnH := ⟨[], []⟩
noncomputable def H74 : Hints := ⟨[], []⟩
noncomputable def F74 (m : Nat) (a0 : Int) (a1n : Nat) (a1c : Option Nat) (a1 : List D) : Option D :=
 some (D.agg [(D.v (.int .u8 (0 : Int))), (D.v (.bool false)), (D.v (.int .u32 a0)), (D.list a1n a1c a1), (D.list 0 (some 0) [])])
theorem F74_eq (m : Nat) (a0 : Int) (a1n : Nat) (a1c : Option Nat) (a1 : List D) : funD Tryd.prog H74 m 3 fh74_74 Tryd.f74 [(D.v (.int .u32 a0)), (D.list a1n a1c a1)] = F74 m a0 a1n a1c a1 := by kernel_rfl
theorem en74 : Enters Tryd.prog 74 := ⟨Tryd.f74, Tryd.func74, by kernel_rfl, by kernel_rfl⟩
theorem dt74 {ds : List D} {d : D} (h : funD Tryd.prog H74 M 3 fh74_74 Tryd.f74 ds = some d) : DataSem Tryd.prog 74 ds d := data_sound (H := H74) SpOk.nil mixed InlOk.nil Tryd.func74 en74 h
noncomputable def sp74 : List D → Option D
  | [.v (.int .u32 a0), .list a1n a1c a1] => F74 M a0 a1n a1c a1
  | _ => none
theorem ds74 : ∀ ds d, sp74 ds = some d → DataSem Tryd.prog 74 ds d := by
  intro ds d h
  unfold sp74 at h
  split at h
  · exact dt74 ((F74_eq M _ _ _ _).trans h)
  · cases h

-- ('str', '"vidimus/scalars.Int"')
def fh23_23 : FnH := ⟨[], []⟩
noncomputable def H23 : Hints := ⟨[(18, sp18), (74, sp74)], []⟩
noncomputable def F23 (m : Nat) (a0 : Int) : Option D :=
 (sp18 [(D.v (.int .i64 a0))]).bind fun d1 =>
 (rdL (some d1)).bind fun q2 =>
 (sp74 [(D.v (.int .u32 (2 : Int))), (D.list q2.n q2.cap q2.cs)]).bind fun d3 =>
 (rdA (some d3)).bind fun c4 =>
 if (List.length c4) = 5 then
 some (D.agg c4)
 else none
theorem F23_eq (m : Nat) (a0 : Int) : funD Tryd.prog H23 m 3 fh23_23 Tryd.f23 [(D.v (.int .i64 a0))] = F23 m a0 := by kernel_rfl
theorem en23 : Enters Tryd.prog 23 := ⟨Tryd.f23, Tryd.func23, by kernel_rfl, by kernel_rfl⟩
theorem dt23 {ds : List D} {d : D} (h : funD Tryd.prog H23 M 3 fh23_23 Tryd.f23 ds = some d) : DataSem Tryd.prog 23 ds d := data_sound (H := H23) (SpOk.cons ds18 (SpOk.cons ds74 SpOk.nil)) mixed InlOk.nil Tryd.func23 en23 h
noncomputable def sp23 : List D → Option D
  | [.v (.int .i64 a0)] => F23 M a0
  | _ => none
theorem ds23 : ∀ ds d, sp23 ds = some d → DataSem Tryd.prog 23 ds d := by
  intro ds d h
  unfold sp23 at h
  split at h
  · exact dt23 ((F23_eq M _).trans h)
  · cases h

-- ('str', '"vidimus/scalars.Enumerated"')
def fh24_24 : FnH := ⟨[], []⟩
noncomputable def H24 : Hints := ⟨[(18, sp18), (74, sp74)], []⟩
noncomputable def F24 (m : Nat) (a0 : Int) : Option D :=
 (sp18 [(D.v (.int .i64 a0))]).bind fun d1 =>
 (rdL (some d1)).bind fun q2 =>
 (sp74 [(D.v (.int .u32 (10 : Int))), (D.list q2.n q2.cap q2.cs)]).bind fun d3 =>
 (rdA (some d3)).bind fun c4 =>
 if (List.length c4) = 5 then
 some (D.agg c4)
 else none
theorem F24_eq (m : Nat) (a0 : Int) : funD Tryd.prog H24 m 3 fh24_24 Tryd.f24 [(D.v (.int .i64 a0))] = F24 m a0 := by kernel_rfl
theorem en24 : Enters Tryd.prog 24 := ⟨Tryd.f24, Tryd.func24, by kernel_rfl, by kernel_rfl⟩
theorem dt24 {ds : List D} {d : D} (h : funD Tryd.prog H24 M 3 fh24_24 Tryd.f24 ds = some d) : DataSem Tryd.prog 24 ds d := data_sound (H := H24) (SpOk.cons ds18 (SpOk.cons ds74 SpOk.nil)) mixed InlOk.nil Tryd.func24 en24 h
noncomputable def sp24 : List D → Option D
  | [.v (.int .i64 a0)] => F24 M a0
  | _ => none
theorem ds24 : ∀ ds d, sp24 ds = some d → DataSem Tryd.prog 24 ds d := by
  intro ds d h
  unfold sp24 at h
  split at h
  · exact dt24 ((F24_eq M _).trans h)
  · cases h

-- ('str', '"vidimus/scalars.OfInt"')
def fh25_25 : FnH := ⟨[], []⟩
def fh25_75 : FnH := ⟨[], []⟩
noncomputable def H25 : Hints := ⟨[(73, sp73)], [(75, Tryd.f75, fh25_75)]⟩
noncomputable def F25 (m : Nat) (a0_0 : Int) (a0_1 : Bool) (a0_2 : Int) (a0_3n : Nat) (a0_3c : Option Nat) (a0_3 : List D) (a0_4n : Nat) (a0_4c : Option Nat) (a0_4 : List D) : Option D :=
 (cellsEq [.int, .bool, .int] [(D.v (.int .u8 a0_0)), (D.v (.bool a0_1)), (D.v (.int .u32 a0_2))] [(D.v (.int .u8 (0 : Int))), (D.v (.bool false)), (D.v (.int .u32 (2 : Int)))]).bind fun b1 =>
 cond (!b1)
 (some (D.tup [(D.v (.int .i64 (0 : Int))), (D.v (.int .i64 (9 : Int)))]))
 (cond (decide (((a0_4n : Nat) : Int) > (0 : Int)))
 (some (D.tup [(D.v (.int .i64 (0 : Int))), (D.v (.int .i64 (1 : Int)))]))
 ((sp73 [(D.list a0_3n a0_3c a0_3)]).bind fun d2 =>
 (rdT d2).bind fun r3 =>
 if List.length r3 = 2 then
 (rdI .i64 r3[0]?).bind fun x4 =>
 (rdI .i64 r3[1]?).bind fun x5 =>
 some (D.tup [(D.v (.int .i64 x4)), (D.v (.int .i64 x5))])
 else none))
theorem F25_eq (m : Nat) (a0_0 : Int) (a0_1 : Bool) (a0_2 : Int) (a0_3n : Nat) (a0_3c : Option Nat) (a0_3 : List D) (a0_4n : Nat) (a0_4c : Option Nat) (a0_4 : List D) : funD Tryd.prog H25 m 3 fh25_25 Tryd.f25 [(D.agg [(D.v (.int .u8 a0_0)), (D.v (.bool a0_1)), (D.v (.int .u32 a0_2)), (D.list a0_3n a0_3c a0_3), (D.list a0_4n a0_4c a0_4)])] = F25 m a0_0 a0_1 a0_2 a0_3n a0_3c a0_3 a0_4n a0_4c a0_4 := by kernel_rfl
theorem en25 : Enters Tryd.prog 25 := ⟨Tryd.f25, Tryd.func25, by kernel_rfl, by kernel_rfl⟩
theorem dt25 {ds : List D} {d : D} (h : funD Tryd.prog H25 M 3 fh25_25 Tryd.f25 ds = some d) : DataSem Tryd.prog 25 ds d := data_sound (H := H25) (SpOk.cons ds73 SpOk.nil) mixed (InlOk.cons Tryd.func75 en75 InlOk.nil) Tryd.func25 en25 h
noncomputable def sp25 : List D → Option D
  | [.agg [.v (.int .u8 a0_0), .v (.bool a0_1), .v (.int .u32 a0_2), .list a0_3n a0_3c a0_3, .list a0_4n a0_4c a0_4]] => F25 M a0_0 a0_1 a0_2 a0_3n a0_3c a0_3 a0_4n a0_4c a0_4
  | _ => none
theorem ds25 : ∀ ds d, sp25 ds = some d → DataSem Tryd.prog 25 ds d := by
  intro ds d h
  unfold sp25 at h
  split at h
  · exact dt25 ((F25_eq M _ _ _ _ _ _ _ _ _).trans h)
  · cases h

-- ('str', '"vidimus/scalars.OfEnumerated"')
def fh26_26 : FnH := ⟨[], []⟩
def fh26_75 : FnH := ⟨[], []⟩
noncomputable def H26 : Hints := ⟨[(73, sp73)], [(75, Tryd.f75, fh26_75)]⟩
noncomputable def F26 (m : Nat) (a0_0 : Int) (a0_1 : Bool) (a0_2 : Int) (a0_3n : Nat) (a0_3c : Option Nat) (a0_3 : List D) (a0_4n : Nat) (a0_4c : Option Nat) (a0_4 : List D) : Option D :=
 (cellsEq [.int, .bool, .int] [(D.v (.int .u8 a0_0)), (D.v (.bool a0_1)), (D.v (.int .u32 a0_2))] [(D.v (.int .u8 (0 : Int))), (D.v (.bool false)), (D.v (.int .u32 (10 : Int)))]).bind fun b1 =>
 cond (!b1)
 (some (D.tup [(D.v (.int .i64 (0 : Int))), (D.v (.int .i64 (9 : Int)))]))
 (cond (decide (((a0_4n : Nat) : Int) > (0 : Int)))
 (some (D.tup [(D.v (.int .i64 (0 : Int))), (D.v (.int .i64 (1 : Int)))]))
 ((sp73 [(D.list a0_3n a0_3c a0_3)]).bind fun d2 =>
 (rdT d2).bind fun r3 =>
 if List.length r3 = 2 then
 (rdI .i64 r3[0]?).bind fun x4 =>
 (rdI .i64 r3[1]?).bind fun x5 =>
 some (D.tup [(D.v (.int .i64 x4)), (D.v (.int .i64 x5))])
 else none))
theorem F26_eq (m : Nat) (a0_0 : Int) (a0_1 : Bool) (a0_2 : Int) (a0_3n : Nat) (a0_3c : Option Nat) (a0_3 : List D) (a0_4n : Nat) (a0_4c : Option Nat) (a0_4 : List D) : funD Tryd.prog H26 m 3 fh26_26 Tryd.f26 [(D.agg [(D.v (.int .u8 a0_0)), (D.v (.bool a0_1)), (D.v (.int .u32 a0_2)), (D.list a0_3n a0_3c a0_3), (D.list a0_4n a0_4c a0_4)])] = F26 m a0_0 a0_1 a0_2 a0_3n a0_3c a0_3 a0_4n a0_4c a0_4 := by kernel_rfl
theorem en26 : Enters Tryd.prog 26 := ⟨Tryd.f26, Tryd.func26, by kernel_rfl, by kernel_rfl⟩
theorem dt26 {ds : List D} {d : D} (h : funD Tryd.prog H26 M 3 fh26_26 Tryd.f26 ds = some d) : DataSem Tryd.prog 26 ds d := data_sound (H := H26) (SpOk.cons ds73 SpOk.nil) mixed (InlOk.cons Tryd.func75 en75 InlOk.nil) Tryd.func26 en26 h
noncomputable def sp26 : List D → Option D
  | [.agg [.v (.int .u8 a0_0), .v (.bool a0_1), .v (.int .u32 a0_2), .list a0_3n a0_3c a0_3, .list a0_4n a0_4c a0_4]] => F26 M a0_0 a0_1 a0_2 a0_3n a0_3c a0_3 a0_4n a0_4c a0_4
  | _ => none
theorem ds26 : ∀ ds d, sp26 ds = some d → DataSem Tryd.prog 26 ds d := by
  intro ds d h
  unfold sp26 at h
  split at h
  · exact dt26 ((F26_eq M _ _ _ _ _ _ _ _ _).trans h)
  · cases h

-- ('str', '"vidimus/scalars.GetBool"')
def fh28_28 : FnH := ⟨[], [(3, ⟨[true, false, false, false, false, false, false, false, false, false, false, false, false, false, false, false, false, false, false, false, false, false, false], [], none⟩)]⟩
noncomputable def H28 : Hints := ⟨[], []⟩
noncomputable def F28_28_j3 (m : Nat) (u0_0 : Nat) (u0_1 : Option Nat) (u0_2 : List D) : Option D :=
 cutK (codeK Tryd.prog H28.sp 0 (inlK Tryd.prog H28 m 3) m fh28_28 (subc [1, 1] (bodyOf Tryd.f28)) ⟨[(AV.d (D.list u0_0 u0_1 u0_2)), .junk, .junk, .junk, .junk, .junk, .junk, .junk, .junk, .junk, .junk, .junk, .junk, .junk, .junk, .junk, .junk, .junk, .junk, .junk, .junk, .junk, .junk], []⟩
  (contK Tryd.prog H28.sp 0 (inlK Tryd.prog H28 m 3) m fh28_28 (endK Tryd.prog Tryd.f28 (fun v L => viewK L 8 v some)) []))
theorem F28_28_j3_e (m : Nat) (u0_0 : Nat) (u0_1 : Option Nat) (u0_2 : List D) : F28_28_j3 m u0_0 u0_1 u0_2 =
 (if 0 ≤ (0 : Int) ∧ (0 : Int) < ((u0_0 : Nat) : Int) then
 (rdI .u8 u0_2[0]?).bind fun x3 =>
 some (D.tup [(D.v (.bool (x3 == (255 : Int)))), (D.v (.int .i64 (0 : Int)))])
 else none) := by kernel_rfl
noncomputable def F28 (m : Nat) (a0n : Nat) (a0c : Option Nat) (a0 : List D) : Option D :=
 cond (((a0n : Nat) : Int) != (1 : Int))
 (some (D.tup [(D.v (.bool false)), (D.v (.int .i64 (11 : Int)))]))
 (if 0 ≤ (0 : Int) ∧ (0 : Int) < ((a0n : Nat) : Int) then
 (rdI .u8 a0[0]?).bind fun x1 =>
 cond (x1 != (0 : Int))
 (if 0 ≤ (0 : Int) ∧ (0 : Int) < ((a0n : Nat) : Int) then
 (rdI .u8 a0[0]?).bind fun x2 =>
 cond (x2 != (255 : Int))
 (some (D.tup [(D.v (.bool false)), (D.v (.int .i64 (11 : Int)))]))
 (F28_28_j3 m a0n a0c a0)
 else none)
 (F28_28_j3 m a0n a0c a0)
 else none)
theorem F28_eq (m : Nat) (a0n : Nat) (a0c : Option Nat) (a0 : List D) : funD Tryd.prog H28 m 3 fh28_28 Tryd.f28 [(D.list a0n a0c a0)] = F28 m a0n a0c a0 := by kernel_rfl
theorem en28 : Enters Tryd.prog 28 := ⟨Tryd.f28, Tryd.func28, by kernel_rfl, by kernel_rfl⟩
theorem dt28 {ds : List D} {d : D} (h : funD Tryd.prog H28 M 3 fh28_28 Tryd.f28 ds = some d) : DataSem Tryd.prog 28 ds d := data_sound (H := H28) SpOk.nil mixed InlOk.nil Tryd.func28 en28 h
noncomputable def sp28 : List D → Option D
  | [.list a0n a0c a0] => F28 M a0n a0c a0
  | _ => none
theorem ds28 : ∀ ds d, sp28 ds = some d → DataSem Tryd.prog 28 ds d := by
  intro ds d h
  unfold sp28 at h
  split at h
  · exact dt28 ((F28_eq M _ _ _).trans h)
  · cases h

-- ('str', '"vidimus/vidimusref05.GetBool"')
def fh29_29 : FnH := ⟨[], []⟩
noncomputable def H29 : Hints := ⟨[], []⟩
noncomputable def F29 (m : Nat) (a0n : Nat) (a0c : Option Nat) (a0 : List D) : Option D :=
 if (List.length a0) = a0n then
 (bytesOf a0).bind fun l1 =>
 cond (ByteArray.toList (ByteArray.mk (List.toArray l1)) == ByteArray.toList (ByteArray.mk #[0]))
 (some (D.tup [(D.v (.bool false)), (D.v (.int .i64 (0 : Int)))]))
 (if (List.length a0) = a0n then
 (bytesOf a0).bind fun l2 =>
 cond (ByteArray.toList (ByteArray.mk (List.toArray l2)) == ByteArray.toList (ByteArray.mk #[255]))
 (some (D.tup [(D.v (.bool true)), (D.v (.int .i64 (0 : Int)))]))
 (some (D.tup [(D.v (.bool false)), (D.v (.int .i64 (11 : Int)))]))
 else none)
 else none
theorem F29_eq (m : Nat) (a0n : Nat) (a0c : Option Nat) (a0 : List D) : funD Tryd.prog H29 m 3 fh29_29 Tryd.f29 [(D.list a0n a0c a0)] = F29 m a0n a0c a0 := by kernel_rfl
theorem en29 : Enters Tryd.prog 29 := ⟨Tryd.f29, Tryd.func29, by kernel_rfl, by kernel_rfl⟩
theorem dt29 {ds : List D} {d : D} (h : funD Tryd.prog H29 M 3 fh29_29 Tryd.f29 ds = some d) : DataSem Tryd.prog 29 ds d := data_sound (H := H29) SpOk.nil mixed InlOk.nil Tryd.func29 en29 h
noncomputable def sp29 : List D → Option D
  | [.list a0n a0c a0] => F29 M a0n a0c a0
  | _ => none
theorem ds29 : ∀ ds d, sp29 ds = some d → DataSem Tryd.prog 29 ds d := by
  intro ds d h
  unfold sp29 at h
  split at h
  · exact dt29 ((F29_eq M _ _ _).trans h)
  · cases h

-- ('str', '"vidimus/scalars.PutBool"')
def fh30_30 : FnH := ⟨[], []⟩
noncomputable def H30 : Hints := ⟨[], []⟩
noncomputable def F30 (m : Nat) (a0 : Bool) : Option D :=
 cond a0
 (some (D.list 1 (some 1) [(D.v (.int .u8 (255 : Int)))]))
 (some (D.list 1 (some 1) [(D.v (.int .u8 (0 : Int)))]))
theorem F30_eq (m : Nat) (a0 : Bool) : funD Tryd.prog H30 m 3 fh30_30 Tryd.f30 [(D.v (.bool a0))] = F30 m a0 := by kernel_rfl
theorem en30 : Enters Tryd.prog 30 := ⟨Tryd.f30, Tryd.func30, by kernel_rfl, by kernel_rfl⟩
theorem dt30 {ds : List D} {d : D} (h : funD Tryd.prog H30 M 3 fh30_30 Tryd.f30 ds = some d) : DataSem Tryd.prog 30 ds d := data_sound (H := H30) SpOk.nil mixed InlOk.nil Tryd.func30 en30 h
noncomputable def sp30 : List D → Option D
  | [.v (.bool a0)] => F30 M a0
  | _ => none
theorem ds30 : ∀ ds d, sp30 ds = some d → DataSem Tryd.prog 30 ds d := by
  intro ds d h
  unfold sp30 at h
  split at h
  · exact dt30 ((F30_eq M _).trans h)
  · cases h

-- ('str', '"vidimus/vidimusref05.GetInt"')
def fh31_31 : FnH := ⟨[(9, ⟨[true, false, false, false, true, true, false, false, false, false, false, false, false, false, false, false, false, false, false, false, false, false, false, false, false, false, false, false, false, false, false, false, false, false, false, false, false, false, false, false, false, false, false, false, false, false, false, false, false, false, false, false, false, false, false, false, false, false, false, false, false, false, false, false], [], none⟩)], [(3, ⟨[true, false, false, false, false, false, false, false, false, false, false, false, false, false, false, false, false, false, false, false, false, false, false, false, false, false, false, false, false, false, false, false, false, false, false, false, false, false, false, false, false, false, false, false, false, false, false, false, false, false, false, false, false, false, false, false, false, false, false, false, false, false, false, false], [], none⟩), (8, ⟨[true, false, false, false, true, false, false, false, false, false, false, false, false, false, false, false, false, false, false, false, false, false, false, false, false, false, false, false, false, false, false, false, false, false, false, false, false, false, false, false, false, false, false, false, false, false, false, false, false, false, false, false, false, false, false, false, false, false, false, false, false, false, false, false], [], none⟩)]⟩
noncomputable def H31 : Hints := ⟨[], []⟩
noncomputable def F31_31_j3 (m : Nat) (u0_0 : Nat) (u0_1 : Option Nat) (u0_2 : List D) : Option D :=
 cutK (codeK Tryd.prog H31.sp 0 (inlK Tryd.prog H31 m 3) m fh31_31 (subc [1, 1] (bodyOf Tryd.f31)) ⟨[(AV.d (D.list u0_0 u0_1 u0_2)), .junk, .junk, .junk, .junk, .junk, .junk, .junk, .junk, .junk, .junk, .junk, .junk, .junk, .junk, .junk, .junk, .junk, .junk, .junk, .junk, .junk, .junk, .junk, .junk, .junk, .junk, .junk, .junk, .junk, .junk, .junk, .junk, .junk, .junk, .junk, .junk, .junk, .junk, .junk, .junk, .junk, .junk, .junk, .junk, .junk, .junk, .junk, .junk, .junk, .junk, .junk, .junk, .junk, .junk, .junk, .junk, .junk, .junk, .junk, .junk, .junk, .junk, .junk], []⟩
  (contK Tryd.prog H31.sp 0 (inlK Tryd.prog H31 m 3) m fh31_31 (endK Tryd.prog Tryd.f31 (fun v L => viewK L 8 v some)) []))
noncomputable def F31_31_j8 (m : Nat) (u1_0 : Nat) (u1_1 : Option Nat) (u1_2 : List D) (u1_3 : Int) : Option D :=
 cutK (codeK Tryd.prog H31.sp 0 (inlK Tryd.prog H31 m 3) m fh31_31 (subc [1, 1, 1, 1, 1] (bodyOf Tryd.f31)) ⟨[(AV.d (D.list u1_0 u1_1 u1_2)), .junk, .junk, .junk, (AV.d (D.v (.int .i64 u1_3))), .junk, .junk, .junk, .junk, .junk, .junk, .junk, .junk, .junk, .junk, .junk, .junk, .junk, .junk, .junk, .junk, .junk, .junk, .junk, .junk, .junk, .junk, .junk, .junk, .junk, .junk, .junk, .junk, .junk, .junk, .junk, .junk, .junk, .junk, .junk, .junk, .junk, .junk, .junk, .junk, .junk, .junk, .junk, .junk, .junk, .junk, .junk, .junk, .junk, .junk, .junk, .junk, .junk, .junk, .junk, .junk, .junk, .junk, .junk], []⟩
  (contK Tryd.prog H31.sp 0 (inlK Tryd.prog H31 m 3) m fh31_31 (endK Tryd.prog Tryd.f31 (fun v L => viewK L 8 v some)) []))
noncomputable def F31_31_9 (m n0 : Nat) (y0_0 : Nat) (y0_1 : Option Nat) (y0_2 : List D) (y0_3 : Int) (y0_4 : Int) : Option D :=
 loopIter [true, false, false, false, true, true, false, false, false, false, false, false, false, false, false, false, false, false, false, false, false, false, false, false, false, false, false, false, false, false, false, false, false, false, false, false, false, false, false, false, false, false, false, false, false, false, false, false, false, false, false, false, false, false, false, false, false, false, false, false, false, false, false, false] 0 0 (codeK Tryd.prog H31.sp 0 (inlK Tryd.prog H31 m 3) m fh31_31 (subc [1, 1, 1, 1, 1, 0, 1, 0, 0] (bodyOf Tryd.f31))) n0 ⟨[(AV.d (D.list y0_0 y0_1 y0_2)), .junk, .junk, .junk, (AV.d (D.v (.int .i64 y0_3))), (AV.d (D.v (.int .i64 y0_4))), .junk, .junk, .junk, .junk, .junk, .junk, .junk, .junk, .junk, .junk, .junk, .junk, .junk, .junk, .junk, .junk, .junk, .junk, .junk, .junk, .junk, .junk, .junk, .junk, .junk, .junk, .junk, .junk, .junk, .junk, .junk, .junk, .junk, .junk, .junk, .junk, .junk, .junk, .junk, .junk, .junk, .junk, .junk, .junk, .junk, .junk, .junk, .junk, .junk, .junk, .junk, .junk, .junk, .junk, .junk, .junk, .junk, .junk], []⟩
  (contK Tryd.prog H31.sp 0 (inlK Tryd.prog H31 m 3) m fh31_31 (endK Tryd.prog Tryd.f31 (fun v L => viewK L 8 v some)) [.block 0, .code (subc [1, 1, 1, 1, 1, 1] (bodyOf Tryd.f31))])
theorem F31_31_9_0 (m : Nat) (y0_0 : Nat) (y0_1 : Option Nat) (y0_2 : List D) (y0_3 : Int) (y0_4 : Int) : F31_31_9 m 0 y0_0 y0_1 y0_2 y0_3 y0_4 = none := rfl
theorem F31_31_9_s (m n0 : Nat) (y0_0 : Nat) (y0_1 : Option Nat) (y0_2 : List D) (y0_3 : Int) (y0_4 : Int) : F31_31_9 m (n0 + 1) y0_0 y0_1 y0_2 y0_3 y0_4 =
 (cond (decide (y0_4 < ((y0_0 : Nat) : Int)))
 (if 0 ≤ y0_4 ∧ y0_4 < ((y0_0 : Nat) : Int) then
 (rdI .u8 y0_2[((Int.toNat y0_4) * 1)]?).bind fun x8 =>
 F31_31_9 m n0 y0_0 y0_1 y0_2 (IntKind.wrap .i64 ((IntKind.wrap .i64 (y0_3 * (256 : Int))) + (IntKind.wrap .i64 x8))) (IntKind.wrap .i64 (y0_4 + (1 : Int)))
 else none)
 (some (D.tup [(D.v (.int .i64 y0_3)), (D.v (.int .i64 (0 : Int)))]))) := by kernel_rfl
theorem F31_31_j8_e (m : Nat) (u1_0 : Nat) (u1_1 : Option Nat) (u1_2 : List D) (u1_3 : Int) : F31_31_j8 m u1_0 u1_1 u1_2 u1_3 =
 (F31_31_9 m m u1_0 u1_1 u1_2 u1_3 (1 : Int)) := by kernel_rfl
theorem F31_31_j3_e (m : Nat) (u0_0 : Nat) (u0_1 : Option Nat) (u0_2 : List D) : F31_31_j3 m u0_0 u0_1 u0_2 =
 (cond (decide (((u0_0 : Nat) : Int) > (8 : Int)))
 (some (D.tup [(D.v (.int .i64 (0 : Int))), (D.v (.int .i64 (3 : Int)))]))
 (if 0 ≤ (0 : Int) ∧ (0 : Int) < ((u0_0 : Nat) : Int) then
 (rdI .u8 u0_2[0]?).bind fun x5 =>
 cond (decide ((IntKind.wrap .i64 x5) > (127 : Int)))
 (F31_31_j8 m u0_0 u0_1 u0_2 (IntKind.wrap .i64 ((IntKind.wrap .i64 x5) - (256 : Int))))
 (F31_31_j8 m u0_0 u0_1 u0_2 (IntKind.wrap .i64 x5))
 else none)) := by kernel_rfl
noncomputable def F31 (m : Nat) (a0n : Nat) (a0c : Option Nat) (a0 : List D) : Option D :=
 cond (((a0n : Nat) : Int) == (0 : Int))
 (some (D.tup [(D.v (.int .i64 (0 : Int))), (D.v (.int .i64 (11 : Int)))]))
 (cond (decide (((a0n : Nat) : Int) > (1 : Int)))
 (if 0 ≤ (0 : Int) ∧ (0 : Int) < ((a0n : Nat) : Int) then
 (rdI .u8 a0[0]?).bind fun x1 =>
 cond (x1 == (0 : Int))
 (if 0 ≤ (1 : Int) ∧ (1 : Int) < ((a0n : Nat) : Int) then
 (rdI .u8 a0[1]?).bind fun x2 =>
 cond (decide (x2 < (128 : Int)))
 (some (D.tup [(D.v (.int .i64 (0 : Int))), (D.v (.int .i64 (11 : Int)))]))
 (if 0 ≤ (0 : Int) ∧ (0 : Int) < ((a0n : Nat) : Int) then
 (rdI .u8 a0[0]?).bind fun x3 =>
 cond (x3 == (255 : Int))
 (if 0 ≤ (1 : Int) ∧ (1 : Int) < ((a0n : Nat) : Int) then
 (rdI .u8 a0[1]?).bind fun x4 =>
 cond (decide (x4 > (127 : Int)))
 (some (D.tup [(D.v (.int .i64 (0 : Int))), (D.v (.int .i64 (11 : Int)))]))
 (F31_31_j3 m a0n a0c a0)
 else none)
 (F31_31_j3 m a0n a0c a0)
 else none)
 else none)
 (if 0 ≤ (0 : Int) ∧ (0 : Int) < ((a0n : Nat) : Int) then
 (rdI .u8 a0[0]?).bind fun x9 =>
 cond (x9 == (255 : Int))
 (if 0 ≤ (1 : Int) ∧ (1 : Int) < ((a0n : Nat) : Int) then
 (rdI .u8 a0[1]?).bind fun x10 =>
 cond (decide (x10 > (127 : Int)))
 (some (D.tup [(D.v (.int .i64 (0 : Int))), (D.v (.int .i64 (11 : Int)))]))
 (F31_31_j3 m a0n a0c a0)
 else none)
 (F31_31_j3 m a0n a0c a0)
 else none)
 else none)
 (F31_31_j3 m a0n a0c a0))
theorem F31_eq (m : Nat) (a0n : Nat) (a0c : Option Nat) (a0 : List D) : funD Tryd.prog H31 m 3 fh31_31 Tryd.f31 [(D.list a0n a0c a0)] = F31 m a0n a0c a0 := by kernel_rfl
theorem en31 : Enters Tryd.prog 31 := ⟨Tryd.f31, Tryd.func31, by kernel_rfl, by kernel_rfl⟩
theorem dt31 {ds : List D} {d : D} (h : funD Tryd.prog H31 M 3 fh31_31 Tryd.f31 ds = some d) : DataSem Tryd.prog 31 ds d := data_sound (H := H31) SpOk.nil mixed InlOk.nil Tryd.func31 en31 h
noncomputable def sp31 : List D → Option D
  | [.list a0n a0c a0] => F31 M a0n a0c a0
  | _ => none
theorem ds31 : ∀ ds d, sp31 ds = some d → DataSem Tryd.prog 31 ds d := by
  intro ds d h
  unfold sp31 at h
  split at h
  · exact dt31 ((F31_eq M _ _ _).trans h)
  · cases h

-- ('str', '"vidimus/nats.Check"')
def fh68_68 : FnH := ⟨[], []⟩
noncomputable def H68 : Hints := ⟨[], []⟩
noncomputable def F68 (m : Nat) (a0n : Nat) (a0c : Option Nat) (a0 : List D) : Option D :=
 cond (decide (((a0n : Nat) : Int) > (64 : Int)))
 (some (D.v (.int .i64 (3 : Int))))
 (cond (decide (((a0n : Nat) : Int) > (0 : Int)))
 (if 0 ≤ (0 : Int) ∧ (0 : Int) < ((a0n : Nat) : Int) then
 (rdI .u8 a0[0]?).bind fun x1 =>
 cond (x1 == (0 : Int))
 (some (D.v (.int .i64 (11 : Int))))
 (some (D.v (.int .i64 (0 : Int))))
 else none)
 (some (D.v (.int .i64 (0 : Int)))))
theorem F68_eq (m : Nat) (a0n : Nat) (a0c : Option Nat) (a0 : List D) : funD Tryd.prog H68 m 3 fh68_68 Tryd.f68 [(D.list a0n a0c a0)] = F68 m a0n a0c a0 := by kernel_rfl
theorem en68 : Enters Tryd.prog 68 := ⟨Tryd.f68, Tryd.func68, by kernel_rfl, by kernel_rfl⟩
theorem dt68 {ds : List D} {d : D} (h : funD Tryd.prog H68 M 3 fh68_68 Tryd.f68 ds = some d) : DataSem Tryd.prog 68 ds d := data_sound (H := H68) SpOk.nil mixed InlOk.nil Tryd.func68 en68 h
noncomputable def sp68 : List D → Option D
  | [.list a0n a0c a0] => F68 M a0n a0c a0
  | _ => none
theorem ds68 : ∀ ds d, sp68 ds = some d → DataSem Tryd.prog 68 ds d := by
  intro ds d h
  unfold sp68 at h
  split at h
  · exact dt68 ((F68_eq M _ _ _).trans h)
  · cases h

-- ('str', '"bytes.trimLeftByte"')
def fh95_95 : FnH := ⟨[(1, ⟨[true, true, false, false, false, false, false, false, false, false, false, false, false, false, false, false, false, false, false, false, false], [], none⟩)], [(2, ⟨[true, true, false, false, false, false, false, false, false, false, false, false, false, false, false, false, false, false, false, false, false], [], none⟩), (3, ⟨[true, false, false, false, false, false, false, false, false, false, false, false, false, false, false, false, false, false, false, false, false], [], none⟩)]⟩
noncomputable def H95 : Hints := ⟨[], []⟩
noncomputable def F95_95_1 (m n0 : Nat) (y0_0 : Nat) (y0_1 : Option Nat) (y0_2 : List D) (y0_3 : Int) : Option D :=
 loopIter [true, true, false, false, false, false, false, false, false, false, false, false, false, false, false, false, false, false, false, false, false] 0 0 (codeK Tryd.prog H95.sp 0 (inlK Tryd.prog H95 m 3) m fh95_95 (subc [1, 0, 0, 0] (bodyOf Tryd.f95))) n0 ⟨[(AV.d (D.list y0_0 y0_1 y0_2)), (AV.d (D.v (.int .u8 y0_3))), .junk, .junk, .junk, .junk, .junk, .junk, .junk, .junk, .junk, .junk, .junk, .junk, .junk, .junk, .junk, .junk, .junk, .junk, .junk], []⟩
  (contK Tryd.prog H95.sp 0 (inlK Tryd.prog H95 m 3) m fh95_95 (endK Tryd.prog Tryd.f95 (fun v L => viewK L 8 v some)) [.block 0, .code (subc [1, 1] (bodyOf Tryd.f95))])
noncomputable def F95_95_j2 (m n0 : Nat) (u0_0 : Nat) (u0_1 : Option Nat) (u0_2 : List D) (u0_3 : Int) : Option D :=
 cutK (codeK Tryd.prog H95.sp 0 (inlK Tryd.prog H95 m 3) m fh95_95 (subc [1, 0, 0, 0, 1] (bodyOf Tryd.f95)) ⟨[(AV.d (D.list u0_0 u0_1 u0_2)), (AV.d (D.v (.int .u8 u0_3))), .junk, .junk, .junk, .junk, .junk, .junk, .junk, .junk, .junk, .junk, .junk, .junk, .junk, .junk, .junk, .junk, .junk, .junk, .junk], []⟩
  (contK Tryd.prog H95.sp 0 (inlK Tryd.prog H95 m 3) m fh95_95 (endK Tryd.prog Tryd.f95 (fun v L => viewK L 8 v some)) [.loop [true, true, false, false, false, false, false, false, false, false, false, false, false, false, false, false, false, false, false, false, false] 0 (subc [1, 0, 0, 0] (bodyOf Tryd.f95)) n0, .block 0, .code (subc [1, 1] (bodyOf Tryd.f95))]))
theorem F95_95_j2_e (m n0 : Nat) (u0_0 : Nat) (u0_1 : Option Nat) (u0_2 : List D) (u0_3 : Int) : F95_95_j2 m n0 u0_0 u0_1 u0_2 u0_3 =
 (if 0 ≤ (1 : Int) ∧ (1 : Int) ≤ ((u0_0 : Nat) : Int) then
 F95_95_1 m n0 (u0_0 - 1) (Option.map (fun q => q - 1) u0_1) ((List.drop 1 u0_2).take ((u0_0 - 1) * 1)) u0_3
 else none) := by kernel_rfl
noncomputable def F95_95_j3 (m : Nat) (u1_0 : Nat) (u1_1 : Option Nat) (u1_2 : List D) : Option D :=
 cutK (codeK Tryd.prog H95.sp 0 (inlK Tryd.prog H95 m 3) m fh95_95 (subc [1, 1] (bodyOf Tryd.f95)) ⟨[(AV.d (D.list u1_0 u1_1 u1_2)), .junk, .junk, .junk, .junk, .junk, .junk, .junk, .junk, .junk, .junk, .junk, .junk, .junk, .junk, .junk, .junk, .junk, .junk, .junk, .junk], []⟩
  (contK Tryd.prog H95.sp 0 (inlK Tryd.prog H95 m 3) m fh95_95 (endK Tryd.prog Tryd.f95 (fun v L => viewK L 8 v some)) []))
theorem F95_95_j3_e (m : Nat) (u1_0 : Nat) (u1_1 : Option Nat) (u1_2 : List D) : F95_95_j3 m u1_0 u1_1 u1_2 =
 (cond (((u1_0 : Nat) : Int) == (0 : Int))
 (some (D.list 0 (some 0) []))
 (some (D.list u1_0 u1_1 u1_2))) := by kernel_rfl
theorem F95_95_1_0 (m : Nat) (y0_0 : Nat) (y0_1 : Option Nat) (y0_2 : List D) (y0_3 : Int) : F95_95_1 m 0 y0_0 y0_1 y0_2 y0_3 = none := rfl
theorem F95_95_1_s (m n0 : Nat) (y0_0 : Nat) (y0_1 : Option Nat) (y0_2 : List D) (y0_3 : Int) : F95_95_1 m (n0 + 1) y0_0 y0_1 y0_2 y0_3 =
 (cond (decide (((y0_0 : Nat) : Int) > (0 : Int)))
 (if 0 ≤ (0 : Int) ∧ (0 : Int) < ((y0_0 : Nat) : Int) then
 (rdI .u8 y0_2[0]?).bind fun x2 =>
 cond (x2 == y0_3)
 (F95_95_j2 m n0 y0_0 y0_1 y0_2 y0_3)
 (F95_95_j3 m y0_0 y0_1 y0_2)
 else none)
 (F95_95_j3 m y0_0 y0_1 y0_2)) := by kernel_rfl
noncomputable def F95 (m : Nat) (a0n : Nat) (a0c : Option Nat) (a0 : List D) (a1 : Int) : Option D :=
 F95_95_1 m m a0n a0c a0 a1
theorem F95_eq (m : Nat) (a0n : Nat) (a0c : Option Nat) (a0 : List D) (a1 : Int) : funD Tryd.prog H95 m 3 fh95_95 Tryd.f95 [(D.list a0n a0c a0), (D.v (.int .u8 a1))] = F95 m a0n a0c a0 a1 := by kernel_rfl
theorem en95 : Enters Tryd.prog 95 := ⟨Tryd.f95, Tryd.func95, by kernel_rfl, by kernel_rfl⟩
theorem dt95 {ds : List D} {d : D} (h : funD Tryd.prog H95 M 3 fh95_95 Tryd.f95 ds = some d) : DataSem Tryd.prog 95 ds d := data_sound (H := H95) SpOk.nil mixed InlOk.nil Tryd.func95 en95 h
noncomputable def sp95 : List D → Option D
  | [.list a0n a0c a0, .v (.int .u8 a1)] => F95 M a0n a0c a0 a1
  | _ => none
theorem ds95 : ∀ ds d, sp95 ds = some d → DataSem Tryd.prog 95 ds d := by
  intro ds d h
  unfold sp95 at h
  split at h
  · exact dt95 ((F95_eq M _ _ _ _).trans h)
  · cases h

-- ('str', '"vidimus/scalars.GetNat"')
def fh77_77 : FnH := ⟨[], [(3, ⟨[true, false, false, false, false, false, false, false, false, false, false, false, false, false, false, false, false, false, false, false, false, false, false, false, false, false], [], none⟩)]⟩
def fh77_72 : FnH := ⟨[], []⟩
def fh77_91 : FnH := ⟨[], []⟩
noncomputable def H77 : Hints := ⟨[(71, sp71), (90, sp90), (95, sp95)], [(72, Tryd.f72, fh77_72), (91, Tryd.f91, fh77_91)]⟩
noncomputable def F77_77_j3 (m : Nat) (u0_0 : Nat) (u0_1 : Option Nat) (u0_2 : List D) : Option D :=
 cutK (codeK Tryd.prog H77.sp 0 (inlK Tryd.prog H77 m 3) m fh77_77 (subc [1, 1] (bodyOf Tryd.f77)) ⟨[(AV.d (D.list u0_0 u0_1 u0_2)), .junk, .junk, .junk, .junk, .junk, .junk, .junk, .junk, .junk, .junk, .junk, .junk, .junk, .junk, .junk, .junk, .junk, .junk, .junk, .junk, .junk, .junk, .junk, .junk, .junk], []⟩
  (contK Tryd.prog H77.sp 0 (inlK Tryd.prog H77 m 3) m fh77_77 (endK Tryd.prog Tryd.f77 (fun v L => viewK L 8 v some)) []))
theorem F77_77_j3_e (m : Nat) (u0_0 : Nat) (u0_1 : Option Nat) (u0_2 : List D) : F77_77_j3 m u0_0 u0_1 u0_2 =
 (cond (((u0_0 : Nat) : Int) == (0 : Int))
 ((sp90 [(D.list 0 (some 0) [])]).bind fun d4 =>
 (rdL (some d4)).bind fun q5 =>
 if 0 ≤ ((q5.n : Nat) : Int) ∧ ((q5.n : Nat) : Int) ≤ ((q5.n : Nat) : Int) then
 if 0 ≤ ((q5.n : Nat) : Int) ∧ ((q5.n : Nat) : Int) ≤ (((Int.toNat ((q5.n : Nat) : Int)) : Nat) : Int) then
 some (D.tup [(D.list ((Int.toNat ((q5.n : Nat) : Int)) - 0) (some ((Int.toNat ((q5.n : Nat) : Int)) - 0)) ((List.drop 0 q5.cs).take (((Int.toNat ((q5.n : Nat) : Int)) - 0) * 1))), (D.v (.int .i64 (0 : Int)))])
 else none
 else none)
 (cond (ByteArray.toList (ByteArray.mk #[0]) == ByteArray.toList (ByteArray.mk #[]))
 (cond (decide (((u0_0 : Nat) : Int) > (64 : Int)))
 (some (D.tup [(D.list 0 (some 0) []), (D.v (.int .i64 (3 : Int)))]))
 ((sp90 [(D.list u0_0 u0_1 u0_2)]).bind fun d6 =>
 (rdL (some d6)).bind fun q7 =>
 if 0 ≤ ((q7.n : Nat) : Int) ∧ ((q7.n : Nat) : Int) ≤ ((q7.n : Nat) : Int) then
 if 0 ≤ ((q7.n : Nat) : Int) ∧ ((q7.n : Nat) : Int) ≤ (((Int.toNat ((q7.n : Nat) : Int)) : Nat) : Int) then
 some (D.tup [(D.list ((Int.toNat ((q7.n : Nat) : Int)) - 0) (some ((Int.toNat ((q7.n : Nat) : Int)) - 0)) ((List.drop 0 q7.cs).take (((Int.toNat ((q7.n : Nat) : Int)) - 0) * 1))), (D.v (.int .i64 (0 : Int)))])
 else none
 else none))
 ((sp95 [(D.list u0_0 u0_1 u0_2), (D.v (.int .u8 (0 : Int)))]).bind fun d8 =>
 (rdL (some d8)).bind fun q9 =>
 cond (decide (((q9.n : Nat) : Int) > (64 : Int)))
 (some (D.tup [(D.list 0 (some 0) []), (D.v (.int .i64 (3 : Int)))]))
 ((sp90 [(D.list q9.n q9.cap q9.cs)]).bind fun d10 =>
 (rdL (some d10)).bind fun q11 =>
 if 0 ≤ ((q11.n : Nat) : Int) ∧ ((q11.n : Nat) : Int) ≤ ((q11.n : Nat) : Int) then
 if 0 ≤ ((q11.n : Nat) : Int) ∧ ((q11.n : Nat) : Int) ≤ (((Int.toNat ((q11.n : Nat) : Int)) : Nat) : Int) then
 some (D.tup [(D.list ((Int.toNat ((q11.n : Nat) : Int)) - 0) (some ((Int.toNat ((q11.n : Nat) : Int)) - 0)) ((List.drop 0 q11.cs).take (((Int.toNat ((q11.n : Nat) : Int)) - 0) * 1))), (D.v (.int .i64 (0 : Int)))])
 else none
 else none)))) := by kernel_rfl
noncomputable def F77 (m : Nat) (a0n : Nat) (a0c : Option Nat) (a0 : List D) : Option D :=
 cond (((a0n : Nat) : Int) == (0 : Int))
 (some (D.tup [(D.list 0 (some 0) []), (D.v (.int .i64 (11 : Int)))]))
 ((sp71 [(D.list a0n a0c a0)]).bind fun d1 =>
 (rdB (some d1)).bind fun b2 =>
 cond b2
 (some (D.tup [(D.list 0 (some 0) []), (D.v (.int .i64 (11 : Int)))]))
 (if 0 ≤ (0 : Int) ∧ (0 : Int) < ((a0n : Nat) : Int) then
 (rdI .u8 a0[0]?).bind fun x3 =>
 cond (decide (x3 ≥ (128 : Int)))
 (some (D.tup [(D.list 0 (some 0) []), (D.v (.int .i64 (11 : Int)))]))
 (F77_77_j3 m a0n a0c a0)
 else none))
theorem F77_eq (m : Nat) (a0n : Nat) (a0c : Option Nat) (a0 : List D) : funD Tryd.prog H77 m 3 fh77_77 Tryd.f77 [(D.list a0n a0c a0)] = F77 m a0n a0c a0 := by kernel_rfl
theorem en77 : Enters Tryd.prog 77 := ⟨Tryd.f77, Tryd.func77, by kernel_rfl, by kernel_rfl⟩
theorem dt77 {ds : List D} {d : D} (h : funD Tryd.prog H77 M 3 fh77_77 Tryd.f77 ds = some d) : DataSem Tryd.prog 77 ds d := data_sound (H := H77) (SpOk.cons ds71 (SpOk.cons ds90 (SpOk.cons ds95 SpOk.nil))) mixed (InlOk.cons Tryd.func72 en72 (InlOk.cons Tryd.func91 en91 InlOk.nil)) Tryd.func77 en77 h
noncomputable def sp77 : List D → Option D
  | [.list a0n a0c a0] => F77 M a0n a0c a0
  | _ => none
theorem ds77 : ∀ ds d, sp77 ds = some d → DataSem Tryd.prog 77 ds d := by
  intro ds d h
  unfold sp77 at h
  split at h
  · exact dt77 ((F77_eq M _ _ _).trans h)
  · cases h

-- ('str', '"vidimus/scalars.PutNat"')
def fh34_34 : FnH := ⟨[], [(7, ⟨[true, false, false, false, false, true, false, false, false, false, false, false, false, false, false, false, false, false, false, false, false, false, false, false, false, false, false, false, false, false, false], [], none⟩)]⟩
def fh34_72 : FnH := ⟨[], []⟩
noncomputable def H34 : Hints := ⟨[(68, sp68)], [(72, Tryd.f72, fh34_72)]⟩
noncomputable def F34_34_j7 (m : Nat) (u0_0 : Nat) (u0_1 : Option Nat) (u0_2 : List D) (u0_3 : Nat) (u0_4 : Nat) (u0_5 : List D) : Option D :=
 cutK (codeK Tryd.prog H34.sp 0 (inlK Tryd.prog H34 m 3) m fh34_34 (subc [1, 1, 1, 1] (bodyOf Tryd.f34)) ⟨[(AV.d (D.list u0_0 u0_1 u0_2)), .junk, .junk, .junk, .junk, (AV.sl 0 0 1 (some u0_3) 1), .junk, .junk, .junk, .junk, .junk, .junk, .junk, .junk, .junk, .junk, .junk, .junk, .junk, .junk, .junk, .junk, .junk, .junk, .junk, .junk, .junk, .junk, .junk, .junk, .junk], [(Blk.d u0_4 u0_5), (Blk.d 1 [(D.v (.int .u8 (0 : Int)))])]⟩
  (contK Tryd.prog H34.sp 0 (inlK Tryd.prog H34 m 3) m fh34_34 (endK Tryd.prog Tryd.f34 (fun v L => viewK L 8 v some)) []))
theorem F34_34_j7_e (m : Nat) (u0_0 : Nat) (u0_1 : Option Nat) (u0_2 : List D) (u0_3 : Nat) (u0_4 : Nat) (u0_5 : List D) : F34_34_j7 m u0_0 u0_1 u0_2 u0_3 u0_4 u0_5 =
 (if (List.length u0_2) = (u0_0 * 1) then
 if (1 + u0_0) ≤ u0_3 then
 (if (0 + ((1 + u0_0) * 1)) ≤ u0_4 ∧ (List.length u0_2) = (u0_0 * 1) then
 if 0 ≤ (((1 + u0_0) : Nat) : Int) ∧ (((1 + u0_0) : Nat) : Int) ≤ (((1 + u0_0) : Nat) : Int) then
 if 0 ≤ (((1 + u0_0) : Nat) : Int) ∧ (((1 + u0_0) : Nat) : Int) ≤ (((Int.toNat (((1 + u0_0) : Nat) : Int)) : Nat) : Int) then
 if (0 + (((Int.toNat (((1 + u0_0) : Nat) : Int)) - 0) * 1)) ≤ u0_4 then
 some (D.tup [(D.list ((Int.toNat (((1 + u0_0) : Nat) : Int)) - 0) (some ((Int.toNat (((1 + u0_0) : Nat) : Int)) - 0)) (cutL u0_4 (List.take 1 u0_5 ++ (u0_2 ++ List.drop (0 + ((1 + u0_0) * 1)) u0_5)) 0 (((Int.toNat (((1 + u0_0) : Nat) : Int)) - 0) * 1))), (D.v (.int .i64 (0 : Int)))])
 else none
 else none
 else none
 else none)
 else
 (if fitsRow (1 + u0_0) 1 ∧ (List.length u0_2) = (u0_0 * 1) then
 if 1 ≤ u0_4 then
 if 0 ≤ (((1 + u0_0) : Nat) : Int) ∧ (((1 + u0_0) : Nat) : Int) ≤ (((1 + u0_0) : Nat) : Int) then
 if 0 ≤ (((1 + u0_0) : Nat) : Int) ∧ (((1 + u0_0) : Nat) : Int) ≤ (((Int.toNat (((1 + u0_0) : Nat) : Int)) : Nat) : Int) then
 if (0 + (((Int.toNat (((1 + u0_0) : Nat) : Int)) - 0) * 1)) ≤ ((1 + u0_0) * 1) then
 some (D.tup [(D.list ((Int.toNat (((1 + u0_0) : Nat) : Int)) - 0) (some ((Int.toNat (((1 + u0_0) : Nat) : Int)) - 0)) (cutL ((1 + u0_0) * 1) ((cutL u0_4 u0_5 0 1) ++ u0_2) 0 (((Int.toNat (((1 + u0_0) : Nat) : Int)) - 0) * 1))), (D.v (.int .i64 (0 : Int)))])
 else none
 else none
 else none
 else none
 else none)
 else none) := by kernel_rfl
noncomputable def F34_34_j7v1 (m : Nat) (u1_0 : Nat) (u1_1 : Option Nat) (u1_2 : List D) (u1_3 : Nat) (u1_4 : List D) (u1_5 : List D) : Option D :=
 cutK (codeK Tryd.prog H34.sp 0 (inlK Tryd.prog H34 m 3) m fh34_34 (subc [1, 1, 1, 1] (bodyOf Tryd.f34)) ⟨[(AV.d (D.list u1_0 u1_1 u1_2)), .junk, .junk, .junk, .junk, (AV.sl 2 0 1 none 1), .junk, .junk, .junk, .junk, .junk, .junk, .junk, .junk, .junk, .junk, .junk, .junk, .junk, .junk, .junk, .junk, .junk, .junk, .junk, .junk, .junk, .junk, .junk, .junk, .junk], [(Blk.d u1_3 u1_4), (Blk.d 1 [(D.v (.int .u8 (0 : Int)))]), (Blk.d 1 u1_5)]⟩
  (contK Tryd.prog H34.sp 0 (inlK Tryd.prog H34 m 3) m fh34_34 (endK Tryd.prog Tryd.f34 (fun v L => viewK L 8 v some)) []))
theorem F34_34_j7v1_e (m : Nat) (u1_0 : Nat) (u1_1 : Option Nat) (u1_2 : List D) (u1_3 : Nat) (u1_4 : List D) (u1_5 : List D) : F34_34_j7v1 m u1_0 u1_1 u1_2 u1_3 u1_4 u1_5 =
 (if (List.length u1_2) = (u1_0 * 1) then
 if 0 ≤ 2 ∧ 1 = 1 ∧ fitsRow (1 + u1_0) 1 ∧ (List.length u1_2) = (u1_0 * 1) then
 if 0 ≤ (((1 + u1_0) : Nat) : Int) ∧ (((1 + u1_0) : Nat) : Int) ≤ (((1 + u1_0) : Nat) : Int) then
 if 0 ≤ (((1 + u1_0) : Nat) : Int) ∧ (((1 + u1_0) : Nat) : Int) ≤ (((Int.toNat (((1 + u1_0) : Nat) : Int)) : Nat) : Int) then
 if (0 + (((Int.toNat (((1 + u1_0) : Nat) : Int)) - 0) * 1)) ≤ ((1 + u1_0) * 1) then
 some (D.tup [(D.list ((Int.toNat (((1 + u1_0) : Nat) : Int)) - 0) (some ((Int.toNat (((1 + u1_0) : Nat) : Int)) - 0)) (cutL ((1 + u1_0) * 1) (u1_5 ++ u1_2) 0 (((Int.toNat (((1 + u1_0) : Nat) : Int)) - 0) * 1))), (D.v (.int .i64 (0 : Int)))])
 else none
 else none
 else none
 else none
 else none) := by kernel_rfl
noncomputable def F34_34_j7v2 (m : Nat) (u2_0 : Nat) (u2_1 : Option Nat) (u2_2 : List D) (u2_3 : Nat) (u2_4 : Nat) (u2_5 : List D) : Option D :=
 cutK (codeK Tryd.prog H34.sp 0 (inlK Tryd.prog H34 m 3) m fh34_34 (subc [1, 1, 1, 1] (bodyOf Tryd.f34)) ⟨[(AV.d (D.list u2_0 u2_1 u2_2)), .junk, .junk, .junk, .junk, (AV.sl 0 0 0 (some u2_3) 1), .junk, .junk, .junk, .junk, .junk, .junk, .junk, .junk, .junk, .junk, .junk, .junk, .junk, .junk, .junk, .junk, .junk, .junk, .junk, .junk, .junk, .junk, .junk, .junk, .junk], [(Blk.d u2_4 u2_5)]⟩
  (contK Tryd.prog H34.sp 0 (inlK Tryd.prog H34 m 3) m fh34_34 (endK Tryd.prog Tryd.f34 (fun v L => viewK L 8 v some)) []))
theorem F34_34_j7v2_e (m : Nat) (u2_0 : Nat) (u2_1 : Option Nat) (u2_2 : List D) (u2_3 : Nat) (u2_4 : Nat) (u2_5 : List D) : F34_34_j7v2 m u2_0 u2_1 u2_2 u2_3 u2_4 u2_5 =
 (if (List.length u2_2) = (u2_0 * 1) then
 if (0 + u2_0) ≤ u2_3 then
 (if (0 + ((0 + u2_0) * 1)) ≤ u2_4 ∧ (List.length u2_2) = (u2_0 * 1) then
 if 0 ≤ (((0 + u2_0) : Nat) : Int) ∧ (((0 + u2_0) : Nat) : Int) ≤ (((0 + u2_0) : Nat) : Int) then
 if 0 ≤ (((0 + u2_0) : Nat) : Int) ∧ (((0 + u2_0) : Nat) : Int) ≤ (((Int.toNat (((0 + u2_0) : Nat) : Int)) : Nat) : Int) then
 if (0 + (((Int.toNat (((0 + u2_0) : Nat) : Int)) - 0) * 1)) ≤ u2_4 then
 some (D.tup [(D.list ((Int.toNat (((0 + u2_0) : Nat) : Int)) - 0) (some ((Int.toNat (((0 + u2_0) : Nat) : Int)) - 0)) (cutL u2_4 (List.take 0 u2_5 ++ (u2_2 ++ List.drop (0 + ((0 + u2_0) * 1)) u2_5)) 0 (((Int.toNat (((0 + u2_0) : Nat) : Int)) - 0) * 1))), (D.v (.int .i64 (0 : Int)))])
 else none
 else none
 else none
 else none)
 else
 (if fitsRow (0 + u2_0) 1 ∧ (List.length u2_2) = (u2_0 * 1) then
 if 0 ≤ u2_4 then
 if 0 ≤ (((0 + u2_0) : Nat) : Int) ∧ (((0 + u2_0) : Nat) : Int) ≤ (((0 + u2_0) : Nat) : Int) then
 if 0 ≤ (((0 + u2_0) : Nat) : Int) ∧ (((0 + u2_0) : Nat) : Int) ≤ (((Int.toNat (((0 + u2_0) : Nat) : Int)) : Nat) : Int) then
 if (0 + (((Int.toNat (((0 + u2_0) : Nat) : Int)) - 0) * 1)) ≤ ((0 + u2_0) * 1) then
 some (D.tup [(D.list ((Int.toNat (((0 + u2_0) : Nat) : Int)) - 0) (some ((Int.toNat (((0 + u2_0) : Nat) : Int)) - 0)) (cutL ((0 + u2_0) * 1) ((cutL u2_4 u2_5 0 0) ++ u2_2) 0 (((Int.toNat (((0 + u2_0) : Nat) : Int)) - 0) * 1))), (D.v (.int .i64 (0 : Int)))])
 else none
 else none
 else none
 else none
 else none)
 else none) := by kernel_rfl
noncomputable def F34 (m : Nat) (a0n : Nat) (a0c : Option Nat) (a0 : List D) : Option D :=
 (sp68 [(D.list a0n a0c a0)]).bind fun d1 =>
 (rdI .i64 (some d1)).bind fun x2 =>
 cond (x2 != (0 : Int))
 (some (D.tup [(D.list 0 (some 0) []), (D.v (.int .i64 x2))]))
 (if 0 ≤ (0 : Int) ∧ (0 : Int) ≤ (IntKind.wrap .i64 (((a0n : Nat) : Int) + (1 : Int))) ∧ fitsRow (Int.toNat (IntKind.wrap .i64 (((a0n : Nat) : Int) + (1 : Int)))) 1 then
 cond (((a0n : Nat) : Int) == (0 : Int))
 (if 1 ≤ (Int.toNat (IntKind.wrap .i64 (((a0n : Nat) : Int) + (1 : Int)))) then
 (if 1 ≤ ((Int.toNat (IntKind.wrap .i64 (((a0n : Nat) : Int) + (1 : Int)))) * 1) ∧ 1 = 1 then
 F34_34_j7 m a0n a0c a0 (Int.toNat (IntKind.wrap .i64 (((a0n : Nat) : Int) + (1 : Int)))) ((Int.toNat (IntKind.wrap .i64 (((a0n : Nat) : Int) + (1 : Int)))) * 1) (List.take 0 (List.flatten (List.replicate (Int.toNat (IntKind.wrap .i64 (((a0n : Nat) : Int) + (1 : Int)))) [(D.v (.int .u8 (0 : Int)))])) ++ ([(D.v (.int .u8 (0 : Int)))] ++ List.drop 1 (List.flatten (List.replicate (Int.toNat (IntKind.wrap .i64 (((a0n : Nat) : Int) + (1 : Int)))) [(D.v (.int .u8 (0 : Int)))]))))
 else none)
 else
 (if 0 ≤ ((Int.toNat (IntKind.wrap .i64 (((a0n : Nat) : Int) + (1 : Int)))) * 1) then
 F34_34_j7v1 m a0n a0c a0 ((Int.toNat (IntKind.wrap .i64 (((a0n : Nat) : Int) + (1 : Int)))) * 1) (List.flatten (List.replicate (Int.toNat (IntKind.wrap .i64 (((a0n : Nat) : Int) + (1 : Int)))) [(D.v (.int .u8 (0 : Int)))])) ((cutL ((Int.toNat (IntKind.wrap .i64 (((a0n : Nat) : Int) + (1 : Int)))) * 1) (List.flatten (List.replicate (Int.toNat (IntKind.wrap .i64 (((a0n : Nat) : Int) + (1 : Int)))) [(D.v (.int .u8 (0 : Int)))])) 0 0) ++ [(D.v (.int .u8 (0 : Int)))])
 else none))
 (if 0 ≤ (0 : Int) ∧ (0 : Int) < ((a0n : Nat) : Int) then
 (rdI .u8 a0[0]?).bind fun x3 =>
 cond (decide (x3 ≥ (128 : Int)))
 (if 1 ≤ (Int.toNat (IntKind.wrap .i64 (((a0n : Nat) : Int) + (1 : Int)))) then
 (if 1 ≤ ((Int.toNat (IntKind.wrap .i64 (((a0n : Nat) : Int) + (1 : Int)))) * 1) ∧ 1 = 1 then
 F34_34_j7 m a0n a0c a0 (Int.toNat (IntKind.wrap .i64 (((a0n : Nat) : Int) + (1 : Int)))) ((Int.toNat (IntKind.wrap .i64 (((a0n : Nat) : Int) + (1 : Int)))) * 1) (List.take 0 (List.flatten (List.replicate (Int.toNat (IntKind.wrap .i64 (((a0n : Nat) : Int) + (1 : Int)))) [(D.v (.int .u8 (0 : Int)))])) ++ ([(D.v (.int .u8 (0 : Int)))] ++ List.drop 1 (List.flatten (List.replicate (Int.toNat (IntKind.wrap .i64 (((a0n : Nat) : Int) + (1 : Int)))) [(D.v (.int .u8 (0 : Int)))]))))
 else none)
 else
 (if 0 ≤ ((Int.toNat (IntKind.wrap .i64 (((a0n : Nat) : Int) + (1 : Int)))) * 1) then
 F34_34_j7v1 m a0n a0c a0 ((Int.toNat (IntKind.wrap .i64 (((a0n : Nat) : Int) + (1 : Int)))) * 1) (List.flatten (List.replicate (Int.toNat (IntKind.wrap .i64 (((a0n : Nat) : Int) + (1 : Int)))) [(D.v (.int .u8 (0 : Int)))])) ((cutL ((Int.toNat (IntKind.wrap .i64 (((a0n : Nat) : Int) + (1 : Int)))) * 1) (List.flatten (List.replicate (Int.toNat (IntKind.wrap .i64 (((a0n : Nat) : Int) + (1 : Int)))) [(D.v (.int .u8 (0 : Int)))])) 0 0) ++ [(D.v (.int .u8 (0 : Int)))])
 else none))
 (F34_34_j7v2 m a0n a0c a0 (Int.toNat (IntKind.wrap .i64 (((a0n : Nat) : Int) + (1 : Int)))) ((Int.toNat (IntKind.wrap .i64 (((a0n : Nat) : Int) + (1 : Int)))) * 1) (List.flatten (List.replicate (Int.toNat (IntKind.wrap .i64 (((a0n : Nat) : Int) + (1 : Int)))) [(D.v (.int .u8 (0 : Int)))])))
 else none)
 else none)
theorem F34_eq (m : Nat) (a0n : Nat) (a0c : Option Nat) (a0 : List D) : funD Tryd.prog H34 m 3 fh34_34 Tryd.f34 [(D.list a0n a0c a0)] = F34 m a0n a0c a0 := by kernel_rfl
theorem en34 : Enters Tryd.prog 34 := ⟨Tryd.f34, Tryd.func34, by kernel_rfl, by kernel_rfl⟩
theorem dt34 {ds : List D} {d : D} (h : funD Tryd.prog H34 M 3 fh34_34 Tryd.f34 ds = some d) : DataSem Tryd.prog 34 ds d := data_sound (H := H34) (SpOk.cons ds68 SpOk.nil) mixed (InlOk.cons Tryd.func72 en72 InlOk.nil) Tryd.func34 en34 h
noncomputable def sp34 : List D → Option D
  | [.list a0n a0c a0] => F34 M a0n a0c a0
  | _ => none
theorem ds34 : ∀ ds d, sp34 ds = some d → DataSem Tryd.prog 34 ds d := by
  intro ds d h
  unfold sp34 at h
  split at h
  · exact dt34 ((F34_eq M _ _ _).trans h)
  · cases h

-- ('str', '"vidimus/vidimuslaw05.natural"')
def fh33_33 : FnH := ⟨[], []⟩
noncomputable def H33 : Hints := ⟨[(20, sp20), (77, sp77)], []⟩
noncomputable def F33 (m : Nat) (a0n : Nat) (a0c : Option Nat) (a0 : List D) (a1n : Nat) (a1c : Option Nat) (a1 : List D) (a2 : Int) : Option D :=
 (sp77 [(D.list a0n a0c a0)]).bind fun d1 =>
 (rdT d1).bind fun r2 =>
 if List.length r2 = 2 then
 (rdL r2[0]?).bind fun q3 =>
 (rdI .i64 r2[1]?).bind fun x4 =>
 (sp20 [(D.list q3.n q3.cap q3.cs), (D.v (.int .i64 x4)), (D.list a1n a1c a1), (D.v (.int .i64 a2))]).bind fun d5 =>
 (rdB (some d5)).bind fun b6 =>
 some (D.v (.bool b6))
 else none
theorem F33_eq (m : Nat) (a0n : Nat) (a0c : Option Nat) (a0 : List D) (a1n : Nat) (a1c : Option Nat) (a1 : List D) (a2 : Int) : funD Tryd.prog H33 m 3 fh33_33 Tryd.f33 [(D.list a0n a0c a0), (D.list a1n a1c a1), (D.v (.int .i64 a2))] = F33 m a0n a0c a0 a1n a1c a1 a2 := by kernel_rfl
theorem en33 : Enters Tryd.prog 33 := ⟨Tryd.f33, Tryd.func33, by kernel_rfl, by kernel_rfl⟩
theorem dt33 {ds : List D} {d : D} (h : funD Tryd.prog H33 M 3 fh33_33 Tryd.f33 ds = some d) : DataSem Tryd.prog 33 ds d := data_sound (H := H33) (SpOk.cons ds20 (SpOk.cons ds77 SpOk.nil)) mixed InlOk.nil Tryd.func33 en33 h
noncomputable def sp33 : List D → Option D
  | [.list a0n a0c a0, .list a1n a1c a1, .v (.int .i64 a2)] => F33 M a0n a0c a0 a1n a1c a1 a2
  | _ => none
theorem ds33 : ∀ ds d, sp33 ds = some d → DataSem Tryd.prog 33 ds d := by
  intro ds d h
  unfold sp33 at h
  split at h
  · exact dt33 ((F33_eq M _ _ _ _ _ _ _).trans h)
  · cases h

-- ('str', '"vidimus/scalars.getNull"')
def fh80_80 : FnH := ⟨[], []⟩
noncomputable def H80 : Hints := ⟨[], []⟩
noncomputable def F80 (m : Nat) (a0n : Nat) (a0c : Option Nat) (a0 : List D) : Option D :=
 cond (decide (((a0n : Nat) : Int) > (0 : Int)))
 (some (D.tup [(D.agg []), (D.v (.int .i64 (11 : Int)))]))
 (some (D.tup [(D.agg []), (D.v (.int .i64 (0 : Int)))]))
theorem F80_eq (m : Nat) (a0n : Nat) (a0c : Option Nat) (a0 : List D) : funD Tryd.prog H80 m 3 fh80_80 Tryd.f80 [(D.list a0n a0c a0)] = F80 m a0n a0c a0 := by kernel_rfl
theorem en80 : Enters Tryd.prog 80 := ⟨Tryd.f80, Tryd.func80, by kernel_rfl, by kernel_rfl⟩
theorem dt80 {ds : List D} {d : D} (h : funD Tryd.prog H80 M 3 fh80_80 Tryd.f80 ds = some d) : DataSem Tryd.prog 80 ds d := data_sound (H := H80) SpOk.nil mixed InlOk.nil Tryd.func80 en80 h
noncomputable def sp80 : List D → Option D
  | [.list a0n a0c a0] => F80 M a0n a0c a0
  | _ => none
theorem ds80 : ∀ ds d, sp80 ds = some d → DataSem Tryd.prog 80 ds d := by
  intro ds d h
  unfold sp80 at h
  split at h
  · exact dt80 ((F80_eq M _ _ _).trans h)
  · cases h

-- ('str', '"vidimus/scalars.OfNull"')
def fh38_38 : FnH := ⟨[], []⟩
def fh38_79 : FnH := ⟨[], []⟩
noncomputable def H38 : Hints := ⟨[(80, sp80)], [(79, Tryd.f79, fh38_79)]⟩
noncomputable def F38 (m : Nat) (a0_0 : Int) (a0_1 : Bool) (a0_2 : Int) (a0_3n : Nat) (a0_3c : Option Nat) (a0_3 : List D) (a0_4n : Nat) (a0_4c : Option Nat) (a0_4 : List D) : Option D :=
 (cellsEq [.int, .bool, .int] [(D.v (.int .u8 a0_0)), (D.v (.bool a0_1)), (D.v (.int .u32 a0_2))] [(D.v (.int .u8 (0 : Int))), (D.v (.bool false)), (D.v (.int .u32 (5 : Int)))]).bind fun b1 =>
 cond (!b1)
 (some (D.v (.int .i64 (9 : Int))))
 (cond (decide (((a0_4n : Nat) : Int) > (0 : Int)))
 (some (D.v (.int .i64 (1 : Int))))
 ((sp80 [(D.list a0_3n a0_3c a0_3)]).bind fun d2 =>
 (rdT d2).bind fun r3 =>
 if List.length r3 = 2 then
 (rdA r3[0]?).bind fun c4 =>
 (rdI .i64 r3[1]?).bind fun x5 =>
 if (List.length c4) = 0 then
 if (List.length c4) = 0 then
 some (D.v (.int .i64 x5))
 else none
 else none
 else none))
theorem F38_eq (m : Nat) (a0_0 : Int) (a0_1 : Bool) (a0_2 : Int) (a0_3n : Nat) (a0_3c : Option Nat) (a0_3 : List D) (a0_4n : Nat) (a0_4c : Option Nat) (a0_4 : List D) : funD Tryd.prog H38 m 3 fh38_38 Tryd.f38 [(D.agg [(D.v (.int .u8 a0_0)), (D.v (.bool a0_1)), (D.v (.int .u32 a0_2)), (D.list a0_3n a0_3c a0_3), (D.list a0_4n a0_4c a0_4)])] = F38 m a0_0 a0_1 a0_2 a0_3n a0_3c a0_3 a0_4n a0_4c a0_4 := by kernel_rfl
theorem en38 : Enters Tryd.prog 38 := ⟨Tryd.f38, Tryd.func38, by kernel_rfl, by kernel_rfl⟩
theorem dt38 {ds : List D} {d : D} (h : funD Tryd.prog H38 M 3 fh38_38 Tryd.f38 ds = some d) : DataSem Tryd.prog 38 ds d := data_sound (H := H38) (SpOk.cons ds80 SpOk.nil) mixed (InlOk.cons Tryd.func79 en79 InlOk.nil) Tryd.func38 en38 h
noncomputable def sp38 : List D → Option D
  | [.agg [.v (.int .u8 a0_0), .v (.bool a0_1), .v (.int .u32 a0_2), .list a0_3n a0_3c a0_3, .list a0_4n a0_4c a0_4]] => F38 M a0_0 a0_1 a0_2 a0_3n a0_3c a0_3 a0_4n a0_4c a0_4
  | _ => none
theorem ds38 : ∀ ds d, sp38 ds = some d → DataSem Tryd.prog 38 ds d := by
  intro ds d h
  unfold sp38 at h
  split at h
  · exact dt38 ((F38_eq M _ _ _ _ _ _ _ _ _).trans h)
  · cases h

-- ('str', '"vidimus/scalars.OfBool"')
def fh35_35 : FnH := ⟨[], []⟩
def fh35_78 : FnH := ⟨[], []⟩
noncomputable def H35 : Hints := ⟨[(28, sp28)], [(78, Tryd.f78, fh35_78)]⟩
noncomputable def F35 (m : Nat) (a0_0 : Int) (a0_1 : Bool) (a0_2 : Int) (a0_3n : Nat) (a0_3c : Option Nat) (a0_3 : List D) (a0_4n : Nat) (a0_4c : Option Nat) (a0_4 : List D) : Option D :=
 (cellsEq [.int, .bool, .int] [(D.v (.int .u8 a0_0)), (D.v (.bool a0_1)), (D.v (.int .u32 a0_2))] [(D.v (.int .u8 (0 : Int))), (D.v (.bool false)), (D.v (.int .u32 (1 : Int)))]).bind fun b1 =>
 cond (!b1)
 (some (D.tup [(D.v (.bool false)), (D.v (.int .i64 (9 : Int)))]))
 (cond (decide (((a0_4n : Nat) : Int) > (0 : Int)))
 (some (D.tup [(D.v (.bool false)), (D.v (.int .i64 (1 : Int)))]))
 ((sp28 [(D.list a0_3n a0_3c a0_3)]).bind fun d2 =>
 (rdT d2).bind fun r3 =>
 if List.length r3 = 2 then
 (rdB r3[0]?).bind fun b4 =>
 (rdI .i64 r3[1]?).bind fun x5 =>
 some (D.tup [(D.v (.bool b4)), (D.v (.int .i64 x5))])
 else none))
theorem F35_eq (m : Nat) (a0_0 : Int) (a0_1 : Bool) (a0_2 : Int) (a0_3n : Nat) (a0_3c : Option Nat) (a0_3 : List D) (a0_4n : Nat) (a0_4c : Option Nat) (a0_4 : List D) : funD Tryd.prog H35 m 3 fh35_35 Tryd.f35 [(D.agg [(D.v (.int .u8 a0_0)), (D.v (.bool a0_1)), (D.v (.int .u32 a0_2)), (D.list a0_3n a0_3c a0_3), (D.list a0_4n a0_4c a0_4)])] = F35 m a0_0 a0_1 a0_2 a0_3n a0_3c a0_3 a0_4n a0_4c a0_4 := by kernel_rfl
theorem en35 : Enters Tryd.prog 35 := ⟨Tryd.f35, Tryd.func35, by kernel_rfl, by kernel_rfl⟩
theorem dt35 {ds : List D} {d : D} (h : funD Tryd.prog H35 M 3 fh35_35 Tryd.f35 ds = some d) : DataSem Tryd.prog 35 ds d := data_sound (H := H35) (SpOk.cons ds28 SpOk.nil) mixed (InlOk.cons Tryd.func78 en78 InlOk.nil) Tryd.func35 en35 h
noncomputable def sp35 : List D → Option D
  | [.agg [.v (.int .u8 a0_0), .v (.bool a0_1), .v (.int .u32 a0_2), .list a0_3n a0_3c a0_3, .list a0_4n a0_4c a0_4]] => F35 M a0_0 a0_1 a0_2 a0_3n a0_3c a0_3 a0_4n a0_4c a0_4
  | _ => none
theorem ds35 : ∀ ds d, sp35 ds = some d → DataSem Tryd.prog 35 ds d := by
  intro ds d h
  unfold sp35 at h
  split at h
  · exact dt35 ((F35_eq M _ _ _ _ _ _ _ _ _).trans h)
  · cases h

-- ('str', '"vidimus/scalars.Bool"')
def fh36_36 : FnH := ⟨[], []⟩
noncomputable def H36 : Hints := ⟨[(30, sp30), (74, sp74)], []⟩
noncomputable def F36 (m : Nat) (a0 : Bool) : Option D :=
 (sp30 [(D.v (.bool a0))]).bind fun d1 =>
 (rdL (some d1)).bind fun q2 =>
 (sp74 [(D.v (.int .u32 (1 : Int))), (D.list q2.n q2.cap q2.cs)]).bind fun d3 =>
 (rdA (some d3)).bind fun c4 =>
 if (List.length c4) = 5 then
 some (D.agg c4)
 else none
theorem F36_eq (m : Nat) (a0 : Bool) : funD Tryd.prog H36 m 3 fh36_36 Tryd.f36 [(D.v (.bool a0))] = F36 m a0 := by kernel_rfl
theorem en36 : Enters Tryd.prog 36 := ⟨Tryd.f36, Tryd.func36, by kernel_rfl, by kernel_rfl⟩
theorem dt36 {ds : List D} {d : D} (h : funD Tryd.prog H36 M 3 fh36_36 Tryd.f36 ds = some d) : DataSem Tryd.prog 36 ds d := data_sound (H := H36) (SpOk.cons ds30 (SpOk.cons ds74 SpOk.nil)) mixed InlOk.nil Tryd.func36 en36 h
noncomputable def sp36 : List D → Option D
  | [.v (.bool a0)] => F36 M a0
  | _ => none
theorem ds36 : ∀ ds d, sp36 ds = some d → DataSem Tryd.prog 36 ds d := by
  intro ds d h
  unfold sp36 at h
  split at h
  · exact dt36 ((F36_eq M _).trans h)
  · cases h

-- ('str', '"vidimus/scalars.Null"')
def fh37_37 : FnH := ⟨[], []⟩
noncomputable def H37 : Hints := ⟨[(74, sp74)], []⟩
noncomputable def F37 (m : Nat)  : Option D :=
 (sp74 [(D.v (.int .u32 (5 : Int))), (D.list 0 (some 0) [])]).bind fun d1 =>
 (rdA (some d1)).bind fun c2 =>
 if (List.length c2) = 5 then
 some (D.agg c2)
 else none
theorem F37_eq (m : Nat)  : funD Tryd.prog H37 m 3 fh37_37 Tryd.f37 [] = F37 m  := by kernel_rfl
theorem en37 : Enters Tryd.prog 37 := ⟨Tryd.f37, Tryd.func37, by kernel_rfl, by kernel_rfl⟩
theorem dt37 {ds : List D} {d : D} (h : funD Tryd.prog H37 M 3 fh37_37 Tryd.f37 ds = some d) : DataSem Tryd.prog 37 ds d := data_sound (H := H37) (SpOk.cons ds74 SpOk.nil) mixed InlOk.nil Tryd.func37 en37 h
noncomputable def sp37 : List D → Option D
  | [] => F37 M 
  | _ => none
theorem ds37 : ∀ ds d, sp37 ds = some d → DataSem Tryd.prog 37 ds d := by
  intro ds d h
  unfold sp37 at h
  split at h
  · exact dt37 ((F37_eq M ).trans h)
  · cases h

-- ('str', '"vidimus/vidimuslaw05.lives"')
def fh27_27 : FnH := ⟨[], []⟩
noncomputable def H27 : Hints := ⟨[(18, sp18), (20, sp20), (21, sp21), (23, sp23), (24, sp24), (25, sp25), (26, sp26), (28, sp28), (30, sp30), (33, sp33), (34, sp34), (38, sp38)], []⟩
noncomputable def F27 (m : Nat)  : Option D :=
 (sp28 [(D.list 1 (some 1) [(D.v (.int .u8 (1 : Int)))])]).bind fun d1 =>
 (rdT d1).bind fun r2 =>
 if List.length r2 = 2 then
 (rdB r2[0]?).bind fun b3 =>
 (rdI .i64 r2[1]?).bind fun x4 =>
 (sp28 [(D.list 0 (some 0) [])]).bind fun d5 =>
 (rdT d5).bind fun r6 =>
 if List.length r6 = 2 then
 (rdB r6[0]?).bind fun b7 =>
 (rdI .i64 r6[1]?).bind fun x8 =>
 (sp30 [(D.v (.bool true))]).bind fun d9 =>
 (rdL (some d9)).bind fun q10 =>
 if (List.length q10.cs) = q10.n then
 (bytesOf q10.cs).bind fun l11 =>
 cond (!(ByteArray.toList (ByteArray.mk (List.toArray l11)) == ByteArray.toList (ByteArray.mk #[255])))
 (some (D.v (.bool false)))
 (cond (x4 != (11 : Int))
 (some (D.v (.bool false)))
 (cond (x8 != (11 : Int))
 (some (D.v (.bool false)))
 ((sp18 [(D.v (.int .i64 (0 : Int)))]).bind fun d12 =>
 (rdL (some d12)).bind fun q13 =>
 if (List.length q13.cs) = q13.n then
 (bytesOf q13.cs).bind fun l14 =>
 cond (!(ByteArray.toList (ByteArray.mk (List.toArray l14)) == ByteArray.toList (ByteArray.mk #[0])))
 (some (D.v (.bool false)))
 ((sp18 [(D.v (.int .i64 (127 : Int)))]).bind fun d15 =>
 (rdL (some d15)).bind fun q16 =>
 if (List.length q16.cs) = q16.n then
 (bytesOf q16.cs).bind fun l17 =>
 cond (!(ByteArray.toList (ByteArray.mk (List.toArray l17)) == ByteArray.toList (ByteArray.mk #[127])))
 (some (D.v (.bool false)))
 ((sp18 [(D.v (.int .i64 (128 : Int)))]).bind fun d18 =>
 (rdL (some d18)).bind fun q19 =>
 if (List.length q19.cs) = q19.n then
 (bytesOf q19.cs).bind fun l20 =>
 cond (!(ByteArray.toList (ByteArray.mk (List.toArray l20)) == ByteArray.toList (ByteArray.mk #[0, 128])))
 (some (D.v (.bool false)))
 ((sp18 [(D.v (.int .i64 (-128 : Int)))]).bind fun d21 =>
 (rdL (some d21)).bind fun q22 =>
 if (List.length q22.cs) = q22.n then
 (bytesOf q22.cs).bind fun l23 =>
 cond (!(ByteArray.toList (ByteArray.mk (List.toArray l23)) == ByteArray.toList (ByteArray.mk #[128])))
 (some (D.v (.bool false)))
 ((sp18 [(D.v (.int .i64 (-129 : Int)))]).bind fun d24 =>
 (rdL (some d24)).bind fun q25 =>
 if (List.length q25.cs) = q25.n then
 (bytesOf q25.cs).bind fun l26 =>
 cond (!(ByteArray.toList (ByteArray.mk (List.toArray l26)) == ByteArray.toList (ByteArray.mk #[255, 127])))
 (some (D.v (.bool false)))
 ((sp21 [(D.list 2 (some 2) [(D.v (.int .u8 (0 : Int))), (D.v (.int .u8 (127 : Int)))]), (D.v (.int .i64 (0 : Int))), (D.v (.int .i64 (11 : Int)))]).bind fun d27 =>
 (rdB (some d27)).bind fun b28 =>
 cond (!b28)
 (some (D.v (.bool false)))
 ((sp21 [(D.list 2 (some 2) [(D.v (.int .u8 (255 : Int))), (D.v (.int .u8 (128 : Int)))]), (D.v (.int .i64 (0 : Int))), (D.v (.int .i64 (11 : Int)))]).bind fun d29 =>
 (rdB (some d29)).bind fun b30 =>
 cond (!b30)
 (some (D.v (.bool false)))
 ((sp21 [(D.list 0 (some 0) []), (D.v (.int .i64 (0 : Int))), (D.v (.int .i64 (11 : Int)))]).bind fun d31 =>
 (rdB (some d31)).bind fun b32 =>
 cond (!b32)
 (some (D.v (.bool false)))
 ((sp21 [(D.list 9 (some 9) [(D.v (.int .u8 (1 : Int))), (D.v (.int .u8 (0 : Int))), (D.v (.int .u8 (0 : Int))), (D.v (.int .u8 (0 : Int))), (D.v (.int .u8 (0 : Int))), (D.v (.int .u8 (0 : Int))), (D.v (.int .u8 (0 : Int))), (D.v (.int .u8 (0 : Int))), (D.v (.int .u8 (0 : Int)))]), (D.v (.int .i64 (0 : Int))), (D.v (.int .i64 (3 : Int)))]).bind fun d33 =>
 (rdB (some d33)).bind fun b34 =>
 cond (!b34)
 (some (D.v (.bool false)))
 ((sp34 [(D.list 1 (some 1) [(D.v (.int .u8 (128 : Int)))])]).bind fun d35 =>
 (rdT d35).bind fun r36 =>
 if List.length r36 = 2 then
 (rdL r36[0]?).bind fun q37 =>
 (rdI .i64 r36[1]?).bind fun x38 =>
 (sp34 [(D.list 0 (some 0) [])]).bind fun d39 =>
 (rdT d39).bind fun r40 =>
 if List.length r40 = 2 then
 (rdL r40[0]?).bind fun q41 =>
 (rdI .i64 r40[1]?).bind fun x42 =>
 (sp20 [(D.list q37.n q37.cap q37.cs), (D.v (.int .i64 x38)), (D.list 2 (some 2) [(D.v (.int .u8 (0 : Int))), (D.v (.int .u8 (128 : Int)))]), (D.v (.int .i64 (0 : Int)))]).bind fun d43 =>
 (rdB (some d43)).bind fun b44 =>
 cond (!b44)
 (some (D.v (.bool false)))
 ((sp20 [(D.list q41.n q41.cap q41.cs), (D.v (.int .i64 x42)), (D.list 1 (some 1) [(D.v (.int .u8 (0 : Int)))]), (D.v (.int .i64 (0 : Int)))]).bind fun d45 =>
 (rdB (some d45)).bind fun b46 =>
 cond (!b46)
 (some (D.v (.bool false)))
 ((sp33 [(D.list 2 (some 2) [(D.v (.int .u8 (0 : Int))), (D.v (.int .u8 (128 : Int)))]), (D.list 1 (some 1) [(D.v (.int .u8 (128 : Int)))]), (D.v (.int .i64 (0 : Int)))]).bind fun d47 =>
 (rdB (some d47)).bind fun b48 =>
 cond (!b48)
 (some (D.v (.bool false)))
 ((sp33 [(D.list 1 (some 1) [(D.v (.int .u8 (128 : Int)))]), (D.list 0 (some 0) []), (D.v (.int .i64 (11 : Int)))]).bind fun d49 =>
 (rdB (some d49)).bind fun b50 =>
 cond (!b50)
 (some (D.v (.bool false)))
 ((sp33 [(D.list 1 (some 1) [(D.v (.int .u8 (0 : Int)))]), (D.list 0 (some 0) []), (D.v (.int .i64 (0 : Int)))]).bind fun d51 =>
 (rdB (some d51)).bind fun b52 =>
 cond (!b52)
 (some (D.v (.bool false)))
 ((sp23 [(D.v (.int .i64 (-1 : Int)))]).bind fun d53 =>
 (rdA (some d53)).bind fun c54 =>
 (sp25 [(D.agg c54)]).bind fun d55 =>
 (rdT d55).bind fun r56 =>
 if List.length r56 = 2 then
 (rdI .i64 r56[0]?).bind fun x57 =>
 (rdI .i64 r56[1]?).bind fun x58 =>
 (sp24 [(D.v (.int .i64 (5 : Int)))]).bind fun d59 =>
 (rdA (some d59)).bind fun c60 =>
 (sp25 [(D.agg c60)]).bind fun d61 =>
 (rdT d61).bind fun r62 =>
 if List.length r62 = 2 then
 (rdI .i64 r62[0]?).bind fun x63 =>
 (rdI .i64 r62[1]?).bind fun x64 =>
 (sp24 [(D.v (.int .i64 (5 : Int)))]).bind fun d65 =>
 (rdA (some d65)).bind fun c66 =>
 (sp26 [(D.agg c66)]).bind fun d67 =>
 (rdT d67).bind fun r68 =>
 if List.length r68 = 2 then
 (rdI .i64 r68[0]?).bind fun x69 =>
 (rdI .i64 r68[1]?).bind fun x70 =>
 cond (x57 == (-1 : Int))
 (cond (x58 == (0 : Int))
 (cond (x64 == (9 : Int))
 (cond (x69 == (5 : Int))
 (cond (x70 == (0 : Int))
 ((sp38 [(D.agg [(D.v (.int .u8 (0 : Int))), (D.v (.bool false)), (D.v (.int .u32 (5 : Int))), (D.list 1 (some 1) [(D.v (.int .u8 (0 : Int)))]), (D.list 0 (some 0) [])])]).bind fun d71 =>
 (rdI .i64 (some d71)).bind fun x72 =>
 some (D.v (.bool (x72 == (11 : Int)))))
 (some (D.v (.bool false))))
 (some (D.v (.bool false))))
 (some (D.v (.bool false))))
 (some (D.v (.bool false))))
 (some (D.v (.bool false)))
 else none
 else none
 else none)))))
 else none
 else none)))))
 else none)
 else none)
 else none)
 else none)
 else none)))
 else none
 else none
 else none
theorem F27_eq (m : Nat)  : funD Tryd.prog H27 m 3 fh27_27 Tryd.f27 [] = F27 m  := by kernel_rfl
theorem en27 : Enters Tryd.prog 27 := ⟨Tryd.f27, Tryd.func27, by kernel_rfl, by kernel_rfl⟩
theorem dt27 {ds : List D} {d : D} (h : funD Tryd.prog H27 M 3 fh27_27 Tryd.f27 ds = some d) : DataSem Tryd.prog 27 ds d := data_sound (H := H27) (SpOk.cons ds18 (SpOk.cons ds20 (SpOk.cons ds21 (SpOk.cons ds23 (SpOk.cons ds24 (SpOk.cons ds25 (SpOk.cons ds26 (SpOk.cons ds28 (SpOk.cons ds30 (SpOk.cons ds33 (SpOk.cons ds34 (SpOk.cons ds38 SpOk.nil)))))))))))) mixed InlOk.nil Tryd.func27 en27 h
noncomputable def sp27 : List D → Option D
  | [] => F27 M 
  | _ => none
theorem ds27 : ∀ ds d, sp27 ds = some d → DataSem Tryd.prog 27 ds d := by
  intro ds d h
  unfold sp27 at h
  split at h
  · exact dt27 ((F27_eq M ).trans h)
  · cases h

-- ('str', '"vidimus/vidimuslaw05.ScalarsInts"')
def fh3_3 : FnH := ⟨[], []⟩
noncomputable def H3 : Hints := ⟨[(18, sp18), (19, sp19), (20, sp20), (21, sp21), (22, sp22), (23, sp23), (24, sp24), (25, sp25), (26, sp26), (27, sp27)], []⟩
noncomputable def F3 (m : Nat) (a0 : Int) : Option D :=
 (sp18 [(D.v (.int .i64 a0))]).bind fun d1 =>
 (rdL (some d1)).bind fun q2 =>
 (sp19 [(D.v (.int .i64 a0))]).bind fun d3 =>
 (rdL (some d3)).bind fun q4 =>
 (sp20 [(D.list q2.n q2.cap q2.cs), (D.v (.int .i64 (0 : Int))), (D.list q4.n q4.cap q4.cs), (D.v (.int .i64 (0 : Int)))]).bind fun d5 =>
 (rdB (some d5)).bind fun b6 =>
 cond (!b6)
 (some (D.v (.bool false)))
 ((sp21 [(D.list q2.n q2.cap q2.cs), (D.v (.int .i64 a0)), (D.v (.int .i64 (0 : Int)))]).bind fun d7 =>
 (rdB (some d7)).bind fun b8 =>
 cond (!b8)
 (some (D.v (.bool false)))
 ((sp23 [(D.v (.int .i64 a0))]).bind fun d9 =>
 (rdA (some d9)).bind fun c10 =>
 (sp22 [(D.agg c10), (D.v (.int .u32 (2 : Int))), (D.list q4.n q4.cap q4.cs)]).bind fun d11 =>
 (rdB (some d11)).bind fun b12 =>
 cond (!b12)
 (some (D.v (.bool false)))
 ((sp24 [(D.v (.int .i64 a0))]).bind fun d13 =>
 (rdA (some d13)).bind fun c14 =>
 (sp22 [(D.agg c14), (D.v (.int .u32 (10 : Int))), (D.list q4.n q4.cap q4.cs)]).bind fun d15 =>
 (rdB (some d15)).bind fun b16 =>
 cond (!b16)
 (some (D.v (.bool false)))
 ((sp23 [(D.v (.int .i64 a0))]).bind fun d17 =>
 (rdA (some d17)).bind fun c18 =>
 (sp25 [(D.agg c18)]).bind fun d19 =>
 (rdT d19).bind fun r20 =>
 if List.length r20 = 2 then
 (rdI .i64 r20[0]?).bind fun x21 =>
 (rdI .i64 r20[1]?).bind fun x22 =>
 (sp24 [(D.v (.int .i64 a0))]).bind fun d23 =>
 (rdA (some d23)).bind fun c24 =>
 (sp26 [(D.agg c24)]).bind fun d25 =>
 (rdT d25).bind fun r26 =>
 if List.length r26 = 2 then
 (rdI .i64 r26[0]?).bind fun x27 =>
 (rdI .i64 r26[1]?).bind fun x28 =>
 (sp23 [(D.v (.int .i64 a0))]).bind fun d29 =>
 (rdA (some d29)).bind fun c30 =>
 (sp26 [(D.agg c30)]).bind fun d31 =>
 (rdT d31).bind fun r32 =>
 if List.length r32 = 2 then
 (rdI .i64 r32[0]?).bind fun x33 =>
 (rdI .i64 r32[1]?).bind fun x34 =>
 cond (x21 == a0)
 (cond (x22 == (0 : Int))
 (cond (x27 == a0)
 (cond (x28 == (0 : Int))
 (cond (x34 == (9 : Int))
 ((sp27 []).bind fun d35 =>
 (rdB (some d35)).bind fun b36 =>
 some (D.v (.bool b36)))
 (some (D.v (.bool false))))
 (some (D.v (.bool false))))
 (some (D.v (.bool false))))
 (some (D.v (.bool false))))
 (some (D.v (.bool false)))
 else none
 else none
 else none))))
theorem F3_eq (m : Nat) (a0 : Int) : funD Tryd.prog H3 m 3 fh3_3 Tryd.f3 [(D.v (.int .i64 a0))] = F3 m a0 := by kernel_rfl
theorem en3 : Enters Tryd.prog 3 := ⟨Tryd.f3, Tryd.func3, by kernel_rfl, by kernel_rfl⟩
theorem dt3 {ds : List D} {d : D} (h : funD Tryd.prog H3 M 3 fh3_3 Tryd.f3 ds = some d) : DataSem Tryd.prog 3 ds d := data_sound (H := H3) (SpOk.cons ds18 (SpOk.cons ds19 (SpOk.cons ds20 (SpOk.cons ds21 (SpOk.cons ds22 (SpOk.cons ds23 (SpOk.cons ds24 (SpOk.cons ds25 (SpOk.cons ds26 (SpOk.cons ds27 SpOk.nil)))))))))) mixed InlOk.nil Tryd.func3 en3 h
noncomputable def sp3 : List D → Option D
  | [.v (.int .i64 a0)] => F3 M a0
  | _ => none
theorem ds3 : ∀ ds d, sp3 ds = some d → DataSem Tryd.prog 3 ds d := by
  intro ds d h
  unfold sp3 at h
  split at h
  · exact dt3 ((F3_eq M _).trans h)
  · cases h

end Go.Ev
