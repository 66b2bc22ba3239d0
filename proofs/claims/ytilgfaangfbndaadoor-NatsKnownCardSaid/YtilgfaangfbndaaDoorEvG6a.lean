/- Functions of the given program in plain form, printed: each with the proof that it is what the evaluator comes to, and that the program function returns what it says. No conditions. -/
import Derived.Test.YtilgfaangfbndaaDoorEvG5c
import Derived.Test.YtilgfaangfbndaaDoorEvCmp
set_option linter.unusedVariables false
set_option maxRecDepth 100000
namespace Go.Ev
open Go Go.Proofs

-- ('str', '"vidimus/nats.check"')
def fh83_83 : FnH := ⟨[], []⟩
noncomputable def H83 : Hints := ⟨[(68, sp68)], []⟩
noncomputable def F83 (m : Nat) (a0n : Nat) (a0c : Option Nat) (a0 : List D) (a1n : Nat) (a1c : Option Nat) (a1 : List D) : Option D :=
 (sp68 [(D.list a0n a0c a0)]).bind fun d1 =>
 (rdI .i64 (some d1)).bind fun x2 =>
 cond (x2 != (0 : Int))
 (some (D.v (.int .i64 x2)))
 ((sp68 [(D.list a1n a1c a1)]).bind fun d3 =>
 (rdI .i64 (some d3)).bind fun x4 =>
 some (D.v (.int .i64 x4)))
theorem F83_eq (m : Nat) (a0n : Nat) (a0c : Option Nat) (a0 : List D) (a1n : Nat) (a1c : Option Nat) (a1 : List D) : funD Tryd.prog H83 m 3 fh83_83 Tryd.f83 [(D.list a0n a0c a0), (D.list a1n a1c a1)] = F83 m a0n a0c a0 a1n a1c a1 := by kernel_rfl
theorem en83 : Enters Tryd.prog 83 := ⟨Tryd.f83, Tryd.func83, by kernel_rfl, by kernel_rfl⟩
theorem dt83 {ds : List D} {d : D} (h : funD Tryd.prog H83 M 3 fh83_83 Tryd.f83 ds = some d) : DataSem Tryd.prog 83 ds d := data_sound (H := H83) (SpOk.cons ds68 SpOk.nil) mixed InlOk.nil Tryd.func83 en83 h
noncomputable def sp83 : List D → Option D
  | [.list a0n a0c a0, .list a1n a1c a1] => F83 M a0n a0c a0 a1n a1c a1
  | _ => none
theorem ds83 : ∀ ds d, sp83 ds = some d → DataSem Tryd.prog 83 ds d := by
  intro ds d h
  unfold sp83 at h
  split at h
  · exact dt83 ((F83_eq M _ _ _ _ _ _).trans h)
  · cases h

-- ('str', '"vidimus/nats.of"')
def fh84_84 : FnH := ⟨[(3, ⟨[true, false, true, true, false, false, true, true, true, false, false, false, false, false, false, false, false, false, false, false, false, false], [], (some 2)⟩)], []⟩
noncomputable def H84 : Hints := ⟨[], []⟩
noncomputable def F84_84_3 (m n0 : Nat) (y0_0 : Nat) (y0_1 : Option Nat) (y0_2 : List D) (y0_3 : Int) (y0_4 : Int) (y0_5 : List D) (y0_6 : List D) : Option D :=
 loopIter [true, false, true, true, false, false, true, true, true, false, false, false, false, false, false, false, false, false, false, false, false, false] 0 2 (codeK Tryd.prog H84.sp 0 (inlK Tryd.prog H84 m 3) m fh84_84 (subc [1, 1, 0, 1, 0, 0] (bodyOf Tryd.f84))) n0 ⟨[(AV.d (D.list y0_0 y0_1 y0_2)), .junk, (AV.ptr 0 0), (AV.ptr 1 0), .junk, .junk, (AV.d (D.list y0_0 y0_1 y0_2)), (AV.d (D.v (.int .i64 y0_3))), (AV.d (D.v (.int .i64 y0_4))), .junk, .junk, .junk, .junk, .junk, .junk, .junk, .junk, .junk, .junk, .junk, .junk, .junk], [(Blk.d 128 y0_5), (Blk.d 128 y0_6)]⟩
  (contK Tryd.prog H84.sp 0 (inlK Tryd.prog H84 m 3) m fh84_84 (endK Tryd.prog Tryd.f84 (fun v L => viewK L 8 v some)) [.block 0, .code (subc [1, 1, 1] (bodyOf Tryd.f84))])
theorem F84_84_3_0 (m : Nat) (y0_0 : Nat) (y0_1 : Option Nat) (y0_2 : List D) (y0_3 : Int) (y0_4 : Int) (y0_5 : List D) (y0_6 : List D) : F84_84_3 m 0 y0_0 y0_1 y0_2 y0_3 y0_4 y0_5 y0_6 = none := rfl
theorem F84_84_3_s (m n0 : Nat) (y0_0 : Nat) (y0_1 : Option Nat) (y0_2 : List D) (y0_3 : Int) (y0_4 : Int) (y0_5 : List D) (y0_6 : List D) : F84_84_3 m (n0 + 1) y0_0 y0_1 y0_2 y0_3 y0_4 y0_5 y0_6 =
 (cond (decide (y0_4 < y0_3))
 (if 0 ≤ y0_4 ∧ y0_4 < ((y0_0 : Nat) : Int) then
 (rdI .u8 y0_2[((Int.toNat y0_4) * 1)]?).bind fun x3 =>
 if 0 ≤ (IntKind.wrap .i64 ((IntKind.wrap .i64 (((y0_0 : Nat) : Int) - (1 : Int))) - y0_4)) ∧ (IntKind.wrap .i64 ((IntKind.wrap .i64 (((y0_0 : Nat) : Int) - (1 : Int))) - y0_4)) < (128 : Int) then
 if 1 = 1 ∧ (0 + ((Int.toNat (IntKind.wrap .i64 ((IntKind.wrap .i64 (((y0_0 : Nat) : Int) - (1 : Int))) - y0_4))) * 1)) < 128 then
 F84_84_3 m n0 y0_0 y0_1 y0_2 y0_3 (IntKind.wrap .i64 (y0_4 + (1 : Int))) y0_5 (List.set y0_6 (0 + ((Int.toNat (IntKind.wrap .i64 ((IntKind.wrap .i64 (((y0_0 : Nat) : Int) - (1 : Int))) - y0_4))) * 1)) (D.v (.int .u8 x3)))
 else none
 else none
 else none)
 (if (List.length y0_6) = 128 then
 some (D.agg y0_6)
 else none)) := by kernel_rfl
noncomputable def F84 (m : Nat) (a0n : Nat) (a0c : Option Nat) (a0 : List D) : Option D :=
 F84_84_3 m m a0n a0c a0 ((a0n : Nat) : Int) (0 : Int) (List.replicate 128 (D.v (.int .u8 (0 : Int)))) (List.replicate 128 (D.v (.int .u8 (0 : Int))))
theorem F84_eq (m : Nat) (a0n : Nat) (a0c : Option Nat) (a0 : List D) : funD Tryd.prog H84 m 3 fh84_84 Tryd.f84 [(D.list a0n a0c a0)] = F84 m a0n a0c a0 := by kernel_rfl
theorem en84 : Enters Tryd.prog 84 := ⟨Tryd.f84, Tryd.func84, by kernel_rfl, by kernel_rfl⟩
theorem dt84 {ds : List D} {d : D} (h : funD Tryd.prog H84 M 3 fh84_84 Tryd.f84 ds = some d) : DataSem Tryd.prog 84 ds d := data_sound (H := H84) SpOk.nil mixed InlOk.nil Tryd.func84 en84 h
noncomputable def sp84 : List D → Option D
  | [.list a0n a0c a0] => F84 M a0n a0c a0
  | _ => none
theorem ds84 : ∀ ds d, sp84 ds = some d → DataSem Tryd.prog 84 ds d := by
  intro ds d h
  unfold sp84 at h
  split at h
  · exact dt84 ((F84_eq M _ _ _).trans h)
  · cases h

-- ('str', '"vidimus/nats.Add"')
def fh46_46 : FnH := ⟨[(7, ⟨[false, true, false, false, false, false, false, true, true, false, false, false, false, false, false, false, false, false, false, false, true, true, true, false, false, false, false, false, false, false, false, false, false, false, false, false, false, false, false, false], [], (some 2)⟩)], []⟩
def fh46_85 : FnH := ⟨[], []⟩
def fh46_86 : FnH := ⟨[(2, ⟨[true, false, false, false, true, false, false, false, false, false, false, false, false, false, false, false, false, false, false, false, false, false, false, false, false, false, false, false, false, false, false, false, false, false, false, false, false, false, false, false, false, false, false, false, false, false], [], (some 0)⟩), (8, ⟨[false, false, false, false, true, true, false, false, false, false, false, false, false, false, false, false, false, false, false, false, false, false, false, false, false, false, false, true, true, true, false, false, false, false, false, false, false, false, false, false, false, false, false, false, false, false], [], (some 1)⟩)], [(3, ⟨[true, false, false, false, true, false, false, false, false, false, false, false, false, false, false, false, false, false, false, false, false, false, false, false, false, false, false, false, false, false, false, false, false, false, false, false, false, false, false, false, false, false, false, false, false, false], [], (some 0)⟩), (4, ⟨[true, false, false, false, true, false, false, false, false, false, false, false, false, false, false, false, false, false, false, false, false, false, false, false, false, false, false, false, false, false, false, false, false, false, false, false, false, false, false, false, false, false, false, false, false, false], [], (some 0)⟩)]⟩
def fh46_94 : FnH := ⟨[(0, ⟨[true, true, true, false, false, false, false, false, false, false, false, false, false, false, false, false, false, false, false, false, false, false, false, false, false, false, false, false, false], [], (some 0)⟩)], [(2, ⟨[true, true, true, false, false, false, false, false, false, false, false, false, false, false, false, false, false, false, false, false, false, false, false, false, false, false, false, false, false], [], (some 0)⟩)]⟩
noncomputable def H46 : Hints := ⟨[(83, sp83), (84, sp84)], [(85, Tryd.f85, fh46_85), (86, Tryd.f86, fh46_86), (94, Tryd.f94, fh46_94)]⟩
noncomputable def F46_46_7 (m n0 : Nat) (y0_0 : Nat) (y0_1 : Option Nat) (y0_2 : List D) (y0_3 : Int) (y0_4 : Int) (y0_5 : List D) : Option D :=
 loopIter [false, true, false, false, false, false, false, true, true, false, false, false, false, false, false, false, false, false, false, false, true, true, true, false, false, false, false, false, false, false, false, false, false, false, false, false, false, false, false, false] 0 2 (codeK Tryd.prog H46.sp 0 (inlK Tryd.prog H46 m 3) m fh46_46 (subc [1, 1, 1, 1, 0, 1, 0, 0] (bodyOf Tryd.f46))) n0 ⟨[.junk, (AV.d (D.list y0_0 y0_1 y0_2)), .junk, .junk, .junk, .junk, .junk, (AV.ptr 0 0), (AV.clo 94 [(AV.ptr 1 0)]), .junk, .junk, .junk, .junk, .junk, .junk, .junk, .junk, .junk, .junk, .junk, (AV.d (D.list y0_0 y0_1 y0_2)), (AV.d (D.v (.int .i64 y0_3))), (AV.d (D.v (.int .i64 y0_4))), .junk, .junk, .junk, .junk, .junk, .junk, .junk, .junk, .junk, .junk, .junk, .junk, .junk, .junk, .junk, .junk, .junk], [(Blk.d 128 y0_5), (Blk.a 1 [(AV.ptr 0 0)])]⟩
  (contK Tryd.prog H46.sp 0 (inlK Tryd.prog H46 m 3) m fh46_46 (endK Tryd.prog Tryd.f46 (fun v L => viewK L 8 v some)) [.block 0, .code (subc [1, 1, 1, 1, 1] (bodyOf Tryd.f46))])
noncomputable def F46_94_0 (m n0 n1 : Nat) (y0_0 : Nat) (y0_1 : Option Nat) (y0_2 : List D) (y0_4 : Int) (x11 : Int) (y0_3 : Int) (y1_0 : Int) (y1_1 : Int) (y1_2 : List D) : Option D :=
 loopIter [true, true, true, false, false, false, false, false, false, false, false, false, false, false, false, false, false, false, false, false, false, false, false, false, false, false, false, false, false] 2 2 (codeK Tryd.prog H46.sp 2 (inlK Tryd.prog H46 m 2) m fh46_94 (subc [0, 0] (bodyOf Tryd.f94))) n1 ⟨[(AV.d (D.v (.int .i64 y1_0))), (AV.d (D.v (.int .i64 y1_1))), (AV.ptr 1 0), .junk, .junk, .junk, .junk, .junk, .junk, .junk, .junk, .junk, .junk, .junk, .junk, .junk, .junk, .junk, .junk, .junk, .junk, .junk, .junk, .junk, .junk, .junk, .junk, .junk, .junk], [(Blk.d 128 y1_2), (Blk.a 1 [(AV.ptr 0 0)])]⟩
  (contK Tryd.prog H46.sp 2 (inlK Tryd.prog H46 m 2) m fh46_94 (endK Tryd.prog Tryd.f94 (fun v L => opsK Tryd.prog H46.sp 0 true (inlK Tryd.prog H46 m 3) (regOps (subc [1, 1, 1, 1, 0, 1, 0, 0, 1, 1, 0, 0, 1] (bodyOf Tryd.f46))) (List.drop 9 (Array.toList (regOps (subc [1, 1, 1, 1, 0, 1, 0, 0, 1, 1, 0, 0, 1] (bodyOf Tryd.f46))))) ⟨setSl [.junk, (AV.d (D.list y0_0 y0_1 y0_2)), .junk, .junk, .junk, .junk, .junk, (AV.ptr 0 0), (AV.clo 94 [(AV.ptr 1 0)]), (AV.d (D.v (.int .i64 y0_4))), (AV.d (D.v (.int .u8 x11))), .junk, .junk, .junk, .junk, .junk, .junk, .junk, .junk, .junk, (AV.d (D.list y0_0 y0_1 y0_2)), (AV.d (D.v (.int .i64 y0_3))), (AV.d (D.v (.int .i64 y0_4))), (AV.d (D.v (.bool true))), (AV.d (D.v (.int .i64 y0_4))), (AV.lp y0_2 ((Int.toNat y0_4) * 1)), (AV.d (D.v (.int .u8 x11))), (AV.clo 94 [(AV.ptr 1 0)]), (AV.d (D.list y0_0 y0_1 y0_2)), (AV.d (D.v (.int .i64 ((y0_0 : Nat) : Int)))), (AV.d (D.v (.int .i64 (IntKind.wrap .i64 (((y0_0 : Nat) : Int) - (1 : Int)))))), (AV.d (D.v (.int .i64 y0_4))), (AV.d (D.v (.int .i64 (IntKind.wrap .i64 ((IntKind.wrap .i64 (((y0_0 : Nat) : Int) - (1 : Int))) - y0_4))))), (AV.d (D.v (.int .u8 x11))), (AV.d (D.v (.int .i64 (IntKind.wrap .i64 x11)))), .junk, .junk, .junk, .junk, .junk] (some 35) v, L⟩ (fun st => contK Tryd.prog H46.sp 0 (inlK Tryd.prog H46 m 3) m fh46_46 (endK Tryd.prog Tryd.f46 (fun v L => viewK L 8 v some)) [.block 1, .code (subc [1, 1, 1, 1, 0, 1, 0, 0, 1, 1, 1] (bodyOf Tryd.f46)), .loop [false, true, false, false, false, false, false, true, true, false, false, false, false, false, false, false, false, false, false, false, true, true, true, false, false, false, false, false, false, false, false, false, false, false, false, false, false, false, false, false] 2 (subc [1, 1, 1, 1, 0, 1, 0, 0] (bodyOf Tryd.f46)) n0, .block 0, .code (subc [1, 1, 1, 1, 1] (bodyOf Tryd.f46))] .normal st))) [.block 0])
noncomputable def F46_94_j2 (m n0 n1 : Nat) (y0_0 : Nat) (y0_1 : Option Nat) (y0_2 : List D) (y0_4 : Int) (x11 : Int) (y0_3 : Int) (u0_0 : Int) (u0_1 : Int) (u0_2 : List D) : Option D :=
 cutK (codeK Tryd.prog H46.sp 2 (inlK Tryd.prog H46 m 2) m fh46_94 (subc [0, 0, 1] (bodyOf Tryd.f94)) ⟨[(AV.d (D.v (.int .i64 u0_0))), (AV.d (D.v (.int .i64 u0_1))), (AV.ptr 1 0), .junk, .junk, .junk, .junk, .junk, .junk, .junk, .junk, .junk, .junk, .junk, .junk, .junk, .junk, .junk, .junk, .junk, .junk, .junk, .junk, .junk, .junk, .junk, .junk, .junk, .junk], [(Blk.d 128 u0_2), (Blk.a 1 [(AV.ptr 0 0)])]⟩
  (contK Tryd.prog H46.sp 2 (inlK Tryd.prog H46 m 2) m fh46_94 (endK Tryd.prog Tryd.f94 (fun v L => opsK Tryd.prog H46.sp 0 true (inlK Tryd.prog H46 m 3) (regOps (subc [1, 1, 1, 1, 0, 1, 0, 0, 1, 1, 0, 0, 1] (bodyOf Tryd.f46))) (List.drop 9 (Array.toList (regOps (subc [1, 1, 1, 1, 0, 1, 0, 0, 1, 1, 0, 0, 1] (bodyOf Tryd.f46))))) ⟨setSl [.junk, (AV.d (D.list y0_0 y0_1 y0_2)), .junk, .junk, .junk, .junk, .junk, (AV.ptr 0 0), (AV.clo 94 [(AV.ptr 1 0)]), (AV.d (D.v (.int .i64 y0_4))), (AV.d (D.v (.int .u8 x11))), .junk, .junk, .junk, .junk, .junk, .junk, .junk, .junk, .junk, (AV.d (D.list y0_0 y0_1 y0_2)), (AV.d (D.v (.int .i64 y0_3))), (AV.d (D.v (.int .i64 y0_4))), (AV.d (D.v (.bool true))), (AV.d (D.v (.int .i64 y0_4))), (AV.lp y0_2 ((Int.toNat y0_4) * 1)), (AV.d (D.v (.int .u8 x11))), (AV.clo 94 [(AV.ptr 1 0)]), (AV.d (D.list y0_0 y0_1 y0_2)), (AV.d (D.v (.int .i64 ((y0_0 : Nat) : Int)))), (AV.d (D.v (.int .i64 (IntKind.wrap .i64 (((y0_0 : Nat) : Int) - (1 : Int)))))), (AV.d (D.v (.int .i64 y0_4))), (AV.d (D.v (.int .i64 (IntKind.wrap .i64 ((IntKind.wrap .i64 (((y0_0 : Nat) : Int) - (1 : Int))) - y0_4))))), (AV.d (D.v (.int .u8 x11))), (AV.d (D.v (.int .i64 (IntKind.wrap .i64 x11)))), .junk, .junk, .junk, .junk, .junk] (some 35) v, L⟩ (fun st => contK Tryd.prog H46.sp 0 (inlK Tryd.prog H46 m 3) m fh46_46 (endK Tryd.prog Tryd.f46 (fun v L => viewK L 8 v some)) [.block 1, .code (subc [1, 1, 1, 1, 0, 1, 0, 0, 1, 1, 1] (bodyOf Tryd.f46)), .loop [false, true, false, false, false, false, false, true, true, false, false, false, false, false, false, false, false, false, false, false, true, true, true, false, false, false, false, false, false, false, false, false, false, false, false, false, false, false, false, false] 2 (subc [1, 1, 1, 1, 0, 1, 0, 0] (bodyOf Tryd.f46)) n0, .block 0, .code (subc [1, 1, 1, 1, 1] (bodyOf Tryd.f46))] .normal st))) [.loop [true, true, true, false, false, false, false, false, false, false, false, false, false, false, false, false, false, false, false, false, false, false, false, false, false, false, false, false, false] 2 (subc [0, 0] (bodyOf Tryd.f94)) n1, .block 0]))
theorem F46_94_j2_e (m n0 n1 : Nat) (y0_0 : Nat) (y0_1 : Option Nat) (y0_2 : List D) (y0_4 : Int) (x11 : Int) (y0_3 : Int) (u0_0 : Int) (u0_1 : Int) (u0_2 : List D) : F46_94_j2 m n0 n1 y0_0 y0_1 y0_2 y0_4 x11 y0_3 u0_0 u0_1 u0_2 =
 (if 0 ≤ u0_0 ∧ u0_0 < (128 : Int) then
 (rdI .u8 u0_2[(0 + ((Int.toNat u0_0) * 1))]?).bind fun x13 =>
 if 0 ≤ u0_0 ∧ u0_0 < (128 : Int) then
 if 1 = 1 ∧ (0 + ((Int.toNat u0_0) * 1)) < 128 then
 F46_94_0 m n0 n1 y0_0 y0_1 y0_2 y0_4 x11 y0_3 (IntKind.wrap .i64 (u0_0 + (1 : Int))) (Int.fdiv (IntKind.wrap .i64 (u0_1 + (IntKind.wrap .i64 x13))) (2 ^ 8)) (List.set u0_2 (0 + ((Int.toNat u0_0) * 1)) (D.v (.int .u8 (IntKind.wrap .u8 (IntKind.wrap .i64 (u0_1 + (IntKind.wrap .i64 x13)))))))
 else none
 else none
 else none) := by kernel_rfl
theorem F46_94_0_0 (m n0 : Nat) (y0_0 : Nat) (y0_1 : Option Nat) (y0_2 : List D) (y0_4 : Int) (x11 : Int) (y0_3 : Int) (y1_0 : Int) (y1_1 : Int) (y1_2 : List D) : F46_94_0 m n0 0 y0_0 y0_1 y0_2 y0_4 x11 y0_3 y1_0 y1_1 y1_2 = none := rfl
theorem F46_94_0_s (m n0 n1 : Nat) (y0_0 : Nat) (y0_1 : Option Nat) (y0_2 : List D) (y0_4 : Int) (x11 : Int) (y0_3 : Int) (y1_0 : Int) (y1_1 : Int) (y1_2 : List D) : F46_94_0 m n0 (n1 + 1) y0_0 y0_1 y0_2 y0_4 x11 y0_3 y1_0 y1_1 y1_2 =
 (cond (decide (y1_1 > (0 : Int)))
 (cond (decide (y1_0 < (128 : Int)))
 (F46_94_j2 m n0 n1 y0_0 y0_1 y0_2 y0_4 x11 y0_3 y1_0 y1_1 y1_2)
 (F46_46_7 m n0 y0_0 y0_1 y0_2 y0_3 (IntKind.wrap .i64 (y0_4 + (1 : Int))) y1_2))
 (F46_46_7 m n0 y0_0 y0_1 y0_2 y0_3 (IntKind.wrap .i64 (y0_4 + (1 : Int))) y1_2)) := by kernel_rfl
noncomputable def F46_86_2 (m n0 : Nat) (y0_0 : Nat) (y0_1 : Option Nat) (y0_2 : List D) (y0_3 : Int) (y0_4 : Int) (y2_0 : Int) (y2_1 : List D) : Option D :=
 loopIter [true, false, false, false, true, false, false, false, false, false, false, false, false, false, false, false, false, false, false, false, false, false, false, false, false, false, false, false, false, false, false, false, false, false, false, false, false, false, false, false, false, false, false, false, false, false] 2 2 (codeK Tryd.prog H46.sp 2 (inlK Tryd.prog H46 m 2) m fh46_86 (subc [1, 1, 0, 0, 0] (bodyOf Tryd.f86))) n0 ⟨[(AV.ptr 0 0), .junk, .junk, .junk, (AV.d (D.v (.int .i64 y2_0))), .junk, .junk, .junk, .junk, .junk, .junk, .junk, .junk, .junk, .junk, .junk, .junk, .junk, .junk, .junk, .junk, .junk, .junk, .junk, .junk, .junk, .junk, .junk, .junk, .junk, .junk, .junk, .junk, .junk, .junk, .junk, .junk, .junk, .junk, .junk, .junk, .junk, .junk, .junk, .junk, .junk], [(Blk.d 128 y2_1), (Blk.a 1 [(AV.ptr 0 0)])]⟩
  (contK Tryd.prog H46.sp 2 (inlK Tryd.prog H46 m 2) m fh46_86 (endK Tryd.prog Tryd.f86 (fun v L => opsK Tryd.prog H46.sp 0 true (inlK Tryd.prog H46 m 3) (regOps (subc [1, 1, 1, 1, 1, 0] (bodyOf Tryd.f46))) (List.drop 1 (Array.toList (regOps (subc [1, 1, 1, 1, 1, 0] (bodyOf Tryd.f46))))) ⟨setSl [.junk, (AV.d (D.list y0_0 y0_1 y0_2)), .junk, .junk, .junk, .junk, .junk, (AV.ptr 0 0), (AV.clo 94 [(AV.ptr 1 0)]), .junk, .junk, .junk, .junk, .junk, .junk, .junk, .junk, .junk, .junk, .junk, (AV.d (D.list y0_0 y0_1 y0_2)), (AV.d (D.v (.int .i64 y0_3))), (AV.d (D.v (.int .i64 y0_4))), (AV.d (D.v (.bool false))), .junk, .junk, .junk, .junk, .junk, .junk, .junk, .junk, .junk, .junk, .junk, .junk, .junk, .junk, .junk, .junk] (some 37) v, L⟩ (fun st => contK Tryd.prog H46.sp 0 (inlK Tryd.prog H46 m 3) m fh46_46 (endK Tryd.prog Tryd.f46 (fun v L => viewK L 8 v some)) [.code (subc [1, 1, 1, 1, 1, 1] (bodyOf Tryd.f46))] .normal st))) [.block 0, .code (subc [1, 1, 1] (bodyOf Tryd.f86))])
noncomputable def F46_86_j3 (m n0 : Nat) (y0_0 : Nat) (y0_1 : Option Nat) (y0_2 : List D) (y0_3 : Int) (y0_4 : Int) (u1_0 : Int) (u1_1 : List D) : Option D :=
 cutK (codeK Tryd.prog H46.sp 2 (inlK Tryd.prog H46 m 2) m fh46_86 (subc [1, 1, 0, 0, 0, 1] (bodyOf Tryd.f86)) ⟨[(AV.ptr 0 0), .junk, .junk, .junk, (AV.d (D.v (.int .i64 u1_0))), .junk, .junk, .junk, .junk, .junk, .junk, .junk, .junk, .junk, .junk, .junk, .junk, .junk, .junk, .junk, .junk, .junk, .junk, .junk, .junk, .junk, .junk, .junk, .junk, .junk, .junk, .junk, .junk, .junk, .junk, .junk, .junk, .junk, .junk, .junk, .junk, .junk, .junk, .junk, .junk, .junk], [(Blk.d 128 u1_1), (Blk.a 1 [(AV.ptr 0 0)])]⟩
  (contK Tryd.prog H46.sp 2 (inlK Tryd.prog H46 m 2) m fh46_86 (endK Tryd.prog Tryd.f86 (fun v L => opsK Tryd.prog H46.sp 0 true (inlK Tryd.prog H46 m 3) (regOps (subc [1, 1, 1, 1, 1, 0] (bodyOf Tryd.f46))) (List.drop 1 (Array.toList (regOps (subc [1, 1, 1, 1, 1, 0] (bodyOf Tryd.f46))))) ⟨setSl [.junk, (AV.d (D.list y0_0 y0_1 y0_2)), .junk, .junk, .junk, .junk, .junk, (AV.ptr 0 0), (AV.clo 94 [(AV.ptr 1 0)]), .junk, .junk, .junk, .junk, .junk, .junk, .junk, .junk, .junk, .junk, .junk, (AV.d (D.list y0_0 y0_1 y0_2)), (AV.d (D.v (.int .i64 y0_3))), (AV.d (D.v (.int .i64 y0_4))), (AV.d (D.v (.bool false))), .junk, .junk, .junk, .junk, .junk, .junk, .junk, .junk, .junk, .junk, .junk, .junk, .junk, .junk, .junk, .junk] (some 37) v, L⟩ (fun st => contK Tryd.prog H46.sp 0 (inlK Tryd.prog H46 m 3) m fh46_46 (endK Tryd.prog Tryd.f46 (fun v L => viewK L 8 v some)) [.code (subc [1, 1, 1, 1, 1, 1] (bodyOf Tryd.f46))] .normal st))) [.loop [true, false, false, false, true, false, false, false, false, false, false, false, false, false, false, false, false, false, false, false, false, false, false, false, false, false, false, false, false, false, false, false, false, false, false, false, false, false, false, false, false, false, false, false, false, false] 2 (subc [1, 1, 0, 0, 0] (bodyOf Tryd.f86)) n0, .block 0, .code (subc [1, 1, 1] (bodyOf Tryd.f86))]))
theorem F46_86_j3_e (m n0 : Nat) (y0_0 : Nat) (y0_1 : Option Nat) (y0_2 : List D) (y0_3 : Int) (y0_4 : Int) (u1_0 : Int) (u1_1 : List D) : F46_86_j3 m n0 y0_0 y0_1 y0_2 y0_3 y0_4 u1_0 u1_1 =
 (F46_86_2 m n0 y0_0 y0_1 y0_2 y0_3 y0_4 (IntKind.wrap .i64 (u1_0 - (1 : Int))) u1_1) := by kernel_rfl
noncomputable def F46_86_j4 (m : Nat) (y0_0 : Nat) (y0_1 : Option Nat) (y0_2 : List D) (y0_3 : Int) (y0_4 : Int) (u2_0 : Int) (u2_1 : List D) : Option D :=
 cutK (codeK Tryd.prog H46.sp 2 (inlK Tryd.prog H46 m 2) m fh46_86 (subc [1, 1, 1] (bodyOf Tryd.f86)) ⟨[(AV.ptr 0 0), .junk, .junk, .junk, (AV.d (D.v (.int .i64 u2_0))), .junk, .junk, .junk, .junk, .junk, .junk, .junk, .junk, .junk, .junk, .junk, .junk, .junk, .junk, .junk, .junk, .junk, .junk, .junk, .junk, .junk, .junk, .junk, .junk, .junk, .junk, .junk, .junk, .junk, .junk, .junk, .junk, .junk, .junk, .junk, .junk, .junk, .junk, .junk, .junk, .junk], [(Blk.d 128 u2_1), (Blk.a 1 [(AV.ptr 0 0)])]⟩
  (contK Tryd.prog H46.sp 2 (inlK Tryd.prog H46 m 2) m fh46_86 (endK Tryd.prog Tryd.f86 (fun v L => opsK Tryd.prog H46.sp 0 true (inlK Tryd.prog H46 m 3) (regOps (subc [1, 1, 1, 1, 1, 0] (bodyOf Tryd.f46))) (List.drop 1 (Array.toList (regOps (subc [1, 1, 1, 1, 1, 0] (bodyOf Tryd.f46))))) ⟨setSl [.junk, (AV.d (D.list y0_0 y0_1 y0_2)), .junk, .junk, .junk, .junk, .junk, (AV.ptr 0 0), (AV.clo 94 [(AV.ptr 1 0)]), .junk, .junk, .junk, .junk, .junk, .junk, .junk, .junk, .junk, .junk, .junk, (AV.d (D.list y0_0 y0_1 y0_2)), (AV.d (D.v (.int .i64 y0_3))), (AV.d (D.v (.int .i64 y0_4))), (AV.d (D.v (.bool false))), .junk, .junk, .junk, .junk, .junk, .junk, .junk, .junk, .junk, .junk, .junk, .junk, .junk, .junk, .junk, .junk] (some 37) v, L⟩ (fun st => contK Tryd.prog H46.sp 0 (inlK Tryd.prog H46 m 3) m fh46_46 (endK Tryd.prog Tryd.f46 (fun v L => viewK L 8 v some)) [.code (subc [1, 1, 1, 1, 1, 1] (bodyOf Tryd.f46))] .normal st))) []))
noncomputable def F46_86_8 (m n0 : Nat) (y0_0 : Nat) (y0_1 : Option Nat) (y0_2 : List D) (y0_3 : Int) (y0_4 : Int) (y3_0 : Int) (y3_1 : Nat) (y3_2 : Int) (y3_3 : Int) (y3_4 : List D) (y3_5 : List D) : Option D :=
 loopIter [false, false, false, false, true, true, false, false, false, false, false, false, false, false, false, false, false, false, false, false, false, false, false, false, false, false, false, true, true, true, false, false, false, false, false, false, false, false, false, false, false, false, false, false, false, false] 2 3 (codeK Tryd.prog H46.sp 2 (inlK Tryd.prog H46 m 2) m fh46_86 (subc [1, 1, 1, 1, 1, 0, 1, 0, 0] (bodyOf Tryd.f86))) n0 ⟨[.junk, .junk, .junk, .junk, (AV.d (D.v (.int .i64 y3_0))), (AV.sl 2 0 128 (some 128) 1), .junk, .junk, .junk, .junk, .junk, .junk, .junk, .junk, .junk, .junk, .junk, .junk, .junk, .junk, .junk, .junk, .junk, .junk, .junk, .junk, .junk, (AV.sl 0 0 y3_1 (some 128) 1), (AV.d (D.v (.int .i64 y3_2))), (AV.d (D.v (.int .i64 y3_3))), .junk, .junk, .junk, .junk, .junk, .junk, .junk, .junk, .junk, .junk, .junk, .junk, .junk, .junk, .junk, .junk], [(Blk.d 128 y3_4), (Blk.a 1 [(AV.ptr 0 0)]), (Blk.d 128 y3_5)]⟩
  (contK Tryd.prog H46.sp 2 (inlK Tryd.prog H46 m 2) m fh46_86 (endK Tryd.prog Tryd.f86 (fun v L => opsK Tryd.prog H46.sp 0 true (inlK Tryd.prog H46 m 3) (regOps (subc [1, 1, 1, 1, 1, 0] (bodyOf Tryd.f46))) (List.drop 1 (Array.toList (regOps (subc [1, 1, 1, 1, 1, 0] (bodyOf Tryd.f46))))) ⟨setSl [.junk, (AV.d (D.list y0_0 y0_1 y0_2)), .junk, .junk, .junk, .junk, .junk, (AV.ptr 0 0), (AV.clo 94 [(AV.ptr 1 0)]), .junk, .junk, .junk, .junk, .junk, .junk, .junk, .junk, .junk, .junk, .junk, (AV.d (D.list y0_0 y0_1 y0_2)), (AV.d (D.v (.int .i64 y0_3))), (AV.d (D.v (.int .i64 y0_4))), (AV.d (D.v (.bool false))), .junk, .junk, .junk, .junk, .junk, .junk, .junk, .junk, .junk, .junk, .junk, .junk, .junk, .junk, .junk, .junk] (some 37) v, L⟩ (fun st => contK Tryd.prog H46.sp 0 (inlK Tryd.prog H46 m 3) m fh46_46 (endK Tryd.prog Tryd.f46 (fun v L => viewK L 8 v some)) [.code (subc [1, 1, 1, 1, 1, 1] (bodyOf Tryd.f46))] .normal st))) [.block 2, .code (subc [1, 1, 1, 1, 1, 1] (bodyOf Tryd.f86))])
theorem F46_86_8_0 (m : Nat) (y0_0 : Nat) (y0_1 : Option Nat) (y0_2 : List D) (y0_3 : Int) (y0_4 : Int) (y3_0 : Int) (y3_1 : Nat) (y3_2 : Int) (y3_3 : Int) (y3_4 : List D) (y3_5 : List D) : F46_86_8 m 0 y0_0 y0_1 y0_2 y0_3 y0_4 y3_0 y3_1 y3_2 y3_3 y3_4 y3_5 = none := rfl
theorem F46_86_8_s (m n0 : Nat) (y0_0 : Nat) (y0_1 : Option Nat) (y0_2 : List D) (y0_3 : Int) (y0_4 : Int) (y3_0 : Int) (y3_1 : Nat) (y3_2 : Int) (y3_3 : Int) (y3_4 : List D) (y3_5 : List D) : F46_86_8 m (n0 + 1) y0_0 y0_1 y0_2 y0_3 y0_4 y3_0 y3_1 y3_2 y3_3 y3_4 y3_5 =
 (cond (decide (y3_3 < y3_2))
 (if 0 ≤ y3_3 ∧ y3_3 < ((y3_1 : Nat) : Int) then
 (rdI .u8 y3_4[(0 + ((Int.toNat y3_3) * 1))]?).bind fun x19 =>
 if 0 ≤ (IntKind.wrap .i64 ((IntKind.wrap .i64 (y3_0 - (1 : Int))) - y3_3)) ∧ (IntKind.wrap .i64 ((IntKind.wrap .i64 (y3_0 - (1 : Int))) - y3_3)) < (128 : Int) then
 if 1 = 1 ∧ (0 + ((Int.toNat (IntKind.wrap .i64 ((IntKind.wrap .i64 (y3_0 - (1 : Int))) - y3_3))) * 1)) < 128 then
 F46_86_8 m n0 y0_0 y0_1 y0_2 y0_3 y0_4 y3_0 y3_1 y3_2 (IntKind.wrap .i64 (y3_3 + (1 : Int))) y3_4 (List.set y3_5 (0 + ((Int.toNat (IntKind.wrap .i64 ((IntKind.wrap .i64 (y3_0 - (1 : Int))) - y3_3))) * 1)) (D.v (.int .u8 x19)))
 else none
 else none
 else none)
 (if 0 ≤ y3_0 ∧ y3_0 ≤ (128 : Int) then
 if 0 ≤ y3_0 ∧ y3_0 ≤ (((Int.toNat y3_0) : Nat) : Int) then
 if (0 + (((Int.toNat y3_0) - 0) * 1)) ≤ 128 then
 some (D.tup [(D.list ((Int.toNat y3_0) - 0) (some ((Int.toNat y3_0) - 0)) (cutL 128 y3_5 0 (((Int.toNat y3_0) - 0) * 1))), (D.v (.int .i64 (0 : Int)))])
 else none
 else none
 else none)) := by kernel_rfl
theorem F46_86_j4_e (m : Nat) (y0_0 : Nat) (y0_1 : Option Nat) (y0_2 : List D) (y0_3 : Int) (y0_4 : Int) (u2_0 : Int) (u2_1 : List D) : F46_86_j4 m y0_0 y0_1 y0_2 y0_3 y0_4 u2_0 u2_1 =
 (cond (decide (u2_0 > (64 : Int)))
 (some (D.tup [(D.list 0 (some 0) []), (D.v (.int .i64 (3 : Int)))]))
 (if 0 ≤ u2_0 ∧ u2_0 ≤ (128 : Int) then
 F46_86_8 m m y0_0 y0_1 y0_2 y0_3 y0_4 u2_0 ((Int.toNat u2_0) - 0) ((((Int.toNat u2_0) - 0) : Nat) : Int) (0 : Int) u2_1 (List.replicate 128 (D.v (.int .u8 (0 : Int))))
 else none)) := by kernel_rfl
theorem F46_86_2_0 (m : Nat) (y0_0 : Nat) (y0_1 : Option Nat) (y0_2 : List D) (y0_3 : Int) (y0_4 : Int) (y2_0 : Int) (y2_1 : List D) : F46_86_2 m 0 y0_0 y0_1 y0_2 y0_3 y0_4 y2_0 y2_1 = none := rfl
theorem F46_86_2_s (m n0 : Nat) (y0_0 : Nat) (y0_1 : Option Nat) (y0_2 : List D) (y0_3 : Int) (y0_4 : Int) (y2_0 : Int) (y2_1 : List D) : F46_86_2 m (n0 + 1) y0_0 y0_1 y0_2 y0_3 y0_4 y2_0 y2_1 =
 (cond (decide (y2_0 > (0 : Int)))
 (if 0 ≤ (IntKind.wrap .i64 (y2_0 - (1 : Int))) ∧ (IntKind.wrap .i64 (y2_0 - (1 : Int))) < (128 : Int) then
 (rdI .u8 y2_1[(0 + ((Int.toNat (IntKind.wrap .i64 (y2_0 - (1 : Int)))) * 1))]?).bind fun x16 =>
 cond (x16 == (0 : Int))
 (F46_86_j3 m n0 y0_0 y0_1 y0_2 y0_3 y0_4 y2_0 y2_1)
 (F46_86_j4 m y0_0 y0_1 y0_2 y0_3 y0_4 y2_0 y2_1)
 else none)
 (F46_86_j4 m y0_0 y0_1 y0_2 y0_3 y0_4 y2_0 y2_1)) := by kernel_rfl
theorem F46_46_7_0 (m : Nat) (y0_0 : Nat) (y0_1 : Option Nat) (y0_2 : List D) (y0_3 : Int) (y0_4 : Int) (y0_5 : List D) : F46_46_7 m 0 y0_0 y0_1 y0_2 y0_3 y0_4 y0_5 = none := rfl
theorem F46_46_7_s (m n0 : Nat) (y0_0 : Nat) (y0_1 : Option Nat) (y0_2 : List D) (y0_3 : Int) (y0_4 : Int) (y0_5 : List D) : F46_46_7 m (n0 + 1) y0_0 y0_1 y0_2 y0_3 y0_4 y0_5 =
 (cond (decide (y0_4 < y0_3))
 (if 0 ≤ y0_4 ∧ y0_4 < ((y0_0 : Nat) : Int) then
 (rdI .u8 y0_2[((Int.toNat y0_4) * 1)]?).bind fun x11 =>
 F46_94_0 m n0 m y0_0 y0_1 y0_2 y0_4 x11 y0_3 (IntKind.wrap .i64 ((IntKind.wrap .i64 (((y0_0 : Nat) : Int) - (1 : Int))) - y0_4)) (IntKind.wrap .i64 x11) y0_5
 else none)
 (F46_86_2 m m y0_0 y0_1 y0_2 y0_3 y0_4 (128 : Int) y0_5)) := by kernel_rfl
noncomputable def F46 (m : Nat) (a0n : Nat) (a0c : Option Nat) (a0 : List D) (a1n : Nat) (a1c : Option Nat) (a1 : List D) : Option D :=
 (sp83 [(D.list a0n a0c a0), (D.list a1n a1c a1)]).bind fun d1 =>
 (rdI .i64 (some d1)).bind fun x2 =>
 cond (x2 != (0 : Int))
 (some (D.tup [(D.list 0 (some 0) []), (D.v (.int .i64 x2))]))
 ((sp84 [(D.list a0n a0c a0)]).bind fun d3 =>
 (rdA (some d3)).bind fun c4 =>
 if (List.length c4) = 128 then
 F46_46_7 m m a1n a1c a1 ((a1n : Nat) : Int) (0 : Int) c4
 else none)
theorem F46_eq (m : Nat) (a0n : Nat) (a0c : Option Nat) (a0 : List D) (a1n : Nat) (a1c : Option Nat) (a1 : List D) : funD Tryd.prog H46 m 3 fh46_46 Tryd.f46 [(D.list a0n a0c a0), (D.list a1n a1c a1)] = F46 m a0n a0c a0 a1n a1c a1 := by kernel_rfl
theorem en46 : Enters Tryd.prog 46 := ⟨Tryd.f46, Tryd.func46, by kernel_rfl, by kernel_rfl⟩
theorem dt46 {ds : List D} {d : D} (h : funD Tryd.prog H46 M 3 fh46_46 Tryd.f46 ds = some d) : DataSem Tryd.prog 46 ds d := data_sound (H := H46) (SpOk.cons ds83 (SpOk.cons ds84 SpOk.nil)) mixed (InlOk.cons Tryd.func85 en85 (InlOk.cons Tryd.func86 en86 (InlOk.cons Tryd.func94 en94 InlOk.nil))) Tryd.func46 en46 h
noncomputable def sp46 : List D → Option D
  | [.list a0n a0c a0, .list a1n a1c a1] => F46 M a0n a0c a0 a1n a1c a1
  | _ => none
theorem ds46 : ∀ ds d, sp46 ds = some d → DataSem Tryd.prog 46 ds d := by
  intro ds d h
  unfold sp46 at h
  split at h
  · exact dt46 ((F46_eq M _ _ _ _ _ _).trans h)
  · cases h

-- ('str', '"vidimus/nats.Compare"')
def fh61_61 : FnH := ⟨[], []⟩
def fh61_91 : FnH := ⟨[], []⟩
noncomputable def H61 : Hints := ⟨[(92, sp92), (95, sp95)], [(91, Tryd.f91, fh61_91)]⟩
noncomputable def F61 (m : Nat) (a0n : Nat) (a0c : Option Nat) (a0 : List D) (a1n : Nat) (a1c : Option Nat) (a1 : List D) : Option D :=
 cond (((a0n : Nat) : Int) == (0 : Int))
 (cond (((a1n : Nat) : Int) == (0 : Int))
 ((sp92 [(D.list 0 (some 0) []), (D.list 0 (some 0) [])]).bind fun d1 =>
 (rdI .i64 (some d1)).bind fun x2 =>
 some (D.v (.int .i64 x2)))
 (cond (ByteArray.toList (ByteArray.mk #[0]) == ByteArray.toList (ByteArray.mk #[]))
 (cond (decide ((0 : Int) < ((a1n : Nat) : Int)))
 (some (D.v (.int .i64 (-1 : Int))))
 (cond (decide ((0 : Int) > ((a1n : Nat) : Int)))
 (some (D.v (.int .i64 (1 : Int))))
 ((sp92 [(D.list 0 (some 0) []), (D.list a1n a1c a1)]).bind fun d3 =>
 (rdI .i64 (some d3)).bind fun x4 =>
 some (D.v (.int .i64 x4)))))
 ((sp95 [(D.list a1n a1c a1), (D.v (.int .u8 (0 : Int)))]).bind fun d5 =>
 (rdL (some d5)).bind fun q6 =>
 cond (decide ((0 : Int) < ((q6.n : Nat) : Int)))
 (some (D.v (.int .i64 (-1 : Int))))
 (cond (decide ((0 : Int) > ((q6.n : Nat) : Int)))
 (some (D.v (.int .i64 (1 : Int))))
 ((sp92 [(D.list 0 (some 0) []), (D.list q6.n q6.cap q6.cs)]).bind fun d7 =>
 (rdI .i64 (some d7)).bind fun x8 =>
 some (D.v (.int .i64 x8)))))))
 (cond (ByteArray.toList (ByteArray.mk #[0]) == ByteArray.toList (ByteArray.mk #[]))
 (cond (((a1n : Nat) : Int) == (0 : Int))
 (cond (decide (((a0n : Nat) : Int) < (0 : Int)))
 (some (D.v (.int .i64 (-1 : Int))))
 (cond (decide (((a0n : Nat) : Int) > (0 : Int)))
 (some (D.v (.int .i64 (1 : Int))))
 ((sp92 [(D.list a0n a0c a0), (D.list 0 (some 0) [])]).bind fun d9 =>
 (rdI .i64 (some d9)).bind fun x10 =>
 some (D.v (.int .i64 x10)))))
 (cond (ByteArray.toList (ByteArray.mk #[0]) == ByteArray.toList (ByteArray.mk #[]))
 (cond (decide (((a0n : Nat) : Int) < ((a1n : Nat) : Int)))
 (some (D.v (.int .i64 (-1 : Int))))
 (cond (decide (((a0n : Nat) : Int) > ((a1n : Nat) : Int)))
 (some (D.v (.int .i64 (1 : Int))))
 ((sp92 [(D.list a0n a0c a0), (D.list a1n a1c a1)]).bind fun d11 =>
 (rdI .i64 (some d11)).bind fun x12 =>
 some (D.v (.int .i64 x12)))))
 ((sp95 [(D.list a1n a1c a1), (D.v (.int .u8 (0 : Int)))]).bind fun d13 =>
 (rdL (some d13)).bind fun q14 =>
 cond (decide (((a0n : Nat) : Int) < ((q14.n : Nat) : Int)))
 (some (D.v (.int .i64 (-1 : Int))))
 (cond (decide (((a0n : Nat) : Int) > ((q14.n : Nat) : Int)))
 (some (D.v (.int .i64 (1 : Int))))
 ((sp92 [(D.list a0n a0c a0), (D.list q14.n q14.cap q14.cs)]).bind fun d15 =>
 (rdI .i64 (some d15)).bind fun x16 =>
 some (D.v (.int .i64 x16)))))))
 ((sp95 [(D.list a0n a0c a0), (D.v (.int .u8 (0 : Int)))]).bind fun d17 =>
 (rdL (some d17)).bind fun q18 =>
 cond (((a1n : Nat) : Int) == (0 : Int))
 (cond (decide (((q18.n : Nat) : Int) < (0 : Int)))
 (some (D.v (.int .i64 (-1 : Int))))
 (cond (decide (((q18.n : Nat) : Int) > (0 : Int)))
 (some (D.v (.int .i64 (1 : Int))))
 ((sp92 [(D.list q18.n q18.cap q18.cs), (D.list 0 (some 0) [])]).bind fun d19 =>
 (rdI .i64 (some d19)).bind fun x20 =>
 some (D.v (.int .i64 x20)))))
 (cond (ByteArray.toList (ByteArray.mk #[0]) == ByteArray.toList (ByteArray.mk #[]))
 (cond (decide (((q18.n : Nat) : Int) < ((a1n : Nat) : Int)))
 (some (D.v (.int .i64 (-1 : Int))))
 (cond (decide (((q18.n : Nat) : Int) > ((a1n : Nat) : Int)))
 (some (D.v (.int .i64 (1 : Int))))
 ((sp92 [(D.list q18.n q18.cap q18.cs), (D.list a1n a1c a1)]).bind fun d21 =>
 (rdI .i64 (some d21)).bind fun x22 =>
 some (D.v (.int .i64 x22)))))
 ((sp95 [(D.list a1n a1c a1), (D.v (.int .u8 (0 : Int)))]).bind fun d23 =>
 (rdL (some d23)).bind fun q24 =>
 cond (decide (((q18.n : Nat) : Int) < ((q24.n : Nat) : Int)))
 (some (D.v (.int .i64 (-1 : Int))))
 (cond (decide (((q18.n : Nat) : Int) > ((q24.n : Nat) : Int)))
 (some (D.v (.int .i64 (1 : Int))))
 ((sp92 [(D.list q18.n q18.cap q18.cs), (D.list q24.n q24.cap q24.cs)]).bind fun d25 =>
 (rdI .i64 (some d25)).bind fun x26 =>
 some (D.v (.int .i64 x26))))))))
theorem F61_eq (m : Nat) (a0n : Nat) (a0c : Option Nat) (a0 : List D) (a1n : Nat) (a1c : Option Nat) (a1 : List D) : funD Tryd.prog H61 m 3 fh61_61 Tryd.f61 [(D.list a0n a0c a0), (D.list a1n a1c a1)] = F61 m a0n a0c a0 a1n a1c a1 := by kernel_rfl
theorem en61 : Enters Tryd.prog 61 := ⟨Tryd.f61, Tryd.func61, by kernel_rfl, by kernel_rfl⟩
theorem dt61 {ds : List D} {d : D} (h : funD Tryd.prog H61 M 3 fh61_61 Tryd.f61 ds = some d) : DataSem Tryd.prog 61 ds d := data_sound (H := H61) (SpOk.cons ds92 (SpOk.cons ds95 SpOk.nil)) mixed (InlOk.cons Tryd.func91 en91 InlOk.nil) Tryd.func61 en61 h
noncomputable def sp61 : List D → Option D
  | [.list a0n a0c a0, .list a1n a1c a1] => F61 M a0n a0c a0 a1n a1c a1
  | _ => none
theorem ds61 : ∀ ds d, sp61 ds = some d → DataSem Tryd.prog 61 ds d := by
  intro ds d h
  unfold sp61 at h
  split at h
  · exact dt61 ((F61_eq M _ _ _ _ _ _).trans h)
  · cases h

-- ('str', '"vidimus/nats.Sub"')
def fh50_50 : FnH := ⟨[(9, ⟨[false, false, false, false, false, false, false, true, true, true, false, false, false, false, false, false, false, false, false, false, false, false, false, false, false, false, true, false, false, false, false, false, false, false, false, false, false, false, false, false, false, false, false, false, false, false, false, false, false, false, false, false], [], (some 2)⟩)], [(15, ⟨[false, false, false, false, false, false, false, true, true, true, true, true, false, false, false, false, false, false, false, false, false, false, false, false, false, false, true, false, false, false, false, false, false, false, false, false, false, false, false, false, false, false, false, false, false, false, false, false, false, false, false, false], [], (some 2)⟩)]⟩
def fh50_86 : FnH := ⟨[(2, ⟨[true, false, false, false, true, false, false, false, false, false, false, false, false, false, false, false, false, false, false, false, false, false, false, false, false, false, false, false, false, false, false, false, false, false, false, false, false, false, false, false, false, false, false, false, false, false], [], (some 0)⟩), (8, ⟨[false, false, false, false, true, true, false, false, false, false, false, false, false, false, false, false, false, false, false, false, false, false, false, false, false, false, false, true, true, true, false, false, false, false, false, false, false, false, false, false, false, false, false, false, false, false], [], (some 1)⟩)], [(3, ⟨[true, false, false, false, true, false, false, false, false, false, false, false, false, false, false, false, false, false, false, false, false, false, false, false, false, false, false, false, false, false, false, false, false, false, false, false, false, false, false, false, false, false, false, false, false, false], [], (some 0)⟩), (4, ⟨[true, false, false, false, true, false, false, false, false, false, false, false, false, false, false, false, false, false, false, false, false, false, false, false, false, false, false, false, false, false, false, false, false, false, false, false, false, false, false, false, false, false, false, false, false, false], [], (some 0)⟩)]⟩
noncomputable def H50 : Hints := ⟨[(61, sp61), (83, sp83), (84, sp84)], [(86, Tryd.f86, fh50_86)]⟩
noncomputable def F50_50_9 (m n0 : Nat) (y0_0 : Int) (y0_1 : Int) (y0_2 : List D) (y0_3 : List D) : Option D :=
 loopIter [false, false, false, false, false, false, false, true, true, true, false, false, false, false, false, false, false, false, false, false, false, false, false, false, false, false, true, false, false, false, false, false, false, false, false, false, false, false, false, false, false, false, false, false, false, false, false, false, false, false, false, false] 0 2 (codeK Tryd.prog H50.sp 0 (inlK Tryd.prog H50 m 3) m fh50_50 (subc [1, 1, 1, 1, 1, 0, 1, 0, 0] (bodyOf Tryd.f50))) n0 ⟨[.junk, .junk, .junk, .junk, .junk, .junk, .junk, (AV.ptr 0 0), (AV.ptr 1 0), (AV.d (D.v (.int .i64 y0_0))), .junk, .junk, .junk, .junk, .junk, .junk, .junk, .junk, .junk, .junk, .junk, .junk, .junk, .junk, .junk, .junk, (AV.d (D.v (.int .i64 y0_1))), .junk, .junk, .junk, .junk, .junk, .junk, .junk, .junk, .junk, .junk, .junk, .junk, .junk, .junk, .junk, .junk, .junk, .junk, .junk, .junk, .junk, .junk, .junk, .junk, .junk], [(Blk.d 128 y0_2), (Blk.d 128 y0_3)]⟩
  (contK Tryd.prog H50.sp 0 (inlK Tryd.prog H50 m 3) m fh50_50 (endK Tryd.prog Tryd.f50 (fun v L => viewK L 8 v some)) [.block 0, .code (subc [1, 1, 1, 1, 1, 1] (bodyOf Tryd.f50))])
noncomputable def F50_50_j15 (m n0 : Nat) (u0_0 : Int) (u0_1 : Int) (u0_2 : Int) (u0_3 : Int) (u0_4 : List D) (u0_5 : List D) : Option D :=
 cutK (codeK Tryd.prog H50.sp 0 (inlK Tryd.prog H50 m 3) m fh50_50 (subc [1, 1, 1, 1, 1, 0, 1, 0, 0, 1, 1, 0, 0, 1, 1, 1, 1] (bodyOf Tryd.f50)) ⟨[.junk, .junk, .junk, .junk, .junk, .junk, .junk, (AV.ptr 0 0), (AV.ptr 1 0), (AV.d (D.v (.int .i64 u0_0))), (AV.d (D.v (.int .i64 u0_1))), (AV.d (D.v (.int .i64 u0_2))), .junk, .junk, .junk, .junk, .junk, .junk, .junk, .junk, .junk, .junk, .junk, .junk, .junk, .junk, (AV.d (D.v (.int .i64 u0_3))), .junk, .junk, .junk, .junk, .junk, .junk, .junk, .junk, .junk, .junk, .junk, .junk, .junk, .junk, .junk, .junk, .junk, .junk, .junk, .junk, .junk, .junk, .junk, .junk, .junk], [(Blk.d 128 u0_4), (Blk.d 128 u0_5)]⟩
  (contK Tryd.prog H50.sp 0 (inlK Tryd.prog H50 m 3) m fh50_50 (endK Tryd.prog Tryd.f50 (fun v L => viewK L 8 v some)) [.block 1, .code (subc [1, 1, 1, 1, 1, 0, 1, 0, 0, 1, 1, 1] (bodyOf Tryd.f50)), .loop [false, false, false, false, false, false, false, true, true, true, false, false, false, false, false, false, false, false, false, false, false, false, false, false, false, false, true, false, false, false, false, false, false, false, false, false, false, false, false, false, false, false, false, false, false, false, false, false, false, false, false, false] 2 (subc [1, 1, 1, 1, 1, 0, 1, 0, 0] (bodyOf Tryd.f50)) n0, .block 0, .code (subc [1, 1, 1, 1, 1, 1] (bodyOf Tryd.f50))]))
theorem F50_50_j15_e (m n0 : Nat) (u0_0 : Int) (u0_1 : Int) (u0_2 : Int) (u0_3 : Int) (u0_4 : List D) (u0_5 : List D) : F50_50_j15 m n0 u0_0 u0_1 u0_2 u0_3 u0_4 u0_5 =
 (if 0 ≤ u0_1 ∧ u0_1 < (128 : Int) then
 if 1 = 1 ∧ (0 + ((Int.toNat u0_1) * 1)) < 128 then
 F50_50_9 m n0 u0_0 (IntKind.wrap .i64 (u0_3 + (1 : Int))) (List.set u0_4 (0 + ((Int.toNat u0_1) * 1)) (D.v (.int .u8 (IntKind.wrap .u8 u0_2)))) u0_5
 else none
 else none) := by kernel_rfl
noncomputable def F50_86_2 (m n0 : Nat) (y0_0 : Int) (y0_1 : Int) (y1_0 : Int) (y1_1 : List D) (y1_2 : List D) : Option D :=
 loopIter [true, false, false, false, true, false, false, false, false, false, false, false, false, false, false, false, false, false, false, false, false, false, false, false, false, false, false, false, false, false, false, false, false, false, false, false, false, false, false, false, false, false, false, false, false, false] 2 2 (codeK Tryd.prog H50.sp 2 (inlK Tryd.prog H50 m 2) m fh50_86 (subc [1, 1, 0, 0, 0] (bodyOf Tryd.f86))) n0 ⟨[(AV.ptr 0 0), .junk, .junk, .junk, (AV.d (D.v (.int .i64 y1_0))), .junk, .junk, .junk, .junk, .junk, .junk, .junk, .junk, .junk, .junk, .junk, .junk, .junk, .junk, .junk, .junk, .junk, .junk, .junk, .junk, .junk, .junk, .junk, .junk, .junk, .junk, .junk, .junk, .junk, .junk, .junk, .junk, .junk, .junk, .junk, .junk, .junk, .junk, .junk, .junk, .junk], [(Blk.d 128 y1_1), (Blk.d 128 y1_2)]⟩
  (contK Tryd.prog H50.sp 2 (inlK Tryd.prog H50 m 2) m fh50_86 (endK Tryd.prog Tryd.f86 (fun v L => opsK Tryd.prog H50.sp 0 true (inlK Tryd.prog H50 m 3) (regOps (subc [1, 1, 1, 1, 1, 1, 0] (bodyOf Tryd.f50))) (List.drop 1 (Array.toList (regOps (subc [1, 1, 1, 1, 1, 1, 0] (bodyOf Tryd.f50))))) ⟨setSl [.junk, .junk, .junk, .junk, .junk, .junk, .junk, (AV.ptr 0 0), (AV.ptr 1 0), (AV.d (D.v (.int .i64 y0_0))), .junk, .junk, .junk, .junk, .junk, .junk, .junk, .junk, .junk, .junk, .junk, .junk, .junk, .junk, .junk, .junk, (AV.d (D.v (.int .i64 y0_1))), (AV.d (D.v (.bool false))), .junk, .junk, .junk, .junk, .junk, .junk, .junk, .junk, .junk, .junk, .junk, .junk, .junk, .junk, .junk, .junk, .junk, .junk, .junk, .junk, .junk, .junk, .junk, .junk] (some 49) v, L⟩ (fun st => contK Tryd.prog H50.sp 0 (inlK Tryd.prog H50 m 3) m fh50_50 (endK Tryd.prog Tryd.f50 (fun v L => viewK L 8 v some)) [.code (subc [1, 1, 1, 1, 1, 1, 1] (bodyOf Tryd.f50))] .normal st))) [.block 0, .code (subc [1, 1, 1] (bodyOf Tryd.f86))])
noncomputable def F50_86_j3 (m n0 : Nat) (y0_0 : Int) (y0_1 : Int) (u1_0 : Int) (u1_1 : List D) (u1_2 : List D) : Option D :=
 cutK (codeK Tryd.prog H50.sp 2 (inlK Tryd.prog H50 m 2) m fh50_86 (subc [1, 1, 0, 0, 0, 1] (bodyOf Tryd.f86)) ⟨[(AV.ptr 0 0), .junk, .junk, .junk, (AV.d (D.v (.int .i64 u1_0))), .junk, .junk, .junk, .junk, .junk, .junk, .junk, .junk, .junk, .junk, .junk, .junk, .junk, .junk, .junk, .junk, .junk, .junk, .junk, .junk, .junk, .junk, .junk, .junk, .junk, .junk, .junk, .junk, .junk, .junk, .junk, .junk, .junk, .junk, .junk, .junk, .junk, .junk, .junk, .junk, .junk], [(Blk.d 128 u1_1), (Blk.d 128 u1_2)]⟩
  (contK Tryd.prog H50.sp 2 (inlK Tryd.prog H50 m 2) m fh50_86 (endK Tryd.prog Tryd.f86 (fun v L => opsK Tryd.prog H50.sp 0 true (inlK Tryd.prog H50 m 3) (regOps (subc [1, 1, 1, 1, 1, 1, 0] (bodyOf Tryd.f50))) (List.drop 1 (Array.toList (regOps (subc [1, 1, 1, 1, 1, 1, 0] (bodyOf Tryd.f50))))) ⟨setSl [.junk, .junk, .junk, .junk, .junk, .junk, .junk, (AV.ptr 0 0), (AV.ptr 1 0), (AV.d (D.v (.int .i64 y0_0))), .junk, .junk, .junk, .junk, .junk, .junk, .junk, .junk, .junk, .junk, .junk, .junk, .junk, .junk, .junk, .junk, (AV.d (D.v (.int .i64 y0_1))), (AV.d (D.v (.bool false))), .junk, .junk, .junk, .junk, .junk, .junk, .junk, .junk, .junk, .junk, .junk, .junk, .junk, .junk, .junk, .junk, .junk, .junk, .junk, .junk, .junk, .junk, .junk, .junk] (some 49) v, L⟩ (fun st => contK Tryd.prog H50.sp 0 (inlK Tryd.prog H50 m 3) m fh50_50 (endK Tryd.prog Tryd.f50 (fun v L => viewK L 8 v some)) [.code (subc [1, 1, 1, 1, 1, 1, 1] (bodyOf Tryd.f50))] .normal st))) [.loop [true, false, false, false, true, false, false, false, false, false, false, false, false, false, false, false, false, false, false, false, false, false, false, false, false, false, false, false, false, false, false, false, false, false, false, false, false, false, false, false, false, false, false, false, false, false] 2 (subc [1, 1, 0, 0, 0] (bodyOf Tryd.f86)) n0, .block 0, .code (subc [1, 1, 1] (bodyOf Tryd.f86))]))
theorem F50_86_j3_e (m n0 : Nat) (y0_0 : Int) (y0_1 : Int) (u1_0 : Int) (u1_1 : List D) (u1_2 : List D) : F50_86_j3 m n0 y0_0 y0_1 u1_0 u1_1 u1_2 =
 (F50_86_2 m n0 y0_0 y0_1 (IntKind.wrap .i64 (u1_0 - (1 : Int))) u1_1 u1_2) := by kernel_rfl
noncomputable def F50_86_j4 (m : Nat) (y0_0 : Int) (y0_1 : Int) (u2_0 : Int) (u2_1 : List D) (u2_2 : List D) : Option D :=
 cutK (codeK Tryd.prog H50.sp 2 (inlK Tryd.prog H50 m 2) m fh50_86 (subc [1, 1, 1] (bodyOf Tryd.f86)) ⟨[(AV.ptr 0 0), .junk, .junk, .junk, (AV.d (D.v (.int .i64 u2_0))), .junk, .junk, .junk, .junk, .junk, .junk, .junk, .junk, .junk, .junk, .junk, .junk, .junk, .junk, .junk, .junk, .junk, .junk, .junk, .junk, .junk, .junk, .junk, .junk, .junk, .junk, .junk, .junk, .junk, .junk, .junk, .junk, .junk, .junk, .junk, .junk, .junk, .junk, .junk, .junk, .junk], [(Blk.d 128 u2_1), (Blk.d 128 u2_2)]⟩
  (contK Tryd.prog H50.sp 2 (inlK Tryd.prog H50 m 2) m fh50_86 (endK Tryd.prog Tryd.f86 (fun v L => opsK Tryd.prog H50.sp 0 true (inlK Tryd.prog H50 m 3) (regOps (subc [1, 1, 1, 1, 1, 1, 0] (bodyOf Tryd.f50))) (List.drop 1 (Array.toList (regOps (subc [1, 1, 1, 1, 1, 1, 0] (bodyOf Tryd.f50))))) ⟨setSl [.junk, .junk, .junk, .junk, .junk, .junk, .junk, (AV.ptr 0 0), (AV.ptr 1 0), (AV.d (D.v (.int .i64 y0_0))), .junk, .junk, .junk, .junk, .junk, .junk, .junk, .junk, .junk, .junk, .junk, .junk, .junk, .junk, .junk, .junk, (AV.d (D.v (.int .i64 y0_1))), (AV.d (D.v (.bool false))), .junk, .junk, .junk, .junk, .junk, .junk, .junk, .junk, .junk, .junk, .junk, .junk, .junk, .junk, .junk, .junk, .junk, .junk, .junk, .junk, .junk, .junk, .junk, .junk] (some 49) v, L⟩ (fun st => contK Tryd.prog H50.sp 0 (inlK Tryd.prog H50 m 3) m fh50_50 (endK Tryd.prog Tryd.f50 (fun v L => viewK L 8 v some)) [.code (subc [1, 1, 1, 1, 1, 1, 1] (bodyOf Tryd.f50))] .normal st))) []))
noncomputable def F50_86_8 (m n0 : Nat) (y0_0 : Int) (y0_1 : Int) (y2_0 : Int) (y2_1 : Nat) (y2_2 : Int) (y2_3 : Int) (y2_4 : List D) (y2_5 : List D) (y2_6 : List D) : Option D :=
 loopIter [false, false, false, false, true, true, false, false, false, false, false, false, false, false, false, false, false, false, false, false, false, false, false, false, false, false, false, true, true, true, false, false, false, false, false, false, false, false, false, false, false, false, false, false, false, false] 2 3 (codeK Tryd.prog H50.sp 2 (inlK Tryd.prog H50 m 2) m fh50_86 (subc [1, 1, 1, 1, 1, 0, 1, 0, 0] (bodyOf Tryd.f86))) n0 ⟨[.junk, .junk, .junk, .junk, (AV.d (D.v (.int .i64 y2_0))), (AV.sl 2 0 128 (some 128) 1), .junk, .junk, .junk, .junk, .junk, .junk, .junk, .junk, .junk, .junk, .junk, .junk, .junk, .junk, .junk, .junk, .junk, .junk, .junk, .junk, .junk, (AV.sl 0 0 y2_1 (some 128) 1), (AV.d (D.v (.int .i64 y2_2))), (AV.d (D.v (.int .i64 y2_3))), .junk, .junk, .junk, .junk, .junk, .junk, .junk, .junk, .junk, .junk, .junk, .junk, .junk, .junk, .junk, .junk], [(Blk.d 128 y2_4), (Blk.d 128 y2_5), (Blk.d 128 y2_6)]⟩
  (contK Tryd.prog H50.sp 2 (inlK Tryd.prog H50 m 2) m fh50_86 (endK Tryd.prog Tryd.f86 (fun v L => opsK Tryd.prog H50.sp 0 true (inlK Tryd.prog H50 m 3) (regOps (subc [1, 1, 1, 1, 1, 1, 0] (bodyOf Tryd.f50))) (List.drop 1 (Array.toList (regOps (subc [1, 1, 1, 1, 1, 1, 0] (bodyOf Tryd.f50))))) ⟨setSl [.junk, .junk, .junk, .junk, .junk, .junk, .junk, (AV.ptr 0 0), (AV.ptr 1 0), (AV.d (D.v (.int .i64 y0_0))), .junk, .junk, .junk, .junk, .junk, .junk, .junk, .junk, .junk, .junk, .junk, .junk, .junk, .junk, .junk, .junk, (AV.d (D.v (.int .i64 y0_1))), (AV.d (D.v (.bool false))), .junk, .junk, .junk, .junk, .junk, .junk, .junk, .junk, .junk, .junk, .junk, .junk, .junk, .junk, .junk, .junk, .junk, .junk, .junk, .junk, .junk, .junk, .junk, .junk] (some 49) v, L⟩ (fun st => contK Tryd.prog H50.sp 0 (inlK Tryd.prog H50 m 3) m fh50_50 (endK Tryd.prog Tryd.f50 (fun v L => viewK L 8 v some)) [.code (subc [1, 1, 1, 1, 1, 1, 1] (bodyOf Tryd.f50))] .normal st))) [.block 2, .code (subc [1, 1, 1, 1, 1, 1] (bodyOf Tryd.f86))])
theorem F50_86_8_0 (m : Nat) (y0_0 : Int) (y0_1 : Int) (y2_0 : Int) (y2_1 : Nat) (y2_2 : Int) (y2_3 : Int) (y2_4 : List D) (y2_5 : List D) (y2_6 : List D) : F50_86_8 m 0 y0_0 y0_1 y2_0 y2_1 y2_2 y2_3 y2_4 y2_5 y2_6 = none := rfl
theorem F50_86_8_s (m n0 : Nat) (y0_0 : Int) (y0_1 : Int) (y2_0 : Int) (y2_1 : Nat) (y2_2 : Int) (y2_3 : Int) (y2_4 : List D) (y2_5 : List D) (y2_6 : List D) : F50_86_8 m (n0 + 1) y0_0 y0_1 y2_0 y2_1 y2_2 y2_3 y2_4 y2_5 y2_6 =
 (cond (decide (y2_3 < y2_2))
 (if 0 ≤ y2_3 ∧ y2_3 < ((y2_1 : Nat) : Int) then
 (rdI .u8 y2_4[(0 + ((Int.toNat y2_3) * 1))]?).bind fun x20 =>
 if 0 ≤ (IntKind.wrap .i64 ((IntKind.wrap .i64 (y2_0 - (1 : Int))) - y2_3)) ∧ (IntKind.wrap .i64 ((IntKind.wrap .i64 (y2_0 - (1 : Int))) - y2_3)) < (128 : Int) then
 if 1 = 1 ∧ (0 + ((Int.toNat (IntKind.wrap .i64 ((IntKind.wrap .i64 (y2_0 - (1 : Int))) - y2_3))) * 1)) < 128 then
 F50_86_8 m n0 y0_0 y0_1 y2_0 y2_1 y2_2 (IntKind.wrap .i64 (y2_3 + (1 : Int))) y2_4 y2_5 (List.set y2_6 (0 + ((Int.toNat (IntKind.wrap .i64 ((IntKind.wrap .i64 (y2_0 - (1 : Int))) - y2_3))) * 1)) (D.v (.int .u8 x20)))
 else none
 else none
 else none)
 (if 0 ≤ y2_0 ∧ y2_0 ≤ (128 : Int) then
 if 0 ≤ y2_0 ∧ y2_0 ≤ (((Int.toNat y2_0) : Nat) : Int) then
 if (0 + (((Int.toNat y2_0) - 0) * 1)) ≤ 128 then
 some (D.tup [(D.list ((Int.toNat y2_0) - 0) (some ((Int.toNat y2_0) - 0)) (cutL 128 y2_6 0 (((Int.toNat y2_0) - 0) * 1))), (D.v (.int .i64 (0 : Int)))])
 else none
 else none
 else none)) := by kernel_rfl
theorem F50_86_j4_e (m : Nat) (y0_0 : Int) (y0_1 : Int) (u2_0 : Int) (u2_1 : List D) (u2_2 : List D) : F50_86_j4 m y0_0 y0_1 u2_0 u2_1 u2_2 =
 (cond (decide (u2_0 > (64 : Int)))
 (some (D.tup [(D.list 0 (some 0) []), (D.v (.int .i64 (3 : Int)))]))
 (if 0 ≤ u2_0 ∧ u2_0 ≤ (128 : Int) then
 F50_86_8 m m y0_0 y0_1 u2_0 ((Int.toNat u2_0) - 0) ((((Int.toNat u2_0) - 0) : Nat) : Int) (0 : Int) u2_1 u2_2 (List.replicate 128 (D.v (.int .u8 (0 : Int))))
 else none)) := by kernel_rfl
theorem F50_86_2_0 (m : Nat) (y0_0 : Int) (y0_1 : Int) (y1_0 : Int) (y1_1 : List D) (y1_2 : List D) : F50_86_2 m 0 y0_0 y0_1 y1_0 y1_1 y1_2 = none := rfl
theorem F50_86_2_s (m n0 : Nat) (y0_0 : Int) (y0_1 : Int) (y1_0 : Int) (y1_1 : List D) (y1_2 : List D) : F50_86_2 m (n0 + 1) y0_0 y0_1 y1_0 y1_1 y1_2 =
 (cond (decide (y1_0 > (0 : Int)))
 (if 0 ≤ (IntKind.wrap .i64 (y1_0 - (1 : Int))) ∧ (IntKind.wrap .i64 (y1_0 - (1 : Int))) < (128 : Int) then
 (rdI .u8 y1_1[(0 + ((Int.toNat (IntKind.wrap .i64 (y1_0 - (1 : Int)))) * 1))]?).bind fun x17 =>
 cond (x17 == (0 : Int))
 (F50_86_j3 m n0 y0_0 y0_1 y1_0 y1_1 y1_2)
 (F50_86_j4 m y0_0 y0_1 y1_0 y1_1 y1_2)
 else none)
 (F50_86_j4 m y0_0 y0_1 y1_0 y1_1 y1_2)) := by kernel_rfl
theorem F50_50_9_0 (m : Nat) (y0_0 : Int) (y0_1 : Int) (y0_2 : List D) (y0_3 : List D) : F50_50_9 m 0 y0_0 y0_1 y0_2 y0_3 = none := rfl
theorem F50_50_9_s (m n0 : Nat) (y0_0 : Int) (y0_1 : Int) (y0_2 : List D) (y0_3 : List D) : F50_50_9 m (n0 + 1) y0_0 y0_1 y0_2 y0_3 =
 (cond (decide (y0_1 < (128 : Int)))
 (if 0 ≤ y0_1 ∧ y0_1 < (128 : Int) then
 (rdI .u8 y0_2[(0 + ((Int.toNat y0_1) * 1))]?).bind fun x13 =>
 if 0 ≤ y0_1 ∧ y0_1 < (128 : Int) then
 (rdI .u8 y0_3[(0 + ((Int.toNat y0_1) * 1))]?).bind fun x14 =>
 cond (decide ((IntKind.wrap .i64 ((IntKind.wrap .i64 ((IntKind.wrap .i64 x13) - (IntKind.wrap .i64 x14))) - y0_0)) < (0 : Int)))
 (F50_50_j15 m n0 (1 : Int) y0_1 (IntKind.wrap .i64 ((IntKind.wrap .i64 ((IntKind.wrap .i64 ((IntKind.wrap .i64 x13) - (IntKind.wrap .i64 x14))) - y0_0)) + (256 : Int))) y0_1 y0_2 y0_3)
 (F50_50_j15 m n0 (0 : Int) y0_1 (IntKind.wrap .i64 ((IntKind.wrap .i64 ((IntKind.wrap .i64 x13) - (IntKind.wrap .i64 x14))) - y0_0)) y0_1 y0_2 y0_3)
 else none
 else none)
 (F50_86_2 m m y0_0 y0_1 (128 : Int) y0_2 y0_3)) := by kernel_rfl
noncomputable def F50 (m : Nat) (a0n : Nat) (a0c : Option Nat) (a0 : List D) (a1n : Nat) (a1c : Option Nat) (a1 : List D) : Option D :=
 (sp83 [(D.list a0n a0c a0), (D.list a1n a1c a1)]).bind fun d1 =>
 (rdI .i64 (some d1)).bind fun x2 =>
 cond (x2 != (0 : Int))
 (some (D.tup [(D.list 0 (some 0) []), (D.v (.int .i64 x2))]))
 ((sp61 [(D.list a0n a0c a0), (D.list a1n a1c a1)]).bind fun d3 =>
 (rdI .i64 (some d3)).bind fun x4 =>
 cond (decide (x4 < (0 : Int)))
 (some (D.tup [(D.list 0 (some 0) []), (D.v (.int .i64 (1 : Int)))]))
 ((sp84 [(D.list a0n a0c a0)]).bind fun d5 =>
 (rdA (some d5)).bind fun c6 =>
 (sp84 [(D.list a1n a1c a1)]).bind fun d7 =>
 (rdA (some d7)).bind fun c8 =>
 if (List.length c6) = 128 then
 if (List.length c8) = 128 then
 F50_50_9 m m (0 : Int) (0 : Int) c6 c8
 else none
 else none))
theorem F50_eq (m : Nat) (a0n : Nat) (a0c : Option Nat) (a0 : List D) (a1n : Nat) (a1c : Option Nat) (a1 : List D) : funD Tryd.prog H50 m 3 fh50_50 Tryd.f50 [(D.list a0n a0c a0), (D.list a1n a1c a1)] = F50 m a0n a0c a0 a1n a1c a1 := by kernel_rfl
theorem en50 : Enters Tryd.prog 50 := ⟨Tryd.f50, Tryd.func50, by kernel_rfl, by kernel_rfl⟩
theorem dt50 {ds : List D} {d : D} (h : funD Tryd.prog H50 M 3 fh50_50 Tryd.f50 ds = some d) : DataSem Tryd.prog 50 ds d := data_sound (H := H50) (SpOk.cons ds61 (SpOk.cons ds83 (SpOk.cons ds84 SpOk.nil))) mixed (InlOk.cons Tryd.func86 en86 InlOk.nil) Tryd.func50 en50 h
noncomputable def sp50 : List D → Option D
  | [.list a0n a0c a0, .list a1n a1c a1] => F50 M a0n a0c a0 a1n a1c a1
  | _ => none
theorem ds50 : ∀ ds d, sp50 ds = some d → DataSem Tryd.prog 50 ds d := by
  intro ds d h
  unfold sp50 at h
  split at h
  · exact dt50 ((F50_eq M _ _ _ _ _ _).trans h)
  · cases h

-- ('str', '"vidimus/nats.Mul"')
def fh55_55 : FnH := ⟨[(7, ⟨[true, true, false, false, false, false, false, true, true, false, false, false, false, false, false, false, false, false, false, false, true, true, true, false, false, false, false, false, false, false, false, false, false, false, false, false, false, false, false, false, false, false, false, false, false, false, false, false, false, false, false, false, false, false, false, false, false], [], (some 2)⟩), (10, ⟨[true, true, false, false, false, false, false, true, true, true, true, false, false, false, false, false, false, false, false, false, true, true, true, false, false, false, false, true, true, true, false, false, false, false, false, false, false, false, false, false, false, false, false, false, false, false, false, false, false, false, false, false, false, false, false, false, false], [], (some 2)⟩)], []⟩
def fh55_85 : FnH := ⟨[], []⟩
def fh55_86 : FnH := ⟨[(2, ⟨[true, false, false, false, true, false, false, false, false, false, false, false, false, false, false, false, false, false, false, false, false, false, false, false, false, false, false, false, false, false, false, false, false, false, false, false, false, false, false, false, false, false, false, false, false, false], [], (some 0)⟩), (8, ⟨[false, false, false, false, true, true, false, false, false, false, false, false, false, false, false, false, false, false, false, false, false, false, false, false, false, false, false, true, true, true, false, false, false, false, false, false, false, false, false, false, false, false, false, false, false, false], [], (some 1)⟩)], [(3, ⟨[true, false, false, false, true, false, false, false, false, false, false, false, false, false, false, false, false, false, false, false, false, false, false, false, false, false, false, false, false, false, false, false, false, false, false, false, false, false, false, false, false, false, false, false, false, false], [], (some 0)⟩), (4, ⟨[true, false, false, false, true, false, false, false, false, false, false, false, false, false, false, false, false, false, false, false, false, false, false, false, false, false, false, false, false, false, false, false, false, false, false, false, false, false, false, false, false, false, false, false, false, false], [], (some 0)⟩)]⟩
def fh55_94 : FnH := ⟨[(0, ⟨[true, true, true, false, false, false, false, false, false, false, false, false, false, false, false, false, false, false, false, false, false, false, false, false, false, false, false, false, false], [], (some 0)⟩)], [(2, ⟨[true, true, true, false, false, false, false, false, false, false, false, false, false, false, false, false, false, false, false, false, false, false, false, false, false, false, false, false, false], [], (some 0)⟩)]⟩
noncomputable def H55 : Hints := ⟨[(83, sp83)], [(85, Tryd.f85, fh55_85), (86, Tryd.f86, fh55_86), (94, Tryd.f94, fh55_94)]⟩
noncomputable def F55_55_7 (m n0 : Nat) (y0_0 : Nat) (y0_1 : Option Nat) (y0_2 : List D) (y0_3 : Nat) (y0_4 : Option Nat) (y0_5 : List D) (y0_6 : Nat) (y0_7 : Option Nat) (y0_8 : List D) (y0_9 : Int) (y0_10 : Int) (y0_11 : List D) : Option D :=
 loopIter [true, true, false, false, false, false, false, true, true, false, false, false, false, false, false, false, false, false, false, false, true, true, true, false, false, false, false, false, false, false, false, false, false, false, false, false, false, false, false, false, false, false, false, false, false, false, false, false, false, false, false, false, false, false, false, false, false] 0 2 (codeK Tryd.prog H55.sp 0 (inlK Tryd.prog H55 m 3) m fh55_55 (subc [1, 1, 1, 1, 0, 1, 0, 0] (bodyOf Tryd.f55))) n0 ⟨[(AV.d (D.list y0_0 y0_1 y0_2)), (AV.d (D.list y0_3 y0_4 y0_5)), .junk, .junk, .junk, .junk, .junk, (AV.ptr 0 0), (AV.clo 94 [(AV.ptr 1 0)]), .junk, .junk, .junk, .junk, .junk, .junk, .junk, .junk, .junk, .junk, .junk, (AV.d (D.list y0_6 y0_7 y0_8)), (AV.d (D.v (.int .i64 y0_9))), (AV.d (D.v (.int .i64 y0_10))), .junk, .junk, .junk, .junk, .junk, .junk, .junk, .junk, .junk, .junk, .junk, .junk, .junk, .junk, .junk, .junk, .junk, .junk, .junk, .junk, .junk, .junk, .junk, .junk, .junk, .junk, .junk, .junk, .junk, .junk, .junk, .junk, .junk, .junk], [(Blk.d 128 y0_11), (Blk.a 1 [(AV.ptr 0 0)])]⟩
  (contK Tryd.prog H55.sp 0 (inlK Tryd.prog H55 m 3) m fh55_55 (endK Tryd.prog Tryd.f55 (fun v L => viewK L 8 v some)) [.block 0, .code (subc [1, 1, 1, 1, 1] (bodyOf Tryd.f55))])
noncomputable def F55_55_10 (m n0 n1 : Nat) (y1_0 : Nat) (y1_1 : Option Nat) (y1_2 : List D) (y1_3 : Nat) (y1_4 : Option Nat) (y1_5 : List D) (y1_6 : Int) (y1_7 : Int) (y1_8 : Nat) (y1_9 : Option Nat) (y1_10 : List D) (y1_11 : Int) (y1_12 : Int) (y1_13 : Int) (y1_14 : List D) : Option D :=
 loopIter [true, true, false, false, false, false, false, true, true, true, true, false, false, false, false, false, false, false, false, false, true, true, true, false, false, false, false, true, true, true, false, false, false, false, false, false, false, false, false, false, false, false, false, false, false, false, false, false, false, false, false, false, false, false, false, false, false] 0 2 (codeK Tryd.prog H55.sp 0 (inlK Tryd.prog H55 m 3) m fh55_55 (subc [1, 1, 1, 1, 0, 1, 0, 0, 1, 1, 0, 0, 1, 1, 0, 0] (bodyOf Tryd.f55))) n1 ⟨[(AV.d (D.list y1_0 y1_1 y1_2)), (AV.d (D.list y1_3 y1_4 y1_5)), .junk, .junk, .junk, .junk, .junk, (AV.ptr 0 0), (AV.clo 94 [(AV.ptr 1 0)]), (AV.d (D.v (.int .i64 y1_6))), (AV.d (D.v (.int .u8 y1_7))), .junk, .junk, .junk, .junk, .junk, .junk, .junk, .junk, .junk, (AV.d (D.list y1_8 y1_9 y1_10)), (AV.d (D.v (.int .i64 y1_11))), (AV.d (D.v (.int .i64 y1_6))), .junk, .junk, .junk, .junk, (AV.d (D.list y1_3 y1_4 y1_5)), (AV.d (D.v (.int .i64 y1_12))), (AV.d (D.v (.int .i64 y1_13))), .junk, .junk, .junk, .junk, .junk, .junk, .junk, .junk, .junk, .junk, .junk, .junk, .junk, .junk, .junk, .junk, .junk, .junk, .junk, .junk, .junk, .junk, .junk, .junk, .junk, .junk, .junk], [(Blk.d 128 y1_14), (Blk.a 1 [(AV.ptr 0 0)])]⟩
  (contK Tryd.prog H55.sp 0 (inlK Tryd.prog H55 m 3) m fh55_55 (endK Tryd.prog Tryd.f55 (fun v L => viewK L 8 v some)) [.block 2, .block 1, .code (subc [1, 1, 1, 1, 0, 1, 0, 0, 1, 1, 1] (bodyOf Tryd.f55)), .loop [true, true, false, false, false, false, false, true, true, false, false, false, false, false, false, false, false, false, false, false, true, true, true, false, false, false, false, false, false, false, false, false, false, false, false, false, false, false, false, false, false, false, false, false, false, false, false, false, false, false, false, false, false, false, false, false, false] 2 (subc [1, 1, 1, 1, 0, 1, 0, 0] (bodyOf Tryd.f55)) n0, .block 0, .code (subc [1, 1, 1, 1, 1] (bodyOf Tryd.f55))])
noncomputable def F55_94_0 (m n0 n1 n2 : Nat) (y1_0 : Nat) (y1_1 : Option Nat) (y1_2 : List D) (y1_3 : Nat) (y1_4 : Option Nat) (y1_5 : List D) (y1_6 : Int) (y1_7 : Int) (y1_13 : Int) (x30 : Int) (y1_8 : Nat) (y1_9 : Option Nat) (y1_10 : List D) (y1_11 : Int) (y1_12 : Int) (y2_0 : Int) (y2_1 : Int) (y2_2 : List D) : Option D :=
 loopIter [true, true, true, false, false, false, false, false, false, false, false, false, false, false, false, false, false, false, false, false, false, false, false, false, false, false, false, false, false] 2 2 (codeK Tryd.prog H55.sp 2 (inlK Tryd.prog H55 m 2) m fh55_94 (subc [0, 0] (bodyOf Tryd.f94))) n2 ⟨[(AV.d (D.v (.int .i64 y2_0))), (AV.d (D.v (.int .i64 y2_1))), (AV.ptr 1 0), .junk, .junk, .junk, .junk, .junk, .junk, .junk, .junk, .junk, .junk, .junk, .junk, .junk, .junk, .junk, .junk, .junk, .junk, .junk, .junk, .junk, .junk, .junk, .junk, .junk, .junk], [(Blk.d 128 y2_2), (Blk.a 1 [(AV.ptr 0 0)])]⟩
  (contK Tryd.prog H55.sp 2 (inlK Tryd.prog H55 m 2) m fh55_94 (endK Tryd.prog Tryd.f94 (fun v L => opsK Tryd.prog H55.sp 0 true (inlK Tryd.prog H55 m 3) (regOps (subc [1, 1, 1, 1, 0, 1, 0, 0, 1, 1, 0, 0, 1, 1, 0, 0, 1, 1, 0, 0, 1] (bodyOf Tryd.f55))) (List.drop 18 (Array.toList (regOps (subc [1, 1, 1, 1, 0, 1, 0, 0, 1, 1, 0, 0, 1, 1, 0, 0, 1, 1, 0, 0, 1] (bodyOf Tryd.f55))))) ⟨setSl [(AV.d (D.list y1_0 y1_1 y1_2)), (AV.d (D.list y1_3 y1_4 y1_5)), .junk, .junk, .junk, .junk, .junk, (AV.ptr 0 0), (AV.clo 94 [(AV.ptr 1 0)]), (AV.d (D.v (.int .i64 y1_6))), (AV.d (D.v (.int .u8 y1_7))), (AV.d (D.v (.int .i64 y1_13))), (AV.d (D.v (.int .u8 x30))), .junk, .junk, .junk, .junk, .junk, .junk, .junk, (AV.d (D.list y1_8 y1_9 y1_10)), (AV.d (D.v (.int .i64 y1_11))), (AV.d (D.v (.int .i64 y1_6))), .junk, .junk, .junk, .junk, (AV.d (D.list y1_3 y1_4 y1_5)), (AV.d (D.v (.int .i64 y1_12))), (AV.d (D.v (.int .i64 y1_13))), (AV.d (D.v (.bool true))), (AV.d (D.v (.int .i64 y1_13))), (AV.lp y1_5 ((Int.toNat y1_13) * 1)), (AV.d (D.v (.int .u8 x30))), (AV.clo 94 [(AV.ptr 1 0)]), (AV.d (D.list y1_0 y1_1 y1_2)), (AV.d (D.v (.int .i64 ((y1_0 : Nat) : Int)))), (AV.d (D.v (.int .i64 (IntKind.wrap .i64 (((y1_0 : Nat) : Int) - (1 : Int)))))), (AV.d (D.v (.int .i64 y1_6))), (AV.d (D.v (.int .i64 (IntKind.wrap .i64 ((IntKind.wrap .i64 (((y1_0 : Nat) : Int) - (1 : Int))) - y1_6))))), (AV.d (D.list y1_3 y1_4 y1_5)), (AV.d (D.v (.int .i64 ((y1_3 : Nat) : Int)))), (AV.d (D.v (.int .i64 (IntKind.wrap .i64 ((IntKind.wrap .i64 ((IntKind.wrap .i64 (((y1_0 : Nat) : Int) - (1 : Int))) - y1_6)) + ((y1_3 : Nat) : Int)))))), (AV.d (D.v (.int .i64 (IntKind.wrap .i64 ((IntKind.wrap .i64 ((IntKind.wrap .i64 ((IntKind.wrap .i64 (((y1_0 : Nat) : Int) - (1 : Int))) - y1_6)) + ((y1_3 : Nat) : Int))) - (1 : Int)))))), (AV.d (D.v (.int .i64 y1_13))), (AV.d (D.v (.int .i64 (IntKind.wrap .i64 ((IntKind.wrap .i64 ((IntKind.wrap .i64 ((IntKind.wrap .i64 ((IntKind.wrap .i64 (((y1_0 : Nat) : Int) - (1 : Int))) - y1_6)) + ((y1_3 : Nat) : Int))) - (1 : Int))) - y1_13))))), (AV.d (D.v (.int .u8 y1_7))), (AV.d (D.v (.int .i64 (IntKind.wrap .i64 y1_7)))), (AV.d (D.v (.int .u8 x30))), (AV.d (D.v (.int .i64 (IntKind.wrap .i64 x30)))), (AV.d (D.v (.int .i64 (IntKind.wrap .i64 ((IntKind.wrap .i64 y1_7) * (IntKind.wrap .i64 x30)))))), .junk, .junk, .junk, .junk, .junk, .junk] (some 51) v, L⟩ (fun st => contK Tryd.prog H55.sp 0 (inlK Tryd.prog H55 m 3) m fh55_55 (endK Tryd.prog Tryd.f55 (fun v L => viewK L 8 v some)) [.block 3, .code (subc [1, 1, 1, 1, 0, 1, 0, 0, 1, 1, 0, 0, 1, 1, 0, 0, 1, 1, 1] (bodyOf Tryd.f55)), .loop [true, true, false, false, false, false, false, true, true, true, true, false, false, false, false, false, false, false, false, false, true, true, true, false, false, false, false, true, true, true, false, false, false, false, false, false, false, false, false, false, false, false, false, false, false, false, false, false, false, false, false, false, false, false, false, false, false] 2 (subc [1, 1, 1, 1, 0, 1, 0, 0, 1, 1, 0, 0, 1, 1, 0, 0] (bodyOf Tryd.f55)) n1, .block 2, .block 1, .code (subc [1, 1, 1, 1, 0, 1, 0, 0, 1, 1, 1] (bodyOf Tryd.f55)), .loop [true, true, false, false, false, false, false, true, true, false, false, false, false, false, false, false, false, false, false, false, true, true, true, false, false, false, false, false, false, false, false, false, false, false, false, false, false, false, false, false, false, false, false, false, false, false, false, false, false, false, false, false, false, false, false, false, false] 2 (subc [1, 1, 1, 1, 0, 1, 0, 0] (bodyOf Tryd.f55)) n0, .block 0, .code (subc [1, 1, 1, 1, 1] (bodyOf Tryd.f55))] .normal st))) [.block 0])
noncomputable def F55_94_j2 (m n0 n1 n2 : Nat) (y1_0 : Nat) (y1_1 : Option Nat) (y1_2 : List D) (y1_3 : Nat) (y1_4 : Option Nat) (y1_5 : List D) (y1_6 : Int) (y1_7 : Int) (y1_13 : Int) (x30 : Int) (y1_8 : Nat) (y1_9 : Option Nat) (y1_10 : List D) (y1_11 : Int) (y1_12 : Int) (u0_0 : Int) (u0_1 : Int) (u0_2 : List D) : Option D :=
 cutK (codeK Tryd.prog H55.sp 2 (inlK Tryd.prog H55 m 2) m fh55_94 (subc [0, 0, 1] (bodyOf Tryd.f94)) ⟨[(AV.d (D.v (.int .i64 u0_0))), (AV.d (D.v (.int .i64 u0_1))), (AV.ptr 1 0), .junk, .junk, .junk, .junk, .junk, .junk, .junk, .junk, .junk, .junk, .junk, .junk, .junk, .junk, .junk, .junk, .junk, .junk, .junk, .junk, .junk, .junk, .junk, .junk, .junk, .junk], [(Blk.d 128 u0_2), (Blk.a 1 [(AV.ptr 0 0)])]⟩
  (contK Tryd.prog H55.sp 2 (inlK Tryd.prog H55 m 2) m fh55_94 (endK Tryd.prog Tryd.f94 (fun v L => opsK Tryd.prog H55.sp 0 true (inlK Tryd.prog H55 m 3) (regOps (subc [1, 1, 1, 1, 0, 1, 0, 0, 1, 1, 0, 0, 1, 1, 0, 0, 1, 1, 0, 0, 1] (bodyOf Tryd.f55))) (List.drop 18 (Array.toList (regOps (subc [1, 1, 1, 1, 0, 1, 0, 0, 1, 1, 0, 0, 1, 1, 0, 0, 1, 1, 0, 0, 1] (bodyOf Tryd.f55))))) ⟨setSl [(AV.d (D.list y1_0 y1_1 y1_2)), (AV.d (D.list y1_3 y1_4 y1_5)), .junk, .junk, .junk, .junk, .junk, (AV.ptr 0 0), (AV.clo 94 [(AV.ptr 1 0)]), (AV.d (D.v (.int .i64 y1_6))), (AV.d (D.v (.int .u8 y1_7))), (AV.d (D.v (.int .i64 y1_13))), (AV.d (D.v (.int .u8 x30))), .junk, .junk, .junk, .junk, .junk, .junk, .junk, (AV.d (D.list y1_8 y1_9 y1_10)), (AV.d (D.v (.int .i64 y1_11))), (AV.d (D.v (.int .i64 y1_6))), .junk, .junk, .junk, .junk, (AV.d (D.list y1_3 y1_4 y1_5)), (AV.d (D.v (.int .i64 y1_12))), (AV.d (D.v (.int .i64 y1_13))), (AV.d (D.v (.bool true))), (AV.d (D.v (.int .i64 y1_13))), (AV.lp y1_5 ((Int.toNat y1_13) * 1)), (AV.d (D.v (.int .u8 x30))), (AV.clo 94 [(AV.ptr 1 0)]), (AV.d (D.list y1_0 y1_1 y1_2)), (AV.d (D.v (.int .i64 ((y1_0 : Nat) : Int)))), (AV.d (D.v (.int .i64 (IntKind.wrap .i64 (((y1_0 : Nat) : Int) - (1 : Int)))))), (AV.d (D.v (.int .i64 y1_6))), (AV.d (D.v (.int .i64 (IntKind.wrap .i64 ((IntKind.wrap .i64 (((y1_0 : Nat) : Int) - (1 : Int))) - y1_6))))), (AV.d (D.list y1_3 y1_4 y1_5)), (AV.d (D.v (.int .i64 ((y1_3 : Nat) : Int)))), (AV.d (D.v (.int .i64 (IntKind.wrap .i64 ((IntKind.wrap .i64 ((IntKind.wrap .i64 (((y1_0 : Nat) : Int) - (1 : Int))) - y1_6)) + ((y1_3 : Nat) : Int)))))), (AV.d (D.v (.int .i64 (IntKind.wrap .i64 ((IntKind.wrap .i64 ((IntKind.wrap .i64 ((IntKind.wrap .i64 (((y1_0 : Nat) : Int) - (1 : Int))) - y1_6)) + ((y1_3 : Nat) : Int))) - (1 : Int)))))), (AV.d (D.v (.int .i64 y1_13))), (AV.d (D.v (.int .i64 (IntKind.wrap .i64 ((IntKind.wrap .i64 ((IntKind.wrap .i64 ((IntKind.wrap .i64 ((IntKind.wrap .i64 (((y1_0 : Nat) : Int) - (1 : Int))) - y1_6)) + ((y1_3 : Nat) : Int))) - (1 : Int))) - y1_13))))), (AV.d (D.v (.int .u8 y1_7))), (AV.d (D.v (.int .i64 (IntKind.wrap .i64 y1_7)))), (AV.d (D.v (.int .u8 x30))), (AV.d (D.v (.int .i64 (IntKind.wrap .i64 x30)))), (AV.d (D.v (.int .i64 (IntKind.wrap .i64 ((IntKind.wrap .i64 y1_7) * (IntKind.wrap .i64 x30)))))), .junk, .junk, .junk, .junk, .junk, .junk] (some 51) v, L⟩ (fun st => contK Tryd.prog H55.sp 0 (inlK Tryd.prog H55 m 3) m fh55_55 (endK Tryd.prog Tryd.f55 (fun v L => viewK L 8 v some)) [.block 3, .code (subc [1, 1, 1, 1, 0, 1, 0, 0, 1, 1, 0, 0, 1, 1, 0, 0, 1, 1, 1] (bodyOf Tryd.f55)), .loop [true, true, false, false, false, false, false, true, true, true, true, false, false, false, false, false, false, false, false, false, true, true, true, false, false, false, false, true, true, true, false, false, false, false, false, false, false, false, false, false, false, false, false, false, false, false, false, false, false, false, false, false, false, false, false, false, false] 2 (subc [1, 1, 1, 1, 0, 1, 0, 0, 1, 1, 0, 0, 1, 1, 0, 0] (bodyOf Tryd.f55)) n1, .block 2, .block 1, .code (subc [1, 1, 1, 1, 0, 1, 0, 0, 1, 1, 1] (bodyOf Tryd.f55)), .loop [true, true, false, false, false, false, false, true, true, false, false, false, false, false, false, false, false, false, false, false, true, true, true, false, false, false, false, false, false, false, false, false, false, false, false, false, false, false, false, false, false, false, false, false, false, false, false, false, false, false, false, false, false, false, false, false, false] 2 (subc [1, 1, 1, 1, 0, 1, 0, 0] (bodyOf Tryd.f55)) n0, .block 0, .code (subc [1, 1, 1, 1, 1] (bodyOf Tryd.f55))] .normal st))) [.loop [true, true, true, false, false, false, false, false, false, false, false, false, false, false, false, false, false, false, false, false, false, false, false, false, false, false, false, false, false] 2 (subc [0, 0] (bodyOf Tryd.f94)) n2, .block 0]))
theorem F55_94_j2_e (m n0 n1 n2 : Nat) (y1_0 : Nat) (y1_1 : Option Nat) (y1_2 : List D) (y1_3 : Nat) (y1_4 : Option Nat) (y1_5 : List D) (y1_6 : Int) (y1_7 : Int) (y1_13 : Int) (x30 : Int) (y1_8 : Nat) (y1_9 : Option Nat) (y1_10 : List D) (y1_11 : Int) (y1_12 : Int) (u0_0 : Int) (u0_1 : Int) (u0_2 : List D) : F55_94_j2 m n0 n1 n2 y1_0 y1_1 y1_2 y1_3 y1_4 y1_5 y1_6 y1_7 y1_13 x30 y1_8 y1_9 y1_10 y1_11 y1_12 u0_0 u0_1 u0_2 =
 (if 0 ≤ u0_0 ∧ u0_0 < (128 : Int) then
 (rdI .u8 u0_2[(0 + ((Int.toNat u0_0) * 1))]?).bind fun x32 =>
 if 0 ≤ u0_0 ∧ u0_0 < (128 : Int) then
 if 1 = 1 ∧ (0 + ((Int.toNat u0_0) * 1)) < 128 then
 F55_94_0 m n0 n1 n2 y1_0 y1_1 y1_2 y1_3 y1_4 y1_5 y1_6 y1_7 y1_13 x30 y1_8 y1_9 y1_10 y1_11 y1_12 (IntKind.wrap .i64 (u0_0 + (1 : Int))) (Int.fdiv (IntKind.wrap .i64 (u0_1 + (IntKind.wrap .i64 x32))) (2 ^ 8)) (List.set u0_2 (0 + ((Int.toNat u0_0) * 1)) (D.v (.int .u8 (IntKind.wrap .u8 (IntKind.wrap .i64 (u0_1 + (IntKind.wrap .i64 x32)))))))
 else none
 else none
 else none) := by kernel_rfl
theorem F55_94_0_0 (m n0 n1 : Nat) (y1_0 : Nat) (y1_1 : Option Nat) (y1_2 : List D) (y1_3 : Nat) (y1_4 : Option Nat) (y1_5 : List D) (y1_6 : Int) (y1_7 : Int) (y1_13 : Int) (x30 : Int) (y1_8 : Nat) (y1_9 : Option Nat) (y1_10 : List D) (y1_11 : Int) (y1_12 : Int) (y2_0 : Int) (y2_1 : Int) (y2_2 : List D) : F55_94_0 m n0 n1 0 y1_0 y1_1 y1_2 y1_3 y1_4 y1_5 y1_6 y1_7 y1_13 x30 y1_8 y1_9 y1_10 y1_11 y1_12 y2_0 y2_1 y2_2 = none := rfl
theorem F55_94_0_s (m n0 n1 n2 : Nat) (y1_0 : Nat) (y1_1 : Option Nat) (y1_2 : List D) (y1_3 : Nat) (y1_4 : Option Nat) (y1_5 : List D) (y1_6 : Int) (y1_7 : Int) (y1_13 : Int) (x30 : Int) (y1_8 : Nat) (y1_9 : Option Nat) (y1_10 : List D) (y1_11 : Int) (y1_12 : Int) (y2_0 : Int) (y2_1 : Int) (y2_2 : List D) : F55_94_0 m n0 n1 (n2 + 1) y1_0 y1_1 y1_2 y1_3 y1_4 y1_5 y1_6 y1_7 y1_13 x30 y1_8 y1_9 y1_10 y1_11 y1_12 y2_0 y2_1 y2_2 =
 (cond (decide (y2_1 > (0 : Int)))
 (cond (decide (y2_0 < (128 : Int)))
 (F55_94_j2 m n0 n1 n2 y1_0 y1_1 y1_2 y1_3 y1_4 y1_5 y1_6 y1_7 y1_13 x30 y1_8 y1_9 y1_10 y1_11 y1_12 y2_0 y2_1 y2_2)
 (F55_55_10 m n0 n1 y1_0 y1_1 y1_2 y1_3 y1_4 y1_5 y1_6 y1_7 y1_8 y1_9 y1_10 y1_11 y1_12 (IntKind.wrap .i64 (y1_13 + (1 : Int))) y2_2))
 (F55_55_10 m n0 n1 y1_0 y1_1 y1_2 y1_3 y1_4 y1_5 y1_6 y1_7 y1_8 y1_9 y1_10 y1_11 y1_12 (IntKind.wrap .i64 (y1_13 + (1 : Int))) y2_2)) := by kernel_rfl
theorem F55_55_10_0 (m n0 : Nat) (y1_0 : Nat) (y1_1 : Option Nat) (y1_2 : List D) (y1_3 : Nat) (y1_4 : Option Nat) (y1_5 : List D) (y1_6 : Int) (y1_7 : Int) (y1_8 : Nat) (y1_9 : Option Nat) (y1_10 : List D) (y1_11 : Int) (y1_12 : Int) (y1_13 : Int) (y1_14 : List D) : F55_55_10 m n0 0 y1_0 y1_1 y1_2 y1_3 y1_4 y1_5 y1_6 y1_7 y1_8 y1_9 y1_10 y1_11 y1_12 y1_13 y1_14 = none := rfl
theorem F55_55_10_s (m n0 n1 : Nat) (y1_0 : Nat) (y1_1 : Option Nat) (y1_2 : List D) (y1_3 : Nat) (y1_4 : Option Nat) (y1_5 : List D) (y1_6 : Int) (y1_7 : Int) (y1_8 : Nat) (y1_9 : Option Nat) (y1_10 : List D) (y1_11 : Int) (y1_12 : Int) (y1_13 : Int) (y1_14 : List D) : F55_55_10 m n0 (n1 + 1) y1_0 y1_1 y1_2 y1_3 y1_4 y1_5 y1_6 y1_7 y1_8 y1_9 y1_10 y1_11 y1_12 y1_13 y1_14 =
 (cond (decide (y1_13 < y1_12))
 (if 0 ≤ y1_13 ∧ y1_13 < ((y1_3 : Nat) : Int) then
 (rdI .u8 y1_5[((Int.toNat y1_13) * 1)]?).bind fun x30 =>
 F55_94_0 m n0 n1 m y1_0 y1_1 y1_2 y1_3 y1_4 y1_5 y1_6 y1_7 y1_13 x30 y1_8 y1_9 y1_10 y1_11 y1_12 (IntKind.wrap .i64 ((IntKind.wrap .i64 ((IntKind.wrap .i64 ((IntKind.wrap .i64 ((IntKind.wrap .i64 (((y1_0 : Nat) : Int) - (1 : Int))) - y1_6)) + ((y1_3 : Nat) : Int))) - (1 : Int))) - y1_13)) (IntKind.wrap .i64 ((IntKind.wrap .i64 y1_7) * (IntKind.wrap .i64 x30))) y1_14
 else none)
 (F55_55_7 m n0 y1_0 y1_1 y1_2 y1_3 y1_4 y1_5 y1_8 y1_9 y1_10 y1_11 (IntKind.wrap .i64 (y1_6 + (1 : Int))) y1_14)) := by kernel_rfl
noncomputable def F55_86_2 (m n0 : Nat) (y0_0 : Nat) (y0_1 : Option Nat) (y0_2 : List D) (y0_3 : Nat) (y0_4 : Option Nat) (y0_5 : List D) (y0_6 : Nat) (y0_7 : Option Nat) (y0_8 : List D) (y0_9 : Int) (y0_10 : Int) (y3_0 : Int) (y3_1 : List D) : Option D :=
 loopIter [true, false, false, false, true, false, false, false, false, false, false, false, false, false, false, false, false, false, false, false, false, false, false, false, false, false, false, false, false, false, false, false, false, false, false, false, false, false, false, false, false, false, false, false, false, false] 2 2 (codeK Tryd.prog H55.sp 2 (inlK Tryd.prog H55 m 2) m fh55_86 (subc [1, 1, 0, 0, 0] (bodyOf Tryd.f86))) n0 ⟨[(AV.ptr 0 0), .junk, .junk, .junk, (AV.d (D.v (.int .i64 y3_0))), .junk, .junk, .junk, .junk, .junk, .junk, .junk, .junk, .junk, .junk, .junk, .junk, .junk, .junk, .junk, .junk, .junk, .junk, .junk, .junk, .junk, .junk, .junk, .junk, .junk, .junk, .junk, .junk, .junk, .junk, .junk, .junk, .junk, .junk, .junk, .junk, .junk, .junk, .junk, .junk, .junk], [(Blk.d 128 y3_1), (Blk.a 1 [(AV.ptr 0 0)])]⟩
  (contK Tryd.prog H55.sp 2 (inlK Tryd.prog H55 m 2) m fh55_86 (endK Tryd.prog Tryd.f86 (fun v L => opsK Tryd.prog H55.sp 0 true (inlK Tryd.prog H55 m 3) (regOps (subc [1, 1, 1, 1, 1, 0] (bodyOf Tryd.f55))) (List.drop 1 (Array.toList (regOps (subc [1, 1, 1, 1, 1, 0] (bodyOf Tryd.f55))))) ⟨setSl [(AV.d (D.list y0_0 y0_1 y0_2)), (AV.d (D.list y0_3 y0_4 y0_5)), .junk, .junk, .junk, .junk, .junk, (AV.ptr 0 0), (AV.clo 94 [(AV.ptr 1 0)]), .junk, .junk, .junk, .junk, .junk, .junk, .junk, .junk, .junk, .junk, .junk, (AV.d (D.list y0_6 y0_7 y0_8)), (AV.d (D.v (.int .i64 y0_9))), (AV.d (D.v (.int .i64 y0_10))), (AV.d (D.v (.bool false))), .junk, .junk, .junk, .junk, .junk, .junk, .junk, .junk, .junk, .junk, .junk, .junk, .junk, .junk, .junk, .junk, .junk, .junk, .junk, .junk, .junk, .junk, .junk, .junk, .junk, .junk, .junk, .junk, .junk, .junk, .junk, .junk, .junk] (some 54) v, L⟩ (fun st => contK Tryd.prog H55.sp 0 (inlK Tryd.prog H55 m 3) m fh55_55 (endK Tryd.prog Tryd.f55 (fun v L => viewK L 8 v some)) [.code (subc [1, 1, 1, 1, 1, 1] (bodyOf Tryd.f55))] .normal st))) [.block 0, .code (subc [1, 1, 1] (bodyOf Tryd.f86))])
noncomputable def F55_86_j3 (m n0 : Nat) (y0_0 : Nat) (y0_1 : Option Nat) (y0_2 : List D) (y0_3 : Nat) (y0_4 : Option Nat) (y0_5 : List D) (y0_6 : Nat) (y0_7 : Option Nat) (y0_8 : List D) (y0_9 : Int) (y0_10 : Int) (u1_0 : Int) (u1_1 : List D) : Option D :=
 cutK (codeK Tryd.prog H55.sp 2 (inlK Tryd.prog H55 m 2) m fh55_86 (subc [1, 1, 0, 0, 0, 1] (bodyOf Tryd.f86)) ⟨[(AV.ptr 0 0), .junk, .junk, .junk, (AV.d (D.v (.int .i64 u1_0))), .junk, .junk, .junk, .junk, .junk, .junk, .junk, .junk, .junk, .junk, .junk, .junk, .junk, .junk, .junk, .junk, .junk, .junk, .junk, .junk, .junk, .junk, .junk, .junk, .junk, .junk, .junk, .junk, .junk, .junk, .junk, .junk, .junk, .junk, .junk, .junk, .junk, .junk, .junk, .junk, .junk], [(Blk.d 128 u1_1), (Blk.a 1 [(AV.ptr 0 0)])]⟩
  (contK Tryd.prog H55.sp 2 (inlK Tryd.prog H55 m 2) m fh55_86 (endK Tryd.prog Tryd.f86 (fun v L => opsK Tryd.prog H55.sp 0 true (inlK Tryd.prog H55 m 3) (regOps (subc [1, 1, 1, 1, 1, 0] (bodyOf Tryd.f55))) (List.drop 1 (Array.toList (regOps (subc [1, 1, 1, 1, 1, 0] (bodyOf Tryd.f55))))) ⟨setSl [(AV.d (D.list y0_0 y0_1 y0_2)), (AV.d (D.list y0_3 y0_4 y0_5)), .junk, .junk, .junk, .junk, .junk, (AV.ptr 0 0), (AV.clo 94 [(AV.ptr 1 0)]), .junk, .junk, .junk, .junk, .junk, .junk, .junk, .junk, .junk, .junk, .junk, (AV.d (D.list y0_6 y0_7 y0_8)), (AV.d (D.v (.int .i64 y0_9))), (AV.d (D.v (.int .i64 y0_10))), (AV.d (D.v (.bool false))), .junk, .junk, .junk, .junk, .junk, .junk, .junk, .junk, .junk, .junk, .junk, .junk, .junk, .junk, .junk, .junk, .junk, .junk, .junk, .junk, .junk, .junk, .junk, .junk, .junk, .junk, .junk, .junk, .junk, .junk, .junk, .junk, .junk] (some 54) v, L⟩ (fun st => contK Tryd.prog H55.sp 0 (inlK Tryd.prog H55 m 3) m fh55_55 (endK Tryd.prog Tryd.f55 (fun v L => viewK L 8 v some)) [.code (subc [1, 1, 1, 1, 1, 1] (bodyOf Tryd.f55))] .normal st))) [.loop [true, false, false, false, true, false, false, false, false, false, false, false, false, false, false, false, false, false, false, false, false, false, false, false, false, false, false, false, false, false, false, false, false, false, false, false, false, false, false, false, false, false, false, false, false, false] 2 (subc [1, 1, 0, 0, 0] (bodyOf Tryd.f86)) n0, .block 0, .code (subc [1, 1, 1] (bodyOf Tryd.f86))]))
theorem F55_86_j3_e (m n0 : Nat) (y0_0 : Nat) (y0_1 : Option Nat) (y0_2 : List D) (y0_3 : Nat) (y0_4 : Option Nat) (y0_5 : List D) (y0_6 : Nat) (y0_7 : Option Nat) (y0_8 : List D) (y0_9 : Int) (y0_10 : Int) (u1_0 : Int) (u1_1 : List D) : F55_86_j3 m n0 y0_0 y0_1 y0_2 y0_3 y0_4 y0_5 y0_6 y0_7 y0_8 y0_9 y0_10 u1_0 u1_1 =
 (F55_86_2 m n0 y0_0 y0_1 y0_2 y0_3 y0_4 y0_5 y0_6 y0_7 y0_8 y0_9 y0_10 (IntKind.wrap .i64 (u1_0 - (1 : Int))) u1_1) := by kernel_rfl
noncomputable def F55_86_j4 (m : Nat) (y0_0 : Nat) (y0_1 : Option Nat) (y0_2 : List D) (y0_3 : Nat) (y0_4 : Option Nat) (y0_5 : List D) (y0_6 : Nat) (y0_7 : Option Nat) (y0_8 : List D) (y0_9 : Int) (y0_10 : Int) (u2_0 : Int) (u2_1 : List D) : Option D :=
 cutK (codeK Tryd.prog H55.sp 2 (inlK Tryd.prog H55 m 2) m fh55_86 (subc [1, 1, 1] (bodyOf Tryd.f86)) ⟨[(AV.ptr 0 0), .junk, .junk, .junk, (AV.d (D.v (.int .i64 u2_0))), .junk, .junk, .junk, .junk, .junk, .junk, .junk, .junk, .junk, .junk, .junk, .junk, .junk, .junk, .junk, .junk, .junk, .junk, .junk, .junk, .junk, .junk, .junk, .junk, .junk, .junk, .junk, .junk, .junk, .junk, .junk, .junk, .junk, .junk, .junk, .junk, .junk, .junk, .junk, .junk, .junk], [(Blk.d 128 u2_1), (Blk.a 1 [(AV.ptr 0 0)])]⟩
  (contK Tryd.prog H55.sp 2 (inlK Tryd.prog H55 m 2) m fh55_86 (endK Tryd.prog Tryd.f86 (fun v L => opsK Tryd.prog H55.sp 0 true (inlK Tryd.prog H55 m 3) (regOps (subc [1, 1, 1, 1, 1, 0] (bodyOf Tryd.f55))) (List.drop 1 (Array.toList (regOps (subc [1, 1, 1, 1, 1, 0] (bodyOf Tryd.f55))))) ⟨setSl [(AV.d (D.list y0_0 y0_1 y0_2)), (AV.d (D.list y0_3 y0_4 y0_5)), .junk, .junk, .junk, .junk, .junk, (AV.ptr 0 0), (AV.clo 94 [(AV.ptr 1 0)]), .junk, .junk, .junk, .junk, .junk, .junk, .junk, .junk, .junk, .junk, .junk, (AV.d (D.list y0_6 y0_7 y0_8)), (AV.d (D.v (.int .i64 y0_9))), (AV.d (D.v (.int .i64 y0_10))), (AV.d (D.v (.bool false))), .junk, .junk, .junk, .junk, .junk, .junk, .junk, .junk, .junk, .junk, .junk, .junk, .junk, .junk, .junk, .junk, .junk, .junk, .junk, .junk, .junk, .junk, .junk, .junk, .junk, .junk, .junk, .junk, .junk, .junk, .junk, .junk, .junk] (some 54) v, L⟩ (fun st => contK Tryd.prog H55.sp 0 (inlK Tryd.prog H55 m 3) m fh55_55 (endK Tryd.prog Tryd.f55 (fun v L => viewK L 8 v some)) [.code (subc [1, 1, 1, 1, 1, 1] (bodyOf Tryd.f55))] .normal st))) []))
noncomputable def F55_86_8 (m n0 : Nat) (y0_0 : Nat) (y0_1 : Option Nat) (y0_2 : List D) (y0_3 : Nat) (y0_4 : Option Nat) (y0_5 : List D) (y0_6 : Nat) (y0_7 : Option Nat) (y0_8 : List D) (y0_9 : Int) (y0_10 : Int) (y4_0 : Int) (y4_1 : Nat) (y4_2 : Int) (y4_3 : Int) (y4_4 : List D) (y4_5 : List D) : Option D :=
 loopIter [false, false, false, false, true, true, false, false, false, false, false, false, false, false, false, false, false, false, false, false, false, false, false, false, false, false, false, true, true, true, false, false, false, false, false, false, false, false, false, false, false, false, false, false, false, false] 2 3 (codeK Tryd.prog H55.sp 2 (inlK Tryd.prog H55 m 2) m fh55_86 (subc [1, 1, 1, 1, 1, 0, 1, 0, 0] (bodyOf Tryd.f86))) n0 ⟨[.junk, .junk, .junk, .junk, (AV.d (D.v (.int .i64 y4_0))), (AV.sl 2 0 128 (some 128) 1), .junk, .junk, .junk, .junk, .junk, .junk, .junk, .junk, .junk, .junk, .junk, .junk, .junk, .junk, .junk, .junk, .junk, .junk, .junk, .junk, .junk, (AV.sl 0 0 y4_1 (some 128) 1), (AV.d (D.v (.int .i64 y4_2))), (AV.d (D.v (.int .i64 y4_3))), .junk, .junk, .junk, .junk, .junk, .junk, .junk, .junk, .junk, .junk, .junk, .junk, .junk, .junk, .junk, .junk], [(Blk.d 128 y4_4), (Blk.a 1 [(AV.ptr 0 0)]), (Blk.d 128 y4_5)]⟩
  (contK Tryd.prog H55.sp 2 (inlK Tryd.prog H55 m 2) m fh55_86 (endK Tryd.prog Tryd.f86 (fun v L => opsK Tryd.prog H55.sp 0 true (inlK Tryd.prog H55 m 3) (regOps (subc [1, 1, 1, 1, 1, 0] (bodyOf Tryd.f55))) (List.drop 1 (Array.toList (regOps (subc [1, 1, 1, 1, 1, 0] (bodyOf Tryd.f55))))) ⟨setSl [(AV.d (D.list y0_0 y0_1 y0_2)), (AV.d (D.list y0_3 y0_4 y0_5)), .junk, .junk, .junk, .junk, .junk, (AV.ptr 0 0), (AV.clo 94 [(AV.ptr 1 0)]), .junk, .junk, .junk, .junk, .junk, .junk, .junk, .junk, .junk, .junk, .junk, (AV.d (D.list y0_6 y0_7 y0_8)), (AV.d (D.v (.int .i64 y0_9))), (AV.d (D.v (.int .i64 y0_10))), (AV.d (D.v (.bool false))), .junk, .junk, .junk, .junk, .junk, .junk, .junk, .junk, .junk, .junk, .junk, .junk, .junk, .junk, .junk, .junk, .junk, .junk, .junk, .junk, .junk, .junk, .junk, .junk, .junk, .junk, .junk, .junk, .junk, .junk, .junk, .junk, .junk] (some 54) v, L⟩ (fun st => contK Tryd.prog H55.sp 0 (inlK Tryd.prog H55 m 3) m fh55_55 (endK Tryd.prog Tryd.f55 (fun v L => viewK L 8 v some)) [.code (subc [1, 1, 1, 1, 1, 1] (bodyOf Tryd.f55))] .normal st))) [.block 2, .code (subc [1, 1, 1, 1, 1, 1] (bodyOf Tryd.f86))])
theorem F55_86_8_0 (m : Nat) (y0_0 : Nat) (y0_1 : Option Nat) (y0_2 : List D) (y0_3 : Nat) (y0_4 : Option Nat) (y0_5 : List D) (y0_6 : Nat) (y0_7 : Option Nat) (y0_8 : List D) (y0_9 : Int) (y0_10 : Int) (y4_0 : Int) (y4_1 : Nat) (y4_2 : Int) (y4_3 : Int) (y4_4 : List D) (y4_5 : List D) : F55_86_8 m 0 y0_0 y0_1 y0_2 y0_3 y0_4 y0_5 y0_6 y0_7 y0_8 y0_9 y0_10 y4_0 y4_1 y4_2 y4_3 y4_4 y4_5 = none := rfl
theorem F55_86_8_s (m n0 : Nat) (y0_0 : Nat) (y0_1 : Option Nat) (y0_2 : List D) (y0_3 : Nat) (y0_4 : Option Nat) (y0_5 : List D) (y0_6 : Nat) (y0_7 : Option Nat) (y0_8 : List D) (y0_9 : Int) (y0_10 : Int) (y4_0 : Int) (y4_1 : Nat) (y4_2 : Int) (y4_3 : Int) (y4_4 : List D) (y4_5 : List D) : F55_86_8 m (n0 + 1) y0_0 y0_1 y0_2 y0_3 y0_4 y0_5 y0_6 y0_7 y0_8 y0_9 y0_10 y4_0 y4_1 y4_2 y4_3 y4_4 y4_5 =
 (cond (decide (y4_3 < y4_2))
 (if 0 ≤ y4_3 ∧ y4_3 < ((y4_1 : Nat) : Int) then
 (rdI .u8 y4_4[(0 + ((Int.toNat y4_3) * 1))]?).bind fun x38 =>
 if 0 ≤ (IntKind.wrap .i64 ((IntKind.wrap .i64 (y4_0 - (1 : Int))) - y4_3)) ∧ (IntKind.wrap .i64 ((IntKind.wrap .i64 (y4_0 - (1 : Int))) - y4_3)) < (128 : Int) then
 if 1 = 1 ∧ (0 + ((Int.toNat (IntKind.wrap .i64 ((IntKind.wrap .i64 (y4_0 - (1 : Int))) - y4_3))) * 1)) < 128 then
 F55_86_8 m n0 y0_0 y0_1 y0_2 y0_3 y0_4 y0_5 y0_6 y0_7 y0_8 y0_9 y0_10 y4_0 y4_1 y4_2 (IntKind.wrap .i64 (y4_3 + (1 : Int))) y4_4 (List.set y4_5 (0 + ((Int.toNat (IntKind.wrap .i64 ((IntKind.wrap .i64 (y4_0 - (1 : Int))) - y4_3))) * 1)) (D.v (.int .u8 x38)))
 else none
 else none
 else none)
 (if 0 ≤ y4_0 ∧ y4_0 ≤ (128 : Int) then
 if 0 ≤ y4_0 ∧ y4_0 ≤ (((Int.toNat y4_0) : Nat) : Int) then
 if (0 + (((Int.toNat y4_0) - 0) * 1)) ≤ 128 then
 some (D.tup [(D.list ((Int.toNat y4_0) - 0) (some ((Int.toNat y4_0) - 0)) (cutL 128 y4_5 0 (((Int.toNat y4_0) - 0) * 1))), (D.v (.int .i64 (0 : Int)))])
 else none
 else none
 else none)) := by kernel_rfl
theorem F55_86_j4_e (m : Nat) (y0_0 : Nat) (y0_1 : Option Nat) (y0_2 : List D) (y0_3 : Nat) (y0_4 : Option Nat) (y0_5 : List D) (y0_6 : Nat) (y0_7 : Option Nat) (y0_8 : List D) (y0_9 : Int) (y0_10 : Int) (u2_0 : Int) (u2_1 : List D) : F55_86_j4 m y0_0 y0_1 y0_2 y0_3 y0_4 y0_5 y0_6 y0_7 y0_8 y0_9 y0_10 u2_0 u2_1 =
 (cond (decide (u2_0 > (64 : Int)))
 (some (D.tup [(D.list 0 (some 0) []), (D.v (.int .i64 (3 : Int)))]))
 (if 0 ≤ u2_0 ∧ u2_0 ≤ (128 : Int) then
 F55_86_8 m m y0_0 y0_1 y0_2 y0_3 y0_4 y0_5 y0_6 y0_7 y0_8 y0_9 y0_10 u2_0 ((Int.toNat u2_0) - 0) ((((Int.toNat u2_0) - 0) : Nat) : Int) (0 : Int) u2_1 (List.replicate 128 (D.v (.int .u8 (0 : Int))))
 else none)) := by kernel_rfl
theorem F55_86_2_0 (m : Nat) (y0_0 : Nat) (y0_1 : Option Nat) (y0_2 : List D) (y0_3 : Nat) (y0_4 : Option Nat) (y0_5 : List D) (y0_6 : Nat) (y0_7 : Option Nat) (y0_8 : List D) (y0_9 : Int) (y0_10 : Int) (y3_0 : Int) (y3_1 : List D) : F55_86_2 m 0 y0_0 y0_1 y0_2 y0_3 y0_4 y0_5 y0_6 y0_7 y0_8 y0_9 y0_10 y3_0 y3_1 = none := rfl
theorem F55_86_2_s (m n0 : Nat) (y0_0 : Nat) (y0_1 : Option Nat) (y0_2 : List D) (y0_3 : Nat) (y0_4 : Option Nat) (y0_5 : List D) (y0_6 : Nat) (y0_7 : Option Nat) (y0_8 : List D) (y0_9 : Int) (y0_10 : Int) (y3_0 : Int) (y3_1 : List D) : F55_86_2 m (n0 + 1) y0_0 y0_1 y0_2 y0_3 y0_4 y0_5 y0_6 y0_7 y0_8 y0_9 y0_10 y3_0 y3_1 =
 (cond (decide (y3_0 > (0 : Int)))
 (if 0 ≤ (IntKind.wrap .i64 (y3_0 - (1 : Int))) ∧ (IntKind.wrap .i64 (y3_0 - (1 : Int))) < (128 : Int) then
 (rdI .u8 y3_1[(0 + ((Int.toNat (IntKind.wrap .i64 (y3_0 - (1 : Int)))) * 1))]?).bind fun x35 =>
 cond (x35 == (0 : Int))
 (F55_86_j3 m n0 y0_0 y0_1 y0_2 y0_3 y0_4 y0_5 y0_6 y0_7 y0_8 y0_9 y0_10 y3_0 y3_1)
 (F55_86_j4 m y0_0 y0_1 y0_2 y0_3 y0_4 y0_5 y0_6 y0_7 y0_8 y0_9 y0_10 y3_0 y3_1)
 else none)
 (F55_86_j4 m y0_0 y0_1 y0_2 y0_3 y0_4 y0_5 y0_6 y0_7 y0_8 y0_9 y0_10 y3_0 y3_1)) := by kernel_rfl
theorem F55_55_7_0 (m : Nat) (y0_0 : Nat) (y0_1 : Option Nat) (y0_2 : List D) (y0_3 : Nat) (y0_4 : Option Nat) (y0_5 : List D) (y0_6 : Nat) (y0_7 : Option Nat) (y0_8 : List D) (y0_9 : Int) (y0_10 : Int) (y0_11 : List D) : F55_55_7 m 0 y0_0 y0_1 y0_2 y0_3 y0_4 y0_5 y0_6 y0_7 y0_8 y0_9 y0_10 y0_11 = none := rfl
theorem F55_55_7_s (m n0 : Nat) (y0_0 : Nat) (y0_1 : Option Nat) (y0_2 : List D) (y0_3 : Nat) (y0_4 : Option Nat) (y0_5 : List D) (y0_6 : Nat) (y0_7 : Option Nat) (y0_8 : List D) (y0_9 : Int) (y0_10 : Int) (y0_11 : List D) : F55_55_7 m (n0 + 1) y0_0 y0_1 y0_2 y0_3 y0_4 y0_5 y0_6 y0_7 y0_8 y0_9 y0_10 y0_11 =
 (cond (decide (y0_10 < y0_9))
 (if 0 ≤ y0_10 ∧ y0_10 < ((y0_6 : Nat) : Int) then
 (rdI .u8 y0_8[((Int.toNat y0_10) * 1)]?).bind fun x23 =>
 F55_55_10 m n0 m y0_0 y0_1 y0_2 y0_3 y0_4 y0_5 y0_10 x23 y0_6 y0_7 y0_8 y0_9 ((y0_3 : Nat) : Int) (0 : Int) y0_11
 else none)
 (F55_86_2 m m y0_0 y0_1 y0_2 y0_3 y0_4 y0_5 y0_6 y0_7 y0_8 y0_9 y0_10 (128 : Int) y0_11)) := by kernel_rfl
noncomputable def F55 (m : Nat) (a0n : Nat) (a0c : Option Nat) (a0 : List D) (a1n : Nat) (a1c : Option Nat) (a1 : List D) : Option D :=
 (sp83 [(D.list a0n a0c a0), (D.list a1n a1c a1)]).bind fun d1 =>
 (rdI .i64 (some d1)).bind fun x2 =>
 cond (x2 != (0 : Int))
 (some (D.tup [(D.list 0 (some 0) []), (D.v (.int .i64 x2))]))
 (F55_55_7 m m a0n a0c a0 a1n a1c a1 a0n a0c a0 ((a0n : Nat) : Int) (0 : Int) (List.replicate 128 (D.v (.int .u8 (0 : Int)))))
theorem F55_eq (m : Nat) (a0n : Nat) (a0c : Option Nat) (a0 : List D) (a1n : Nat) (a1c : Option Nat) (a1 : List D) : funD Tryd.prog H55 m 3 fh55_55 Tryd.f55 [(D.list a0n a0c a0), (D.list a1n a1c a1)] = F55 m a0n a0c a0 a1n a1c a1 := by kernel_rfl
theorem en55 : Enters Tryd.prog 55 := ⟨Tryd.f55, Tryd.func55, by kernel_rfl, by kernel_rfl⟩
theorem dt55 {ds : List D} {d : D} (h : funD Tryd.prog H55 M 3 fh55_55 Tryd.f55 ds = some d) : DataSem Tryd.prog 55 ds d := data_sound (H := H55) (SpOk.cons ds83 SpOk.nil) mixed (InlOk.cons Tryd.func85 en85 (InlOk.cons Tryd.func86 en86 (InlOk.cons Tryd.func94 en94 InlOk.nil))) Tryd.func55 en55 h
noncomputable def sp55 : List D → Option D
  | [.list a0n a0c a0, .list a1n a1c a1] => F55 M a0n a0c a0 a1n a1c a1
  | _ => none
theorem ds55 : ∀ ds d, sp55 ds = some d → DataSem Tryd.prog 55 ds d := by
  intro ds d h
  unfold sp55 at h
  split at h
  · exact dt55 ((F55_eq M _ _ _ _ _ _).trans h)
  · cases h

-- ('str', '"vidimus/nats.Div"')
def fh56_56 : FnH := ⟨[(9, ⟨[false, true, false, false, false, false, false, false, true, true, true, false, false, false, false, false, false, false, false, false, false, false, false, false, false, false, false, false, false, false, false, false, false, false, false, false, false, false, false, false, false, false, false, false, false, false, false, false, false, false], [], (some 1)⟩)], []⟩
def fh56_86 : FnH := ⟨[(2, ⟨[true, false, false, false, true, false, false, false, false, false, false, false, false, false, false, false, false, false, false, false, false, false, false, false, false, false, false, false, false, false, false, false, false, false, false, false, false, false, false, false, false, false, false, false, false, false], [], (some 0)⟩), (8, ⟨[false, false, false, false, true, true, false, false, false, false, false, false, false, false, false, false, false, false, false, false, false, false, false, false, false, false, false, true, true, true, false, false, false, false, false, false, false, false, false, false, false, false, false, false, false, false], [], (some 1)⟩)], [(3, ⟨[true, false, false, false, true, false, false, false, false, false, false, false, false, false, false, false, false, false, false, false, false, false, false, false, false, false, false, false, false, false, false, false, false, false, false, false, false, false, false, false, false, false, false, false, false, false], [], (some 0)⟩), (4, ⟨[true, false, false, false, true, false, false, false, false, false, false, false, false, false, false, false, false, false, false, false, false, false, false, false, false, false, false, false, false, false, false, false, false, false, false, false, false, false, false, false, false, false, false, false, false, false], [], (some 0)⟩)]⟩
noncomputable def H56 : Hints := ⟨[(68, sp68), (84, sp84)], [(86, Tryd.f86, fh56_86)]⟩
noncomputable def F56_56_9 (m n0 : Nat) (y0_0 : Int) (y0_1 : Int) (y0_2 : Int) (y0_3 : List D) : Option D :=
 loopIter [false, true, false, false, false, false, false, false, true, true, true, false, false, false, false, false, false, false, false, false, false, false, false, false, false, false, false, false, false, false, false, false, false, false, false, false, false, false, false, false, false, false, false, false, false, false, false, false, false, false] 0 1 (codeK Tryd.prog H56.sp 0 (inlK Tryd.prog H56 m 3) m fh56_56 (subc [1, 1, 1, 1, 1, 0, 1, 0, 0] (bodyOf Tryd.f56))) n0 ⟨[.junk, (AV.d (D.v (.int .u32 y0_0))), .junk, .junk, .junk, .junk, .junk, .junk, (AV.ptr 0 0), (AV.d (D.v (.int .u64 y0_1))), (AV.d (D.v (.int .i64 y0_2))), .junk, .junk, .junk, .junk, .junk, .junk, .junk, .junk, .junk, .junk, .junk, .junk, .junk, .junk, .junk, .junk, .junk, .junk, .junk, .junk, .junk, .junk, .junk, .junk, .junk, .junk, .junk, .junk, .junk, .junk, .junk, .junk, .junk, .junk, .junk, .junk, .junk, .junk, .junk], [(Blk.d 128 y0_3)]⟩
  (contK Tryd.prog H56.sp 0 (inlK Tryd.prog H56 m 3) m fh56_56 (endK Tryd.prog Tryd.f56 (fun v L => viewK L 8 v some)) [.block 0, .code (subc [1, 1, 1, 1, 1, 1] (bodyOf Tryd.f56))])
noncomputable def F56_86_2 (m n0 : Nat) (y0_0 : Int) (y0_1 : Int) (y0_2 : Int) (y1_0 : Int) (y1_1 : List D) : Option D :=
 loopIter [true, false, false, false, true, false, false, false, false, false, false, false, false, false, false, false, false, false, false, false, false, false, false, false, false, false, false, false, false, false, false, false, false, false, false, false, false, false, false, false, false, false, false, false, false, false] 1 1 (codeK Tryd.prog H56.sp 1 (inlK Tryd.prog H56 m 2) m fh56_86 (subc [1, 1, 0, 0, 0] (bodyOf Tryd.f86))) n0 ⟨[(AV.ptr 0 0), .junk, .junk, .junk, (AV.d (D.v (.int .i64 y1_0))), .junk, .junk, .junk, .junk, .junk, .junk, .junk, .junk, .junk, .junk, .junk, .junk, .junk, .junk, .junk, .junk, .junk, .junk, .junk, .junk, .junk, .junk, .junk, .junk, .junk, .junk, .junk, .junk, .junk, .junk, .junk, .junk, .junk, .junk, .junk, .junk, .junk, .junk, .junk, .junk, .junk], [(Blk.d 128 y1_1)]⟩
  (contK Tryd.prog H56.sp 1 (inlK Tryd.prog H56 m 2) m fh56_86 (endK Tryd.prog Tryd.f86 (fun v L => opsK Tryd.prog H56.sp 0 true (inlK Tryd.prog H56 m 3) (regOps (subc [1, 1, 1, 1, 1, 1, 0] (bodyOf Tryd.f56))) (List.drop 1 (Array.toList (regOps (subc [1, 1, 1, 1, 1, 1, 0] (bodyOf Tryd.f56))))) ⟨setSl [.junk, (AV.d (D.v (.int .u32 y0_0))), .junk, .junk, .junk, .junk, .junk, .junk, (AV.ptr 0 0), (AV.d (D.v (.int .u64 y0_1))), (AV.d (D.v (.int .i64 y0_2))), .junk, .junk, .junk, .junk, .junk, .junk, .junk, .junk, .junk, (AV.d (D.v (.int .i64 y0_2))), (AV.d (D.v (.bool false))), .junk, .junk, .junk, .junk, .junk, .junk, .junk, .junk, .junk, .junk, .junk, .junk, .junk, .junk, .junk, .junk, .junk, .junk, .junk, .junk, .junk, .junk, .junk, .junk, .junk, .junk, .junk, .junk] (some 43) v, L⟩ (fun st => contK Tryd.prog H56.sp 0 (inlK Tryd.prog H56 m 3) m fh56_56 (endK Tryd.prog Tryd.f56 (fun v L => viewK L 8 v some)) [.code (subc [1, 1, 1, 1, 1, 1, 1] (bodyOf Tryd.f56))] .normal st))) [.block 0, .code (subc [1, 1, 1] (bodyOf Tryd.f86))])
noncomputable def F56_86_j3 (m n0 : Nat) (y0_0 : Int) (y0_1 : Int) (y0_2 : Int) (u0_0 : Int) (u0_1 : List D) : Option D :=
 cutK (codeK Tryd.prog H56.sp 1 (inlK Tryd.prog H56 m 2) m fh56_86 (subc [1, 1, 0, 0, 0, 1] (bodyOf Tryd.f86)) ⟨[(AV.ptr 0 0), .junk, .junk, .junk, (AV.d (D.v (.int .i64 u0_0))), .junk, .junk, .junk, .junk, .junk, .junk, .junk, .junk, .junk, .junk, .junk, .junk, .junk, .junk, .junk, .junk, .junk, .junk, .junk, .junk, .junk, .junk, .junk, .junk, .junk, .junk, .junk, .junk, .junk, .junk, .junk, .junk, .junk, .junk, .junk, .junk, .junk, .junk, .junk, .junk, .junk], [(Blk.d 128 u0_1)]⟩
  (contK Tryd.prog H56.sp 1 (inlK Tryd.prog H56 m 2) m fh56_86 (endK Tryd.prog Tryd.f86 (fun v L => opsK Tryd.prog H56.sp 0 true (inlK Tryd.prog H56 m 3) (regOps (subc [1, 1, 1, 1, 1, 1, 0] (bodyOf Tryd.f56))) (List.drop 1 (Array.toList (regOps (subc [1, 1, 1, 1, 1, 1, 0] (bodyOf Tryd.f56))))) ⟨setSl [.junk, (AV.d (D.v (.int .u32 y0_0))), .junk, .junk, .junk, .junk, .junk, .junk, (AV.ptr 0 0), (AV.d (D.v (.int .u64 y0_1))), (AV.d (D.v (.int .i64 y0_2))), .junk, .junk, .junk, .junk, .junk, .junk, .junk, .junk, .junk, (AV.d (D.v (.int .i64 y0_2))), (AV.d (D.v (.bool false))), .junk, .junk, .junk, .junk, .junk, .junk, .junk, .junk, .junk, .junk, .junk, .junk, .junk, .junk, .junk, .junk, .junk, .junk, .junk, .junk, .junk, .junk, .junk, .junk, .junk, .junk, .junk, .junk] (some 43) v, L⟩ (fun st => contK Tryd.prog H56.sp 0 (inlK Tryd.prog H56 m 3) m fh56_56 (endK Tryd.prog Tryd.f56 (fun v L => viewK L 8 v some)) [.code (subc [1, 1, 1, 1, 1, 1, 1] (bodyOf Tryd.f56))] .normal st))) [.loop [true, false, false, false, true, false, false, false, false, false, false, false, false, false, false, false, false, false, false, false, false, false, false, false, false, false, false, false, false, false, false, false, false, false, false, false, false, false, false, false, false, false, false, false, false, false] 1 (subc [1, 1, 0, 0, 0] (bodyOf Tryd.f86)) n0, .block 0, .code (subc [1, 1, 1] (bodyOf Tryd.f86))]))
theorem F56_86_j3_e (m n0 : Nat) (y0_0 : Int) (y0_1 : Int) (y0_2 : Int) (u0_0 : Int) (u0_1 : List D) : F56_86_j3 m n0 y0_0 y0_1 y0_2 u0_0 u0_1 =
 (F56_86_2 m n0 y0_0 y0_1 y0_2 (IntKind.wrap .i64 (u0_0 - (1 : Int))) u0_1) := by kernel_rfl
noncomputable def F56_86_j4 (m : Nat) (y0_0 : Int) (y0_1 : Int) (y0_2 : Int) (u1_0 : Int) (u1_1 : List D) : Option D :=
 cutK (codeK Tryd.prog H56.sp 1 (inlK Tryd.prog H56 m 2) m fh56_86 (subc [1, 1, 1] (bodyOf Tryd.f86)) ⟨[(AV.ptr 0 0), .junk, .junk, .junk, (AV.d (D.v (.int .i64 u1_0))), .junk, .junk, .junk, .junk, .junk, .junk, .junk, .junk, .junk, .junk, .junk, .junk, .junk, .junk, .junk, .junk, .junk, .junk, .junk, .junk, .junk, .junk, .junk, .junk, .junk, .junk, .junk, .junk, .junk, .junk, .junk, .junk, .junk, .junk, .junk, .junk, .junk, .junk, .junk, .junk, .junk], [(Blk.d 128 u1_1)]⟩
  (contK Tryd.prog H56.sp 1 (inlK Tryd.prog H56 m 2) m fh56_86 (endK Tryd.prog Tryd.f86 (fun v L => opsK Tryd.prog H56.sp 0 true (inlK Tryd.prog H56 m 3) (regOps (subc [1, 1, 1, 1, 1, 1, 0] (bodyOf Tryd.f56))) (List.drop 1 (Array.toList (regOps (subc [1, 1, 1, 1, 1, 1, 0] (bodyOf Tryd.f56))))) ⟨setSl [.junk, (AV.d (D.v (.int .u32 y0_0))), .junk, .junk, .junk, .junk, .junk, .junk, (AV.ptr 0 0), (AV.d (D.v (.int .u64 y0_1))), (AV.d (D.v (.int .i64 y0_2))), .junk, .junk, .junk, .junk, .junk, .junk, .junk, .junk, .junk, (AV.d (D.v (.int .i64 y0_2))), (AV.d (D.v (.bool false))), .junk, .junk, .junk, .junk, .junk, .junk, .junk, .junk, .junk, .junk, .junk, .junk, .junk, .junk, .junk, .junk, .junk, .junk, .junk, .junk, .junk, .junk, .junk, .junk, .junk, .junk, .junk, .junk] (some 43) v, L⟩ (fun st => contK Tryd.prog H56.sp 0 (inlK Tryd.prog H56 m 3) m fh56_56 (endK Tryd.prog Tryd.f56 (fun v L => viewK L 8 v some)) [.code (subc [1, 1, 1, 1, 1, 1, 1] (bodyOf Tryd.f56))] .normal st))) []))
noncomputable def F56_86_8 (m n0 : Nat) (y0_0 : Int) (y0_1 : Int) (y0_2 : Int) (y2_0 : Int) (y2_1 : Nat) (y2_2 : Int) (y2_3 : Int) (y2_4 : List D) (y2_5 : List D) : Option D :=
 loopIter [false, false, false, false, true, true, false, false, false, false, false, false, false, false, false, false, false, false, false, false, false, false, false, false, false, false, false, true, true, true, false, false, false, false, false, false, false, false, false, false, false, false, false, false, false, false] 1 2 (codeK Tryd.prog H56.sp 1 (inlK Tryd.prog H56 m 2) m fh56_86 (subc [1, 1, 1, 1, 1, 0, 1, 0, 0] (bodyOf Tryd.f86))) n0 ⟨[.junk, .junk, .junk, .junk, (AV.d (D.v (.int .i64 y2_0))), (AV.sl 1 0 128 (some 128) 1), .junk, .junk, .junk, .junk, .junk, .junk, .junk, .junk, .junk, .junk, .junk, .junk, .junk, .junk, .junk, .junk, .junk, .junk, .junk, .junk, .junk, (AV.sl 0 0 y2_1 (some 128) 1), (AV.d (D.v (.int .i64 y2_2))), (AV.d (D.v (.int .i64 y2_3))), .junk, .junk, .junk, .junk, .junk, .junk, .junk, .junk, .junk, .junk, .junk, .junk, .junk, .junk, .junk, .junk], [(Blk.d 128 y2_4), (Blk.d 128 y2_5)]⟩
  (contK Tryd.prog H56.sp 1 (inlK Tryd.prog H56 m 2) m fh56_86 (endK Tryd.prog Tryd.f86 (fun v L => opsK Tryd.prog H56.sp 0 true (inlK Tryd.prog H56 m 3) (regOps (subc [1, 1, 1, 1, 1, 1, 0] (bodyOf Tryd.f56))) (List.drop 1 (Array.toList (regOps (subc [1, 1, 1, 1, 1, 1, 0] (bodyOf Tryd.f56))))) ⟨setSl [.junk, (AV.d (D.v (.int .u32 y0_0))), .junk, .junk, .junk, .junk, .junk, .junk, (AV.ptr 0 0), (AV.d (D.v (.int .u64 y0_1))), (AV.d (D.v (.int .i64 y0_2))), .junk, .junk, .junk, .junk, .junk, .junk, .junk, .junk, .junk, (AV.d (D.v (.int .i64 y0_2))), (AV.d (D.v (.bool false))), .junk, .junk, .junk, .junk, .junk, .junk, .junk, .junk, .junk, .junk, .junk, .junk, .junk, .junk, .junk, .junk, .junk, .junk, .junk, .junk, .junk, .junk, .junk, .junk, .junk, .junk, .junk, .junk] (some 43) v, L⟩ (fun st => contK Tryd.prog H56.sp 0 (inlK Tryd.prog H56 m 3) m fh56_56 (endK Tryd.prog Tryd.f56 (fun v L => viewK L 8 v some)) [.code (subc [1, 1, 1, 1, 1, 1, 1] (bodyOf Tryd.f56))] .normal st))) [.block 2, .code (subc [1, 1, 1, 1, 1, 1] (bodyOf Tryd.f86))])
theorem F56_86_8_0 (m : Nat) (y0_0 : Int) (y0_1 : Int) (y0_2 : Int) (y2_0 : Int) (y2_1 : Nat) (y2_2 : Int) (y2_3 : Int) (y2_4 : List D) (y2_5 : List D) : F56_86_8 m 0 y0_0 y0_1 y0_2 y2_0 y2_1 y2_2 y2_3 y2_4 y2_5 = none := rfl
theorem F56_86_8_s (m n0 : Nat) (y0_0 : Int) (y0_1 : Int) (y0_2 : Int) (y2_0 : Int) (y2_1 : Nat) (y2_2 : Int) (y2_3 : Int) (y2_4 : List D) (y2_5 : List D) : F56_86_8 m (n0 + 1) y0_0 y0_1 y0_2 y2_0 y2_1 y2_2 y2_3 y2_4 y2_5 =
 (cond (decide (y2_3 < y2_2))
 (if 0 ≤ y2_3 ∧ y2_3 < ((y2_1 : Nat) : Int) then
 (rdI .u8 y2_4[(0 + ((Int.toNat y2_3) * 1))]?).bind fun x13 =>
 if 0 ≤ (IntKind.wrap .i64 ((IntKind.wrap .i64 (y2_0 - (1 : Int))) - y2_3)) ∧ (IntKind.wrap .i64 ((IntKind.wrap .i64 (y2_0 - (1 : Int))) - y2_3)) < (128 : Int) then
 if 1 = 1 ∧ (0 + ((Int.toNat (IntKind.wrap .i64 ((IntKind.wrap .i64 (y2_0 - (1 : Int))) - y2_3))) * 1)) < 128 then
 F56_86_8 m n0 y0_0 y0_1 y0_2 y2_0 y2_1 y2_2 (IntKind.wrap .i64 (y2_3 + (1 : Int))) y2_4 (List.set y2_5 (0 + ((Int.toNat (IntKind.wrap .i64 ((IntKind.wrap .i64 (y2_0 - (1 : Int))) - y2_3))) * 1)) (D.v (.int .u8 x13)))
 else none
 else none
 else none)
 (if 0 ≤ y2_0 ∧ y2_0 ≤ (128 : Int) then
 if 0 ≤ y2_0 ∧ y2_0 ≤ (((Int.toNat y2_0) : Nat) : Int) then
 if (0 + (((Int.toNat y2_0) - 0) * 1)) ≤ 128 then
 some (D.tup [(D.list ((Int.toNat y2_0) - 0) (some ((Int.toNat y2_0) - 0)) (cutL 128 y2_5 0 (((Int.toNat y2_0) - 0) * 1))), (D.v (.int .u32 (IntKind.wrap .u32 y0_1))), (D.v (.int .i64 (0 : Int)))])
 else none
 else none
 else none)) := by kernel_rfl
theorem F56_86_j4_e (m : Nat) (y0_0 : Int) (y0_1 : Int) (y0_2 : Int) (u1_0 : Int) (u1_1 : List D) : F56_86_j4 m y0_0 y0_1 y0_2 u1_0 u1_1 =
 (cond (decide (u1_0 > (64 : Int)))
 (some (D.tup [(D.list 0 (some 0) []), (D.v (.int .u32 (IntKind.wrap .u32 y0_1))), (D.v (.int .i64 (3 : Int)))]))
 (if 0 ≤ u1_0 ∧ u1_0 ≤ (128 : Int) then
 F56_86_8 m m y0_0 y0_1 y0_2 u1_0 ((Int.toNat u1_0) - 0) ((((Int.toNat u1_0) - 0) : Nat) : Int) (0 : Int) u1_1 (List.replicate 128 (D.v (.int .u8 (0 : Int))))
 else none)) := by kernel_rfl
theorem F56_86_2_0 (m : Nat) (y0_0 : Int) (y0_1 : Int) (y0_2 : Int) (y1_0 : Int) (y1_1 : List D) : F56_86_2 m 0 y0_0 y0_1 y0_2 y1_0 y1_1 = none := rfl
theorem F56_86_2_s (m n0 : Nat) (y0_0 : Int) (y0_1 : Int) (y0_2 : Int) (y1_0 : Int) (y1_1 : List D) : F56_86_2 m (n0 + 1) y0_0 y0_1 y0_2 y1_0 y1_1 =
 (cond (decide (y1_0 > (0 : Int)))
 (if 0 ≤ (IntKind.wrap .i64 (y1_0 - (1 : Int))) ∧ (IntKind.wrap .i64 (y1_0 - (1 : Int))) < (128 : Int) then
 (rdI .u8 y1_1[(0 + ((Int.toNat (IntKind.wrap .i64 (y1_0 - (1 : Int)))) * 1))]?).bind fun x10 =>
 cond (x10 == (0 : Int))
 (F56_86_j3 m n0 y0_0 y0_1 y0_2 y1_0 y1_1)
 (F56_86_j4 m y0_0 y0_1 y0_2 y1_0 y1_1)
 else none)
 (F56_86_j4 m y0_0 y0_1 y0_2 y1_0 y1_1)) := by kernel_rfl
theorem F56_56_9_0 (m : Nat) (y0_0 : Int) (y0_1 : Int) (y0_2 : Int) (y0_3 : List D) : F56_56_9 m 0 y0_0 y0_1 y0_2 y0_3 = none := rfl
theorem F56_56_9_s (m n0 : Nat) (y0_0 : Int) (y0_1 : Int) (y0_2 : Int) (y0_3 : List D) : F56_56_9 m (n0 + 1) y0_0 y0_1 y0_2 y0_3 =
 (cond (decide (y0_2 ≥ (0 : Int)))
 (if 0 ≤ y0_2 ∧ y0_2 < (128 : Int) then
 (rdI .u8 y0_3[(0 + ((Int.toNat y0_2) * 1))]?).bind fun x7 =>
 if (IntKind.wrap .u64 y0_0) = 0 then none else
 if 0 ≤ y0_2 ∧ y0_2 < (128 : Int) then
 if 1 = 1 ∧ (0 + ((Int.toNat y0_2) * 1)) < 128 then
 if (IntKind.wrap .u64 y0_0) = 0 then none else
 F56_56_9 m n0 y0_0 (Int.tmod (IntKind.wrap .u64 (((BitVec.ofInt (IntKind.bits .u64) (IntKind.wrap .u64 (y0_1 * 2 ^ 8)) ||| BitVec.ofInt (IntKind.bits .u64) (IntKind.wrap .u64 x7)).toNat : Nat) : Int)) (IntKind.wrap .u64 y0_0)) (IntKind.wrap .i64 (y0_2 - (1 : Int))) (List.set y0_3 (0 + ((Int.toNat y0_2) * 1)) (D.v (.int .u8 (IntKind.wrap .u8 (IntKind.wrap .u64 (Int.tdiv (IntKind.wrap .u64 (((BitVec.ofInt (IntKind.bits .u64) (IntKind.wrap .u64 (y0_1 * 2 ^ 8)) ||| BitVec.ofInt (IntKind.bits .u64) (IntKind.wrap .u64 x7)).toNat : Nat) : Int)) (IntKind.wrap .u64 y0_0)))))))
 else none
 else none
 else none)
 (F56_86_2 m m y0_0 y0_1 y0_2 (128 : Int) y0_3)) := by kernel_rfl
noncomputable def F56 (m : Nat) (a0n : Nat) (a0c : Option Nat) (a0 : List D) (a1 : Int) : Option D :=
 (sp68 [(D.list a0n a0c a0)]).bind fun d1 =>
 (rdI .i64 (some d1)).bind fun x2 =>
 cond (x2 != (0 : Int))
 (some (D.tup [(D.list 0 (some 0) []), (D.v (.int .u32 (0 : Int))), (D.v (.int .i64 x2))]))
 (cond (a1 == (0 : Int))
 (some (D.tup [(D.list 0 (some 0) []), (D.v (.int .u32 (0 : Int))), (D.v (.int .i64 (1 : Int)))]))
 ((sp84 [(D.list a0n a0c a0)]).bind fun d3 =>
 (rdA (some d3)).bind fun c4 =>
 if (List.length c4) = 128 then
 F56_56_9 m m a1 (0 : Int) (127 : Int) c4
 else none))
theorem F56_eq (m : Nat) (a0n : Nat) (a0c : Option Nat) (a0 : List D) (a1 : Int) : funD Tryd.prog H56 m 3 fh56_56 Tryd.f56 [(D.list a0n a0c a0), (D.v (.int .u32 a1))] = F56 m a0n a0c a0 a1 := by kernel_rfl
theorem en56 : Enters Tryd.prog 56 := ⟨Tryd.f56, Tryd.func56, by kernel_rfl, by kernel_rfl⟩
theorem dt56 {ds : List D} {d : D} (h : funD Tryd.prog H56 M 3 fh56_56 Tryd.f56 ds = some d) : DataSem Tryd.prog 56 ds d := data_sound (H := H56) (SpOk.cons ds68 (SpOk.cons ds84 SpOk.nil)) mixed (InlOk.cons Tryd.func86 en86 InlOk.nil) Tryd.func56 en56 h
noncomputable def sp56 : List D → Option D
  | [.list a0n a0c a0, .v (.int .u32 a1)] => F56 M a0n a0c a0 a1
  | _ => none
theorem ds56 : ∀ ds d, sp56 ds = some d → DataSem Tryd.prog 56 ds d := by
  intro ds d h
  unfold sp56 at h
  split at h
  · exact dt56 ((F56_eq M _ _ _ _).trans h)
  · cases h

-- ('str', '"vidimus/nats.Of"')
def fh58_58 : FnH := ⟨[(2, ⟨[true, false, false, true, false, false, false, false, false, false, false, false, false, false, false, false, false], [(3, 1)], (some 1)⟩)], []⟩
def fh58_72 : FnH := ⟨[], []⟩
def fh58_89 : FnH := ⟨[(1, ⟨[true, false, true, true, false, false, false, false, false, false, false, false, false, false, false, false, false, false, false, false, false, false, false, false, false, false, false, false], [], (some 0)⟩)], []⟩
noncomputable def H58 : Hints := ⟨[], [(72, Tryd.f72, fh58_72), (89, Tryd.f89, fh58_89)]⟩
noncomputable def F58_58_2 (m n0 : Nat) (y0_0 : Int) (y0_1 : Nat) (y0_2 : Nat) (y0_3 : List D) : Option D :=
 loopIter [true, false, false, true, false, false, false, false, false, false, false, false, false, false, false, false, false] 0 1 (codeK Tryd.prog H58.sp 0 (inlK Tryd.prog H58 m 3) m fh58_58 (subc [1, 1, 0, 0, 0] (bodyOf Tryd.f58))) n0 ⟨[(AV.d (D.v (.int .u64 y0_0))), .junk, .junk, (AV.sl 0 0 y0_1 none 1), .junk, .junk, .junk, .junk, .junk, .junk, .junk, .junk, .junk, .junk, .junk, .junk, .junk], [(Blk.d y0_2 y0_3)]⟩
  (contK Tryd.prog H58.sp 0 (inlK Tryd.prog H58 m 3) m fh58_58 (endK Tryd.prog Tryd.f58 (fun v L => viewK L 8 v some)) [.block 0, .code (subc [1, 1, 1] (bodyOf Tryd.f58))])
noncomputable def F58_89_1 (m n0 : Nat) (y0_0 : Int) (y0_1 : Nat) (y1_0 : Nat) (y1_1 : Int) (y1_2 : Int) (y1_3 : Nat) (y1_4 : List D) : Option D :=
 loopIter [true, false, true, true, false, false, false, false, false, false, false, false, false, false, false, false, false, false, false, false, false, false, false, false, false, false, false, false] 1 1 (codeK Tryd.prog H58.sp 1 (inlK Tryd.prog H58 m 2) m fh58_89 (subc [1, 0, 0] (bodyOf Tryd.f89))) n0 ⟨[(AV.sl 0 0 y1_0 none 1), .junk, (AV.d (D.v (.int .i64 y1_1))), (AV.d (D.v (.int .i64 y1_2))), .junk, .junk, .junk, .junk, .junk, .junk, .junk, .junk, .junk, .junk, .junk, .junk, .junk, .junk, .junk, .junk, .junk, .junk, .junk, .junk, .junk, .junk, .junk, .junk], [(Blk.d y1_3 y1_4)]⟩
  (contK Tryd.prog H58.sp 1 (inlK Tryd.prog H58 m 2) m fh58_89 (endK Tryd.prog Tryd.f89 (fun v L => opsK Tryd.prog H58.sp 0 true (inlK Tryd.prog H58 m 3) (regOps (subc [1, 1, 1, 0] (bodyOf Tryd.f58))) (List.drop 2 (Array.toList (regOps (subc [1, 1, 1, 0] (bodyOf Tryd.f58))))) ⟨setSl [(AV.d (D.v (.int .u64 y0_0))), .junk, .junk, (AV.sl 0 0 y0_1 none 1), (AV.d (D.v (.int .u64 y0_0))), (AV.d (D.v (.bool false))), .junk, .junk, .junk, .junk, .junk, .junk, .junk, (AV.sl 0 0 y0_1 none 1), .junk, .junk, .junk] (some 14) v, L⟩ (fun st => contK Tryd.prog H58.sp 0 (inlK Tryd.prog H58 m 3) m fh58_58 (endK Tryd.prog Tryd.f58 (fun v L => viewK L 8 v some)) [.code (subc [1, 1, 1, 1] (bodyOf Tryd.f58))] .normal st))) [.block 0])
theorem F58_89_1_0 (m : Nat) (y0_0 : Int) (y0_1 : Nat) (y1_0 : Nat) (y1_1 : Int) (y1_2 : Int) (y1_3 : Nat) (y1_4 : List D) : F58_89_1 m 0 y0_0 y0_1 y1_0 y1_1 y1_2 y1_3 y1_4 = none := rfl
theorem F58_89_1_s (m n0 : Nat) (y0_0 : Int) (y0_1 : Nat) (y1_0 : Nat) (y1_1 : Int) (y1_2 : Int) (y1_3 : Nat) (y1_4 : List D) : F58_89_1 m (n0 + 1) y0_0 y0_1 y1_0 y1_1 y1_2 y1_3 y1_4 =
 (cond (decide (y1_1 < y1_2))
 (if 0 ≤ y1_2 ∧ y1_2 < ((y1_0 : Nat) : Int) then
 (rdI .u8 y1_4[(0 + ((Int.toNat y1_2) * 1))]?).bind fun x5 =>
 if 0 ≤ y1_1 ∧ y1_1 < ((y1_0 : Nat) : Int) then
 (rdI .u8 y1_4[(0 + ((Int.toNat y1_1) * 1))]?).bind fun x6 =>
 if 0 ≤ y1_1 ∧ y1_1 < ((y1_0 : Nat) : Int) then
 if 1 = 1 ∧ (0 + ((Int.toNat y1_1) * 1)) < y1_3 then
 if 0 ≤ y1_2 ∧ y1_2 < ((y1_0 : Nat) : Int) then
 if 1 = 1 ∧ (0 + ((Int.toNat y1_2) * 1)) < y1_3 then
 F58_89_1 m n0 y0_0 y0_1 y1_0 (IntKind.wrap .i64 (y1_1 + (1 : Int))) (IntKind.wrap .i64 (y1_2 - (1 : Int))) y1_3 (List.set (List.set y1_4 (0 + ((Int.toNat y1_1) * 1)) (D.v (.int .u8 x5))) (0 + ((Int.toNat y1_2) * 1)) (D.v (.int .u8 x6)))
 else none
 else none
 else none
 else none
 else none
 else none)
 (if 0 ≤ ((y0_1 : Nat) : Int) ∧ ((y0_1 : Nat) : Int) ≤ ((y0_1 : Nat) : Int) then
 if 0 ≤ ((y0_1 : Nat) : Int) ∧ ((y0_1 : Nat) : Int) ≤ (((Int.toNat ((y0_1 : Nat) : Int)) : Nat) : Int) then
 if (0 + (((Int.toNat ((y0_1 : Nat) : Int)) - 0) * 1)) ≤ y1_3 then
 some (D.list ((Int.toNat ((y0_1 : Nat) : Int)) - 0) (some ((Int.toNat ((y0_1 : Nat) : Int)) - 0)) (cutL y1_3 y1_4 0 (((Int.toNat ((y0_1 : Nat) : Int)) - 0) * 1)))
 else none
 else none
 else none)) := by kernel_rfl
theorem F58_58_2_0 (m : Nat) (y0_0 : Int) (y0_1 : Nat) (y0_2 : Nat) (y0_3 : List D) : F58_58_2 m 0 y0_0 y0_1 y0_2 y0_3 = none := rfl
theorem F58_58_2_s (m n0 : Nat) (y0_0 : Int) (y0_1 : Nat) (y0_2 : Nat) (y0_3 : List D) : F58_58_2 m (n0 + 1) y0_0 y0_1 y0_2 y0_3 =
 (cond (decide (y0_0 > (0 : Int)))
 (if 0 ≤ 0 ∧ y0_2 = (y0_1 * 1) ∧ fitsRow (y0_1 + 1) 1 ∧ 1 = 1 then
 F58_58_2 m n0 (Int.fdiv y0_0 (2 ^ 8)) (y0_1 + 1) ((y0_1 + 1) * 1) (y0_3 ++ [(D.v (.int .u8 (IntKind.wrap .u8 y0_0)))])
 else none)
 (F58_89_1 m m y0_0 y0_1 y0_1 (0 : Int) (IntKind.wrap .i64 (((y0_1 : Nat) : Int) - (1 : Int))) y0_2 y0_3)) := by kernel_rfl
noncomputable def F58 (m : Nat) (a0 : Int) : Option D :=
 F58_58_2 m m a0 0 0 []
theorem F58_eq (m : Nat) (a0 : Int) : funD Tryd.prog H58 m 3 fh58_58 Tryd.f58 [(D.v (.int .u64 a0))] = F58 m a0 := by kernel_rfl
theorem en58 : Enters Tryd.prog 58 := ⟨Tryd.f58, Tryd.func58, by kernel_rfl, by kernel_rfl⟩
theorem dt58 {ds : List D} {d : D} (h : funD Tryd.prog H58 M 3 fh58_58 Tryd.f58 ds = some d) : DataSem Tryd.prog 58 ds d := data_sound (H := H58) SpOk.nil mixed (InlOk.cons Tryd.func72 en72 (InlOk.cons Tryd.func89 en89 InlOk.nil)) Tryd.func58 en58 h
noncomputable def sp58 : List D → Option D
  | [.v (.int .u64 a0)] => F58 M a0
  | _ => none
theorem ds58 : ∀ ds d, sp58 ds = some d → DataSem Tryd.prog 58 ds d := by
  intro ds d h
  unfold sp58 at h
  split at h
  · exact dt58 ((F58_eq M _).trans h)
  · cases h

-- ('str', '"math/bits.Len8"')
def fh93_93 : FnH := ⟨[], []⟩
noncomputable def H93 : Hints := ⟨[], []⟩
noncomputable def F93 (m : Nat) (a0 : Int) : Option D :=
 if 0 ≤ a0 ∧ a0 < (((ByteArray.size (ByteArray.mk #[0, 1, 2, 2, 3, 3, 3, 3, 4, 4, 4, 4, 4, 4, 4, 4, 5, 5, 5, 5, 5, 5, 5, 5, 5, 5, 5, 5, 5, 5, 5, 5, 6, 6, 6, 6, 6, 6, 6, 6, 6, 6, 6, 6, 6, 6, 6, 6, 6, 6, 6, 6, 6, 6, 6, 6, 6, 6, 6, 6, 6, 6, 6, 6, 7, 7, 7, 7, 7, 7, 7, 7, 7, 7, 7, 7, 7, 7, 7, 7, 7, 7, 7, 7, 7, 7, 7, 7, 7, 7, 7, 7, 7, 7, 7, 7, 7, 7, 7, 7, 7, 7, 7, 7, 7, 7, 7, 7, 7, 7, 7, 7, 7, 7, 7, 7, 7, 7, 7, 7, 7, 7, 7, 7, 7, 7, 7, 7, 8, 8, 8, 8, 8, 8, 8, 8, 8, 8, 8, 8, 8, 8, 8, 8, 8, 8, 8, 8, 8, 8, 8, 8, 8, 8, 8, 8, 8, 8, 8, 8, 8, 8, 8, 8, 8, 8, 8, 8, 8, 8, 8, 8, 8, 8, 8, 8, 8, 8, 8, 8, 8, 8, 8, 8, 8, 8, 8, 8, 8, 8, 8, 8, 8, 8, 8, 8, 8, 8, 8, 8, 8, 8, 8, 8, 8, 8, 8, 8, 8, 8, 8, 8, 8, 8, 8, 8, 8, 8, 8, 8, 8, 8, 8, 8, 8, 8, 8, 8, 8, 8, 8, 8, 8, 8, 8, 8, 8, 8, 8, 8, 8, 8, 8, 8, 8, 8, 8, 8, 8, 8, 8, 8, 8, 8, 8, 8])) : Nat) : Int) then
 some (D.v (.int .i64 (IntKind.wrap .i64 (((List.getD (Array.toList (ByteArray.data (ByteArray.mk #[0, 1, 2, 2, 3, 3, 3, 3, 4, 4, 4, 4, 4, 4, 4, 4, 5, 5, 5, 5, 5, 5, 5, 5, 5, 5, 5, 5, 5, 5, 5, 5, 6, 6, 6, 6, 6, 6, 6, 6, 6, 6, 6, 6, 6, 6, 6, 6, 6, 6, 6, 6, 6, 6, 6, 6, 6, 6, 6, 6, 6, 6, 6, 6, 7, 7, 7, 7, 7, 7, 7, 7, 7, 7, 7, 7, 7, 7, 7, 7, 7, 7, 7, 7, 7, 7, 7, 7, 7, 7, 7, 7, 7, 7, 7, 7, 7, 7, 7, 7, 7, 7, 7, 7, 7, 7, 7, 7, 7, 7, 7, 7, 7, 7, 7, 7, 7, 7, 7, 7, 7, 7, 7, 7, 7, 7, 7, 7, 8, 8, 8, 8, 8, 8, 8, 8, 8, 8, 8, 8, 8, 8, 8, 8, 8, 8, 8, 8, 8, 8, 8, 8, 8, 8, 8, 8, 8, 8, 8, 8, 8, 8, 8, 8, 8, 8, 8, 8, 8, 8, 8, 8, 8, 8, 8, 8, 8, 8, 8, 8, 8, 8, 8, 8, 8, 8, 8, 8, 8, 8, 8, 8, 8, 8, 8, 8, 8, 8, 8, 8, 8, 8, 8, 8, 8, 8, 8, 8, 8, 8, 8, 8, 8, 8, 8, 8, 8, 8, 8, 8, 8, 8, 8, 8, 8, 8, 8, 8, 8, 8, 8, 8, 8, 8, 8, 8, 8, 8, 8, 8, 8, 8, 8, 8, 8, 8, 8, 8, 8, 8, 8, 8, 8, 8, 8, 8]))) (Int.toNat a0) 0).toNat : Nat) : Int))))
 else none
theorem F93_eq (m : Nat) (a0 : Int) : funD Tryd.prog H93 m 3 fh93_93 Tryd.f93 [(D.v (.int .u8 a0))] = F93 m a0 := by kernel_rfl
theorem en93 : Enters Tryd.prog 93 := ⟨Tryd.f93, Tryd.func93, by kernel_rfl, by kernel_rfl⟩
theorem dt93 {ds : List D} {d : D} (h : funD Tryd.prog H93 M 3 fh93_93 Tryd.f93 ds = some d) : DataSem Tryd.prog 93 ds d := data_sound (H := H93) SpOk.nil mixed InlOk.nil Tryd.func93 en93 h
noncomputable def sp93 : List D → Option D
  | [.v (.int .u8 a0)] => F93 M a0
  | _ => none
theorem ds93 : ∀ ds d, sp93 ds = some d → DataSem Tryd.prog 93 ds d := by
  intro ds d h
  unfold sp93 at h
  split at h
  · exact dt93 ((F93_eq M _).trans h)
  · cases h

-- ('str', '"vidimus/nats.Bits"')
def fh67_67 : FnH := ⟨[], [(3, ⟨[true, false, false, false, false, false, false, false, false, false, false, false, false, false, false, false, false, false, false, false], [], (some 0)⟩)]⟩
noncomputable def H67 : Hints := ⟨[(68, sp68), (93, sp93)], []⟩
noncomputable def F67_67_j3 (m : Nat) (u0_0 : Nat) (u0_1 : Option Nat) (u0_2 : List D) : Option D :=
 cutK (codeK Tryd.prog H67.sp 0 (inlK Tryd.prog H67 m 3) m fh67_67 (subc [1, 1] (bodyOf Tryd.f67)) ⟨[(AV.d (D.list u0_0 u0_1 u0_2)), .junk, .junk, .junk, .junk, .junk, .junk, .junk, .junk, .junk, .junk, .junk, .junk, .junk, .junk, .junk, .junk, .junk, .junk, .junk], []⟩
  (contK Tryd.prog H67.sp 0 (inlK Tryd.prog H67 m 3) m fh67_67 (endK Tryd.prog Tryd.f67 (fun v L => viewK L 8 v some)) []))
theorem F67_67_j3_e (m : Nat) (u0_0 : Nat) (u0_1 : Option Nat) (u0_2 : List D) : F67_67_j3 m u0_0 u0_1 u0_2 =
 (if 0 ≤ (0 : Int) ∧ (0 : Int) < ((u0_0 : Nat) : Int) then
 (rdI .u8 u0_2[0]?).bind fun x3 =>
 (sp93 [(D.v (.int .u8 x3))]).bind fun d4 =>
 (rdI .i64 (some d4)).bind fun x5 =>
 some (D.v (.int .i64 (IntKind.wrap .i64 ((IntKind.wrap .i64 ((8 : Int) * (IntKind.wrap .i64 (((u0_0 : Nat) : Int) - (1 : Int))))) + x5))))
 else none) := by kernel_rfl
noncomputable def F67 (m : Nat) (a0n : Nat) (a0c : Option Nat) (a0 : List D) : Option D :=
 (sp68 [(D.list a0n a0c a0)]).bind fun d1 =>
 (rdI .i64 (some d1)).bind fun x2 =>
 cond (x2 != (0 : Int))
 (some (D.v (.int .i64 (0 : Int))))
 (cond (((a0n : Nat) : Int) == (0 : Int))
 (some (D.v (.int .i64 (0 : Int))))
 (F67_67_j3 m a0n a0c a0))
theorem F67_eq (m : Nat) (a0n : Nat) (a0c : Option Nat) (a0 : List D) : funD Tryd.prog H67 m 3 fh67_67 Tryd.f67 [(D.list a0n a0c a0)] = F67 m a0n a0c a0 := by kernel_rfl
theorem en67 : Enters Tryd.prog 67 := ⟨Tryd.f67, Tryd.func67, by kernel_rfl, by kernel_rfl⟩
theorem dt67 {ds : List D} {d : D} (h : funD Tryd.prog H67 M 3 fh67_67 Tryd.f67 ds = some d) : DataSem Tryd.prog 67 ds d := data_sound (H := H67) (SpOk.cons ds68 (SpOk.cons ds93 SpOk.nil)) mixed InlOk.nil Tryd.func67 en67 h
noncomputable def sp67 : List D → Option D
  | [.list a0n a0c a0] => F67 M a0n a0c a0
  | _ => none
theorem ds67 : ∀ ds d, sp67 ds = some d → DataSem Tryd.prog 67 ds d := by
  intro ds d h
  unfold sp67 at h
  split at h
  · exact dt67 ((F67_eq M _ _ _).trans h)
  · cases h

-- ('str', '"vidimus/nats.Uint"')
def fh69_69 : FnH := ⟨[(8, ⟨[false, false, false, false, false, true, false, false, false, false, false, false, false, false, false, false, true, true, true, false, false, false, false, false, false, false, false, false, false], [], (some 0)⟩)], []⟩
noncomputable def H69 : Hints := ⟨[(68, sp68)], []⟩
noncomputable def F69_69_8 (m n0 : Nat) (y0_0 : Int) (y0_1 : Nat) (y0_2 : Option Nat) (y0_3 : List D) (y0_4 : Int) (y0_5 : Int) : Option D :=
 loopIter [false, false, false, false, false, true, false, false, false, false, false, false, false, false, false, false, true, true, true, false, false, false, false, false, false, false, false, false, false] 0 0 (codeK Tryd.prog H69.sp 0 (inlK Tryd.prog H69 m 3) m fh69_69 (subc [1, 1, 1, 1, 0, 1, 0, 0] (bodyOf Tryd.f69))) n0 ⟨[.junk, .junk, .junk, .junk, .junk, (AV.d (D.v (.int .u64 y0_0))), .junk, .junk, .junk, .junk, .junk, .junk, .junk, .junk, .junk, .junk, (AV.d (D.list y0_1 y0_2 y0_3)), (AV.d (D.v (.int .i64 y0_4))), (AV.d (D.v (.int .i64 y0_5))), .junk, .junk, .junk, .junk, .junk, .junk, .junk, .junk, .junk, .junk], []⟩
  (contK Tryd.prog H69.sp 0 (inlK Tryd.prog H69 m 3) m fh69_69 (endK Tryd.prog Tryd.f69 (fun v L => viewK L 8 v some)) [.block 0, .code (subc [1, 1, 1, 1, 1] (bodyOf Tryd.f69))])
theorem F69_69_8_0 (m : Nat) (y0_0 : Int) (y0_1 : Nat) (y0_2 : Option Nat) (y0_3 : List D) (y0_4 : Int) (y0_5 : Int) : F69_69_8 m 0 y0_0 y0_1 y0_2 y0_3 y0_4 y0_5 = none := rfl
theorem F69_69_8_s (m n0 : Nat) (y0_0 : Int) (y0_1 : Nat) (y0_2 : Option Nat) (y0_3 : List D) (y0_4 : Int) (y0_5 : Int) : F69_69_8 m (n0 + 1) y0_0 y0_1 y0_2 y0_3 y0_4 y0_5 =
 (cond (decide (y0_5 < y0_4))
 (if 0 ≤ y0_5 ∧ y0_5 < ((y0_1 : Nat) : Int) then
 (rdI .u8 y0_3[((Int.toNat y0_5) * 1)]?).bind fun x5 =>
 F69_69_8 m n0 (IntKind.wrap .u64 (((BitVec.ofInt (IntKind.bits .u64) (IntKind.wrap .u64 (y0_0 * 2 ^ 8)) ||| BitVec.ofInt (IntKind.bits .u64) (IntKind.wrap .u64 x5)).toNat : Nat) : Int)) y0_1 y0_2 y0_3 y0_4 (IntKind.wrap .i64 (y0_5 + (1 : Int)))
 else none)
 (some (D.tup [(D.v (.int .u64 y0_0)), (D.v (.int .i64 (0 : Int)))]))) := by kernel_rfl
noncomputable def F69 (m : Nat) (a0n : Nat) (a0c : Option Nat) (a0 : List D) : Option D :=
 (sp68 [(D.list a0n a0c a0)]).bind fun d1 =>
 (rdI .i64 (some d1)).bind fun x2 =>
 cond (x2 != (0 : Int))
 (some (D.tup [(D.v (.int .u64 (0 : Int))), (D.v (.int .i64 x2))]))
 (cond (decide (((a0n : Nat) : Int) > (8 : Int)))
 (some (D.tup [(D.v (.int .u64 (0 : Int))), (D.v (.int .i64 (3 : Int)))]))
 (F69_69_8 m m (0 : Int) a0n a0c a0 ((a0n : Nat) : Int) (0 : Int)))
theorem F69_eq (m : Nat) (a0n : Nat) (a0c : Option Nat) (a0 : List D) : funD Tryd.prog H69 m 3 fh69_69 Tryd.f69 [(D.list a0n a0c a0)] = F69 m a0n a0c a0 := by kernel_rfl
theorem en69 : Enters Tryd.prog 69 := ⟨Tryd.f69, Tryd.func69, by kernel_rfl, by kernel_rfl⟩
theorem dt69 {ds : List D} {d : D} (h : funD Tryd.prog H69 M 3 fh69_69 Tryd.f69 ds = some d) : DataSem Tryd.prog 69 ds d := data_sound (H := H69) (SpOk.cons ds68 SpOk.nil) mixed InlOk.nil Tryd.func69 en69 h
noncomputable def sp69 : List D → Option D
  | [.list a0n a0c a0] => F69 M a0n a0c a0
  | _ => none
theorem ds69 : ∀ ds d, sp69 ds = some d → DataSem Tryd.prog 69 ds d := by
  intro ds d h
  unfold sp69 at h
  split at h
  · exact dt69 ((F69_eq M _ _ _).trans h)
  · cases h

end Go.Ev
