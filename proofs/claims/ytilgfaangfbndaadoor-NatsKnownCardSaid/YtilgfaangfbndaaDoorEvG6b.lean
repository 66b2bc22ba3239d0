/- Functions of the given program in plain form, printed: each with the proof that it is what the evaluator comes to, and that the program function returns what it says. No conditions. -/
import Derived.Test.YtilgfaangfbndaaDoorEvG6a
set_option linter.unusedVariables false
set_option maxRecDepth 100000
namespace Go.Ev
open Go Go.Proofs

-- ('str', '"vidimus/nats.Pow"')
def fh59_59 : FnH := ⟨[(12, ⟨[true, false, false, false, false, false, false, true, false, false, false, false, false, false, false, false, false, false, false, false, false, false, false, false, false, false, false, false, false, false, false, false, false, false, false, false, false, false, false, false, false, false, true, true, false, false, false, false, false, false, false, false, false, false, false, false, false], [], (some 0)⟩)], [(10, ⟨[true, true, false, false, false, false, false, false, false, false, false, false, false, false, false, false, false, false, false, false, false, false, false, false, false, false, false, false, false, false, false, false, false, false, false, false, false, false, false, false, false, false, false, false, false, false, false, false, false, false, false, false, false, false, false, false, false], [], (some 0)⟩)]⟩
def fh59_72 : FnH := ⟨[], []⟩
noncomputable def H59 : Hints := ⟨[(55, sp55), (68, sp68), (90, sp90)], [(72, Tryd.f72, fh59_72)]⟩
noncomputable def F59_59_j10 (m : Nat) (u0_0 : Nat) (u0_1 : Option Nat) (u0_2 : List D) (u0_3 : Int) : Option D :=
 cutK (codeK Tryd.prog H59.sp 0 (inlK Tryd.prog H59 m 3) m fh59_59 (subc [1, 1, 1] (bodyOf Tryd.f59)) ⟨[(AV.d (D.list u0_0 u0_1 u0_2)), (AV.d (D.v (.int .i64 u0_3))), .junk, .junk, .junk, .junk, .junk, .junk, .junk, .junk, .junk, .junk, .junk, .junk, .junk, .junk, .junk, .junk, .junk, .junk, .junk, .junk, .junk, .junk, .junk, .junk, .junk, .junk, .junk, .junk, .junk, .junk, .junk, .junk, .junk, .junk, .junk, .junk, .junk, .junk, .junk, .junk, .junk, .junk, .junk, .junk, .junk, .junk, .junk, .junk, .junk, .junk, .junk, .junk, .junk, .junk, .junk], []⟩
  (contK Tryd.prog H59.sp 0 (inlK Tryd.prog H59 m 3) m fh59_59 (endK Tryd.prog Tryd.f59 (fun v L => viewK L 8 v some)) []))
noncomputable def F59_59_12 (m n0 : Nat) (y0_0 : Nat) (y0_1 : Option Nat) (y0_2 : List D) (y0_3 : Nat) (y0_4 : Option Nat) (y0_5 : List D) (y0_6 : Int) (y0_7 : Int) : Option D :=
 loopIter [true, false, false, false, false, false, false, true, false, false, false, false, false, false, false, false, false, false, false, false, false, false, false, false, false, false, false, false, false, false, false, false, false, false, false, false, false, false, false, false, false, false, true, true, false, false, false, false, false, false, false, false, false, false, false, false, false] 0 0 (codeK Tryd.prog H59.sp 0 (inlK Tryd.prog H59 m 3) m fh59_59 (subc [1, 1, 1, 1, 0, 1, 0, 0] (bodyOf Tryd.f59))) n0 ⟨[(AV.d (D.list y0_0 y0_1 y0_2)), .junk, .junk, .junk, .junk, .junk, .junk, (AV.d (D.list y0_3 y0_4 y0_5)), .junk, .junk, .junk, .junk, .junk, .junk, .junk, .junk, .junk, .junk, .junk, .junk, .junk, .junk, .junk, .junk, .junk, .junk, .junk, .junk, .junk, .junk, .junk, .junk, .junk, .junk, .junk, .junk, .junk, .junk, .junk, .junk, .junk, .junk, (AV.d (D.v (.int .i64 y0_6))), (AV.d (D.v (.int .i64 y0_7))), .junk, .junk, .junk, .junk, .junk, .junk, .junk, .junk, .junk, .junk, .junk, .junk, .junk], []⟩
  (contK Tryd.prog H59.sp 0 (inlK Tryd.prog H59 m 3) m fh59_59 (endK Tryd.prog Tryd.f59 (fun v L => viewK L 8 v some)) [.block 1, .code (subc [1, 1, 1, 1, 1] (bodyOf Tryd.f59))])
theorem F59_59_12_0 (m : Nat) (y0_0 : Nat) (y0_1 : Option Nat) (y0_2 : List D) (y0_3 : Nat) (y0_4 : Option Nat) (y0_5 : List D) (y0_6 : Int) (y0_7 : Int) : F59_59_12 m 0 y0_0 y0_1 y0_2 y0_3 y0_4 y0_5 y0_6 y0_7 = none := rfl
theorem F59_59_12_s (m n0 : Nat) (y0_0 : Nat) (y0_1 : Option Nat) (y0_2 : List D) (y0_3 : Nat) (y0_4 : Option Nat) (y0_5 : List D) (y0_6 : Int) (y0_7 : Int) : F59_59_12 m (n0 + 1) y0_0 y0_1 y0_2 y0_3 y0_4 y0_5 y0_6 y0_7 =
 (cond (decide (y0_7 < y0_6))
 ((sp55 [(D.list y0_3 y0_4 y0_5), (D.list y0_0 y0_1 y0_2)]).bind fun d16 =>
 (rdT d16).bind fun r17 =>
 if List.length r17 = 2 then
 (rdL r17[0]?).bind fun q18 =>
 (rdI .i64 r17[1]?).bind fun x19 =>
 cond (x19 != (0 : Int))
 (some (D.tup [(D.list 0 (some 0) []), (D.v (.int .i64 x19))]))
 (F59_59_12 m n0 y0_0 y0_1 y0_2 q18.n q18.cap q18.cs y0_6 (IntKind.wrap .i64 (y0_7 + (1 : Int))))
 else none)
 (some (D.tup [(D.list y0_3 y0_4 y0_5), (D.v (.int .i64 (0 : Int)))]))) := by kernel_rfl
theorem F59_59_j10_e (m : Nat) (u0_0 : Nat) (u0_1 : Option Nat) (u0_2 : List D) (u0_3 : Int) : F59_59_j10 m u0_0 u0_1 u0_2 u0_3 =
 (F59_59_12 m m u0_0 u0_1 u0_2 1 (some 1) [(D.v (.int .u8 (1 : Int)))] (mm true u0_3 (512 : Int)) (0 : Int)) := by kernel_rfl
noncomputable def F59 (m : Nat) (a0n : Nat) (a0c : Option Nat) (a0 : List D) (a1 : Int) : Option D :=
 (sp68 [(D.list a0n a0c a0)]).bind fun d1 =>
 (rdI .i64 (some d1)).bind fun x2 =>
 cond (x2 != (0 : Int))
 (some (D.tup [(D.list 0 (some 0) []), (D.v (.int .i64 x2))]))
 (cond (decide (a1 < (0 : Int)))
 (some (D.tup [(D.list 0 (some 0) []), (D.v (.int .i64 (1 : Int)))]))
 (cond (a1 == (0 : Int))
 (some (D.tup [(D.list 1 (some 1) [(D.v (.int .u8 (1 : Int)))]), (D.v (.int .i64 (0 : Int)))]))
 (cond (((a0n : Nat) : Int) == (0 : Int))
 ((sp90 [(D.list a0n a0c a0)]).bind fun d3 =>
 (rdL (some d3)).bind fun q4 =>
 if 0 ≤ ((q4.n : Nat) : Int) ∧ ((q4.n : Nat) : Int) ≤ ((q4.n : Nat) : Int) then
 if 0 ≤ ((q4.n : Nat) : Int) ∧ ((q4.n : Nat) : Int) ≤ (((Int.toNat ((q4.n : Nat) : Int)) : Nat) : Int) then
 some (D.tup [(D.list ((Int.toNat ((q4.n : Nat) : Int)) - 0) (some ((Int.toNat ((q4.n : Nat) : Int)) - 0)) ((List.drop 0 q4.cs).take (((Int.toNat ((q4.n : Nat) : Int)) - 0) * 1))), (D.v (.int .i64 (0 : Int)))])
 else none
 else none)
 (cond (((a0n : Nat) : Int) == (1 : Int))
 (if 0 ≤ (0 : Int) ∧ (0 : Int) < ((a0n : Nat) : Int) then
 (rdI .u8 a0[0]?).bind fun x5 =>
 cond (x5 == (1 : Int))
 ((sp90 [(D.list a0n a0c a0)]).bind fun d6 =>
 (rdL (some d6)).bind fun q7 =>
 if 0 ≤ ((q7.n : Nat) : Int) ∧ ((q7.n : Nat) : Int) ≤ ((q7.n : Nat) : Int) then
 if 0 ≤ ((q7.n : Nat) : Int) ∧ ((q7.n : Nat) : Int) ≤ (((Int.toNat ((q7.n : Nat) : Int)) : Nat) : Int) then
 some (D.tup [(D.list ((Int.toNat ((q7.n : Nat) : Int)) - 0) (some ((Int.toNat ((q7.n : Nat) : Int)) - 0)) ((List.drop 0 q7.cs).take (((Int.toNat ((q7.n : Nat) : Int)) - 0) * 1))), (D.v (.int .i64 (0 : Int)))])
 else none
 else none)
 (F59_59_j10 m a0n a0c a0 a1)
 else none)
 (F59_59_j10 m a0n a0c a0 a1)))))
theorem F59_eq (m : Nat) (a0n : Nat) (a0c : Option Nat) (a0 : List D) (a1 : Int) : funD Tryd.prog H59 m 3 fh59_59 Tryd.f59 [(D.list a0n a0c a0), (D.v (.int .i64 a1))] = F59 m a0n a0c a0 a1 := by kernel_rfl
theorem en59 : Enters Tryd.prog 59 := ⟨Tryd.f59, Tryd.func59, by kernel_rfl, by kernel_rfl⟩
theorem dt59 {ds : List D} {d : D} (h : funD Tryd.prog H59 M 3 fh59_59 Tryd.f59 ds = some d) : DataSem Tryd.prog 59 ds d := data_sound (H := H59) (SpOk.cons ds55 (SpOk.cons ds68 (SpOk.cons ds90 SpOk.nil))) mixed (InlOk.cons Tryd.func72 en72 InlOk.nil) Tryd.func59 en59 h
noncomputable def sp59 : List D → Option D
  | [.list a0n a0c a0, .v (.int .i64 a1)] => F59 M a0n a0c a0 a1
  | _ => none
theorem ds59 : ∀ ds d, sp59 ds = some d → DataSem Tryd.prog 59 ds d := by
  intro ds d h
  unfold sp59 at h
  split at h
  · exact dt59 ((F59_eq M _ _ _ _).trans h)
  · cases h

-- ('str', '"vidimus/nats.Parse"')
def fh63_63 : FnH := ⟨[(4, ⟨[true, false, false, false, false, false, false, false, false, false, false, false, false, false, false, false, false, false, false, false, false, false, false, false, true, true, true, false, false, false, false, false, false, false, false, false, false, false, false, false, false, false, false, false, false, false, false, false, false, false, false, false, false, false, false, false, false, false, false, false, false, false, false, false, false, false, false, false, false], [], (some 0)⟩), (13, ⟨[false, false, false, false, false, false, true, false, false, false, false, false, false, false, false, false, false, false, false, false, false, false, false, false, false, false, false, false, false, false, false, false, false, false, false, false, false, false, false, false, false, true, true, true, false, false, false, false, false, false, false, false, false, false, false, false, false, false, false, false, false, false, false, false, false, false, false, false, false], [], (some 0)⟩)], [(3, ⟨[true, false, false, false, false, false, false, false, false, false, false, false, false, false, false, false, false, false, false, false, false, false, false, false, false, false, false, false, false, false, false, false, false, false, false, false, false, false, false, false, false, false, false, false, false, false, false, false, false, false, false, false, false, false, false, false, false, false, false, false, false, false, false, false, false, false, false, false, false], [], (some 0)⟩), (18, ⟨[false, false, false, false, false, false, true, false, false, false, true, false, false, false, false, false, false, false, false, false, false, false, false, false, false, false, false, false, false, false, false, false, false, false, false, false, false, false, false, false, false, true, true, true, false, false, false, false, false, false, false, false, false, false, false, false, false, false, false, false, false, false, false, false, false, false, false, false, false], [], (some 0)⟩)]⟩
noncomputable def H63 : Hints := ⟨[(46, sp46), (55, sp55), (58, sp58)], []⟩
noncomputable def F63_63_j3 (m : Nat) (u0_0 : ByteArray) : Option D :=
 cutK (codeK Tryd.prog H63.sp 0 (inlK Tryd.prog H63 m 3) m fh63_63 (subc [1, 1] (bodyOf Tryd.f63)) ⟨[(AV.d (D.v (.string u0_0))), .junk, .junk, .junk, .junk, .junk, .junk, .junk, .junk, .junk, .junk, .junk, .junk, .junk, .junk, .junk, .junk, .junk, .junk, .junk, .junk, .junk, .junk, .junk, .junk, .junk, .junk, .junk, .junk, .junk, .junk, .junk, .junk, .junk, .junk, .junk, .junk, .junk, .junk, .junk, .junk, .junk, .junk, .junk, .junk, .junk, .junk, .junk, .junk, .junk, .junk, .junk, .junk, .junk, .junk, .junk, .junk, .junk, .junk, .junk, .junk, .junk, .junk, .junk, .junk, .junk, .junk, .junk, .junk], []⟩
  (contK Tryd.prog H63.sp 0 (inlK Tryd.prog H63 m 3) m fh63_63 (endK Tryd.prog Tryd.f63 (fun v L => viewK L 8 v some)) []))
noncomputable def F63_63_4 (m n0 : Nat) (y0_0 : ByteArray) (y0_1 : Nat) (y0_2 : List D) (y0_3 : Int) (y0_4 : Int) : Option D :=
 loopIter [true, false, false, false, false, false, false, false, false, false, false, false, false, false, false, false, false, false, false, false, false, false, false, false, true, true, true, false, false, false, false, false, false, false, false, false, false, false, false, false, false, false, false, false, false, false, false, false, false, false, false, false, false, false, false, false, false, false, false, false, false, false, false, false, false, false, false, false, false] 0 0 (codeK Tryd.prog H63.sp 0 (inlK Tryd.prog H63 m 3) m fh63_63 (subc [1, 1, 0, 1, 0, 0] (bodyOf Tryd.f63))) n0 ⟨[(AV.d (D.v (.string y0_0))), .junk, .junk, .junk, .junk, .junk, .junk, .junk, .junk, .junk, .junk, .junk, .junk, .junk, .junk, .junk, .junk, .junk, .junk, .junk, .junk, .junk, .junk, .junk, (AV.d (D.list y0_1 none y0_2)), (AV.d (D.v (.int .i64 y0_3))), (AV.d (D.v (.int .i64 y0_4))), .junk, .junk, .junk, .junk, .junk, .junk, .junk, .junk, .junk, .junk, .junk, .junk, .junk, .junk, .junk, .junk, .junk, .junk, .junk, .junk, .junk, .junk, .junk, .junk, .junk, .junk, .junk, .junk, .junk, .junk, .junk, .junk, .junk, .junk, .junk, .junk, .junk, .junk, .junk, .junk, .junk, .junk], []⟩
  (contK Tryd.prog H63.sp 0 (inlK Tryd.prog H63 m 3) m fh63_63 (endK Tryd.prog Tryd.f63 (fun v L => viewK L 8 v some)) [.block 0, .code (subc [1, 1, 1] (bodyOf Tryd.f63))])
noncomputable def F63_63_13 (m n0 : Nat) (y1_0 : Nat) (y1_1 : Option Nat) (y1_2 : List D) (y1_3 : Nat) (y1_4 : List D) (y1_5 : Int) (y1_6 : Int) : Option D :=
 loopIter [false, false, false, false, false, false, true, false, false, false, false, false, false, false, false, false, false, false, false, false, false, false, false, false, false, false, false, false, false, false, false, false, false, false, false, false, false, false, false, false, false, true, true, true, false, false, false, false, false, false, false, false, false, false, false, false, false, false, false, false, false, false, false, false, false, false, false, false, false] 0 0 (codeK Tryd.prog H63.sp 0 (inlK Tryd.prog H63 m 3) m fh63_63 (subc [1, 1, 1, 1, 1, 0, 1, 0, 0] (bodyOf Tryd.f63))) n0 ⟨[.junk, .junk, .junk, .junk, .junk, .junk, (AV.d (D.list y1_0 y1_1 y1_2)), .junk, .junk, .junk, .junk, .junk, .junk, .junk, .junk, .junk, .junk, .junk, .junk, .junk, .junk, .junk, .junk, .junk, .junk, .junk, .junk, .junk, .junk, .junk, .junk, .junk, .junk, .junk, .junk, .junk, .junk, .junk, .junk, .junk, .junk, (AV.d (D.list y1_3 none y1_4)), (AV.d (D.v (.int .i64 y1_5))), (AV.d (D.v (.int .i64 y1_6))), .junk, .junk, .junk, .junk, .junk, .junk, .junk, .junk, .junk, .junk, .junk, .junk, .junk, .junk, .junk, .junk, .junk, .junk, .junk, .junk, .junk, .junk, .junk, .junk, .junk], []⟩
  (contK Tryd.prog H63.sp 0 (inlK Tryd.prog H63 m 3) m fh63_63 (endK Tryd.prog Tryd.f63 (fun v L => viewK L 8 v some)) [.block 2, .code (subc [1, 1, 1, 1, 1, 1] (bodyOf Tryd.f63))])
noncomputable def F63_63_j18 (m n0 : Nat) (u1_0 : Nat) (u1_1 : Option Nat) (u1_2 : List D) (u1_3 : Int) (u1_4 : Nat) (u1_5 : List D) (u1_6 : Int) (u1_7 : Int) : Option D :=
 cutK (codeK Tryd.prog H63.sp 0 (inlK Tryd.prog H63 m 3) m fh63_63 (subc [1, 1, 1, 1, 1, 0, 1, 0, 0, 1, 1, 0, 0, 1, 1, 1] (bodyOf Tryd.f63)) ⟨[.junk, .junk, .junk, .junk, .junk, .junk, (AV.d (D.list u1_0 u1_1 u1_2)), .junk, .junk, .junk, (AV.d (D.v (.int .i64 u1_3))), .junk, .junk, .junk, .junk, .junk, .junk, .junk, .junk, .junk, .junk, .junk, .junk, .junk, .junk, .junk, .junk, .junk, .junk, .junk, .junk, .junk, .junk, .junk, .junk, .junk, .junk, .junk, .junk, .junk, .junk, (AV.d (D.list u1_4 none u1_5)), (AV.d (D.v (.int .i64 u1_6))), (AV.d (D.v (.int .i64 u1_7))), .junk, .junk, .junk, .junk, .junk, .junk, .junk, .junk, .junk, .junk, .junk, .junk, .junk, .junk, .junk, .junk, .junk, .junk, .junk, .junk, .junk, .junk, .junk, .junk, .junk], []⟩
  (contK Tryd.prog H63.sp 0 (inlK Tryd.prog H63 m 3) m fh63_63 (endK Tryd.prog Tryd.f63 (fun v L => viewK L 8 v some)) [.block 3, .code (subc [1, 1, 1, 1, 1, 0, 1, 0, 0, 1, 1, 1] (bodyOf Tryd.f63)), .loop [false, false, false, false, false, false, true, false, false, false, false, false, false, false, false, false, false, false, false, false, false, false, false, false, false, false, false, false, false, false, false, false, false, false, false, false, false, false, false, false, false, true, true, true, false, false, false, false, false, false, false, false, false, false, false, false, false, false, false, false, false, false, false, false, false, false, false, false, false] 0 (subc [1, 1, 1, 1, 1, 0, 1, 0, 0] (bodyOf Tryd.f63)) n0, .block 2, .code (subc [1, 1, 1, 1, 1, 1] (bodyOf Tryd.f63))]))
theorem F63_63_j18_e (m n0 : Nat) (u1_0 : Nat) (u1_1 : Option Nat) (u1_2 : List D) (u1_3 : Int) (u1_4 : Nat) (u1_5 : List D) (u1_6 : Int) (u1_7 : Int) : F63_63_j18 m n0 u1_0 u1_1 u1_2 u1_3 u1_4 u1_5 u1_6 u1_7 =
 (cond (u1_3 != (0 : Int))
 (some (D.tup [(D.list 0 (some 0) []), (D.v (.int .i64 u1_3))]))
 (F63_63_13 m n0 u1_0 u1_1 u1_2 u1_4 u1_5 u1_6 (IntKind.wrap .i64 (u1_7 + (1 : Int))))) := by kernel_rfl
theorem F63_63_13_0 (m : Nat) (y1_0 : Nat) (y1_1 : Option Nat) (y1_2 : List D) (y1_3 : Nat) (y1_4 : List D) (y1_5 : Int) (y1_6 : Int) : F63_63_13 m 0 y1_0 y1_1 y1_2 y1_3 y1_4 y1_5 y1_6 = none := rfl
theorem F63_63_13_s (m n0 : Nat) (y1_0 : Nat) (y1_1 : Option Nat) (y1_2 : List D) (y1_3 : Nat) (y1_4 : List D) (y1_5 : Int) (y1_6 : Int) : F63_63_13 m (n0 + 1) y1_0 y1_1 y1_2 y1_3 y1_4 y1_5 y1_6 =
 (cond (decide (y1_6 < y1_5))
 (if 0 ≤ y1_6 ∧ y1_6 < ((y1_3 : Nat) : Int) then
 (rdI .u8 y1_4[((Int.toNat y1_6) * 1)]?).bind fun x26 =>
 (sp55 [(D.list y1_0 y1_1 y1_2), (D.list 1 (some 1) [(D.v (.int .u8 (10 : Int)))])]).bind fun d27 =>
 (rdT d27).bind fun r28 =>
 if List.length r28 = 2 then
 (rdL r28[0]?).bind fun q29 =>
 (rdI .i64 r28[1]?).bind fun x30 =>
 cond (x30 == (0 : Int))
 ((sp58 [(D.v (.int .u64 (IntKind.wrap .u64 (IntKind.wrap .u8 (x26 - (48 : Int))))))]).bind fun d31 =>
 (rdL (some d31)).bind fun q32 =>
 (sp46 [(D.list q29.n q29.cap q29.cs), (D.list q32.n q32.cap q32.cs)]).bind fun d33 =>
 (rdT d33).bind fun r34 =>
 if List.length r34 = 2 then
 (rdL r34[0]?).bind fun q35 =>
 (rdI .i64 r34[1]?).bind fun x36 =>
 F63_63_j18 m n0 q35.n q35.cap q35.cs x36 y1_3 y1_4 y1_5 y1_6
 else none)
 (F63_63_j18 m n0 y1_0 y1_1 y1_2 x30 y1_3 y1_4 y1_5 y1_6)
 else none
 else none)
 (some (D.tup [(D.list y1_0 y1_1 y1_2), (D.v (.int .i64 (0 : Int)))]))) := by kernel_rfl
theorem F63_63_4_0 (m : Nat) (y0_0 : ByteArray) (y0_1 : Nat) (y0_2 : List D) (y0_3 : Int) (y0_4 : Int) : F63_63_4 m 0 y0_0 y0_1 y0_2 y0_3 y0_4 = none := rfl
theorem F63_63_4_s (m n0 : Nat) (y0_0 : ByteArray) (y0_1 : Nat) (y0_2 : List D) (y0_3 : Int) (y0_4 : Int) : F63_63_4 m (n0 + 1) y0_0 y0_1 y0_2 y0_3 y0_4 =
 (cond (decide (y0_4 < y0_3))
 (if 0 ≤ y0_4 ∧ y0_4 < ((y0_1 : Nat) : Int) then
 (rdI .u8 y0_2[((Int.toNat y0_4) * 1)]?).bind fun x3 =>
 cond (decide (x3 < (48 : Int)))
 (some (D.tup [(D.list 0 (some 0) []), (D.v (.int .i64 (6 : Int)))]))
 (cond (decide (x3 > (57 : Int)))
 (some (D.tup [(D.list 0 (some 0) []), (D.v (.int .i64 (6 : Int)))]))
 (F63_63_4 m n0 y0_0 y0_1 y0_2 y0_3 (IntKind.wrap .i64 (y0_4 + (1 : Int)))))
 else none)
 (cond (decide (((ByteArray.size y0_0 : Nat) : Int) > (155 : Int)))
 (some (D.tup [(D.list 0 (some 0) []), (D.v (.int .i64 (3 : Int)))]))
 (F63_63_13 m m 0 (some 0) [] (ByteArray.size y0_0) (List.map byteD (Array.toList (ByteArray.data y0_0))) (((ByteArray.size y0_0) : Nat) : Int) (0 : Int)))) := by kernel_rfl
theorem F63_63_j3_e (m : Nat) (u0_0 : ByteArray) : F63_63_j3 m u0_0 =
 (F63_63_4 m m u0_0 (ByteArray.size u0_0) (List.map byteD (Array.toList (ByteArray.data u0_0))) (((ByteArray.size u0_0) : Nat) : Int) (0 : Int)) := by kernel_rfl
noncomputable def F63 (m : Nat) (a0 : ByteArray) : Option D :=
 cond (ByteArray.toList a0 == ByteArray.toList (ByteArray.mk #[]))
 (some (D.tup [(D.list 0 (some 0) []), (D.v (.int .i64 (6 : Int)))]))
 (if 0 ≤ (0 : Int) ∧ (0 : Int) < (((ByteArray.size a0) : Nat) : Int) then
 cond ((((List.getD (Array.toList (ByteArray.data a0)) 0 0).toNat : Nat) : Int) == (48 : Int))
 (cond (decide (((ByteArray.size a0 : Nat) : Int) > (1 : Int)))
 (some (D.tup [(D.list 0 (some 0) []), (D.v (.int .i64 (6 : Int)))]))
 (F63_63_j3 m a0))
 (F63_63_j3 m a0)
 else none)
theorem F63_eq (m : Nat) (a0 : ByteArray) : funD Tryd.prog H63 m 3 fh63_63 Tryd.f63 [(D.v (.string a0))] = F63 m a0 := by kernel_rfl
theorem en63 : Enters Tryd.prog 63 := ⟨Tryd.f63, Tryd.func63, by kernel_rfl, by kernel_rfl⟩
theorem dt63 {ds : List D} {d : D} (h : funD Tryd.prog H63 M 3 fh63_63 Tryd.f63 ds = some d) : DataSem Tryd.prog 63 ds d := data_sound (H := H63) (SpOk.cons ds46 (SpOk.cons ds55 (SpOk.cons ds58 SpOk.nil))) mixed InlOk.nil Tryd.func63 en63 h
noncomputable def sp63 : List D → Option D
  | [.v (.string a0)] => F63 M a0
  | _ => none
theorem ds63 : ∀ ds d, sp63 ds = some d → DataSem Tryd.prog 63 ds d := by
  intro ds d h
  unfold sp63 at h
  split at h
  · exact dt63 ((F63_eq M _).trans h)
  · cases h

-- ('str', '"vidimus/nats.Text"')
def fh62_62 : FnH := ⟨[(6, ⟨[true, false, false, true, false, false, false, false, false, false, false, false, false, false, false, false, false, false, false, false, false, false, false, false, false, false, false, false, false, false, false, false, false], [(3, 1)], (some 1)⟩)], []⟩
def fh62_89 : FnH := ⟨[(1, ⟨[true, false, true, true, false, false, false, false, false, false, false, false, false, false, false, false, false, false, false, false, false, false, false, false, false, false, false, false], [], (some 0)⟩)], []⟩
noncomputable def H62 : Hints := ⟨[(56, sp56), (68, sp68)], [(89, Tryd.f89, fh62_89)]⟩
noncomputable def F62_62_6 (m n0 : Nat) (y0_0 : Nat) (y0_1 : Option Nat) (y0_2 : List D) (y0_3 : Nat) (y0_4 : Nat) (y0_5 : List D) : Option D :=
 loopIter [true, false, false, true, false, false, false, false, false, false, false, false, false, false, false, false, false, false, false, false, false, false, false, false, false, false, false, false, false, false, false, false, false] 0 1 (codeK Tryd.prog H62.sp 0 (inlK Tryd.prog H62 m 3) m fh62_62 (subc [1, 1, 1, 1, 0, 0, 0] (bodyOf Tryd.f62))) n0 ⟨[(AV.d (D.list y0_0 y0_1 y0_2)), .junk, .junk, (AV.sl 0 0 y0_3 none 1), .junk, .junk, .junk, .junk, .junk, .junk, .junk, .junk, .junk, .junk, .junk, .junk, .junk, .junk, .junk, .junk, .junk, .junk, .junk, .junk, .junk, .junk, .junk, .junk, .junk, .junk, .junk, .junk, .junk], [(Blk.d y0_4 y0_5)]⟩
  (contK Tryd.prog H62.sp 0 (inlK Tryd.prog H62 m 3) m fh62_62 (endK Tryd.prog Tryd.f62 (fun v L => viewK L 8 v some)) [.block 0, .code (subc [1, 1, 1, 1, 1] (bodyOf Tryd.f62))])
noncomputable def F62_89_1 (m n0 : Nat) (y0_0 : Nat) (y0_1 : Option Nat) (y0_2 : List D) (y0_3 : Nat) (y1_0 : Nat) (y1_1 : Int) (y1_2 : Int) (y1_3 : Nat) (y1_4 : List D) : Option D :=
 loopIter [true, false, true, true, false, false, false, false, false, false, false, false, false, false, false, false, false, false, false, false, false, false, false, false, false, false, false, false] 1 1 (codeK Tryd.prog H62.sp 1 (inlK Tryd.prog H62 m 2) m fh62_89 (subc [1, 0, 0] (bodyOf Tryd.f89))) n0 ⟨[(AV.sl 0 0 y1_0 none 1), .junk, (AV.d (D.v (.int .i64 y1_1))), (AV.d (D.v (.int .i64 y1_2))), .junk, .junk, .junk, .junk, .junk, .junk, .junk, .junk, .junk, .junk, .junk, .junk, .junk, .junk, .junk, .junk, .junk, .junk, .junk, .junk, .junk, .junk, .junk, .junk], [(Blk.d y1_3 y1_4)]⟩
  (contK Tryd.prog H62.sp 1 (inlK Tryd.prog H62 m 2) m fh62_89 (endK Tryd.prog Tryd.f89 (fun v L => opsK Tryd.prog H62.sp 0 true (inlK Tryd.prog H62 m 3) (regOps (subc [1, 1, 1, 1, 1, 0] (bodyOf Tryd.f62))) (List.drop 2 (Array.toList (regOps (subc [1, 1, 1, 1, 1, 0] (bodyOf Tryd.f62))))) ⟨setSl [(AV.d (D.list y0_0 y0_1 y0_2)), .junk, .junk, (AV.sl 0 0 y0_3 none 1), .junk, .junk, .junk, .junk, .junk, .junk, .junk, .junk, .junk, (AV.d (D.list y0_0 y0_1 y0_2)), (AV.d (D.v (.int .i64 ((y0_0 : Nat) : Int)))), (AV.d (D.v (.bool false))), .junk, .junk, .junk, .junk, .junk, .junk, .junk, .junk, .junk, .junk, .junk, .junk, .junk, (AV.sl 0 0 y0_3 none 1), .junk, .junk, .junk] (some 30) v, L⟩ (fun st => contK Tryd.prog H62.sp 0 (inlK Tryd.prog H62 m 3) m fh62_62 (endK Tryd.prog Tryd.f62 (fun v L => viewK L 8 v some)) [.code (subc [1, 1, 1, 1, 1, 1] (bodyOf Tryd.f62))] .normal st))) [.block 0])
theorem F62_89_1_0 (m : Nat) (y0_0 : Nat) (y0_1 : Option Nat) (y0_2 : List D) (y0_3 : Nat) (y1_0 : Nat) (y1_1 : Int) (y1_2 : Int) (y1_3 : Nat) (y1_4 : List D) : F62_89_1 m 0 y0_0 y0_1 y0_2 y0_3 y1_0 y1_1 y1_2 y1_3 y1_4 = none := rfl
theorem F62_89_1_s (m n0 : Nat) (y0_0 : Nat) (y0_1 : Option Nat) (y0_2 : List D) (y0_3 : Nat) (y1_0 : Nat) (y1_1 : Int) (y1_2 : Int) (y1_3 : Nat) (y1_4 : List D) : F62_89_1 m (n0 + 1) y0_0 y0_1 y0_2 y0_3 y1_0 y1_1 y1_2 y1_3 y1_4 =
 (cond (decide (y1_1 < y1_2))
 (if 0 ≤ y1_2 ∧ y1_2 < ((y1_0 : Nat) : Int) then
 (rdI .u8 y1_4[(0 + ((Int.toNat y1_2) * 1))]?).bind fun x22 =>
 if 0 ≤ y1_1 ∧ y1_1 < ((y1_0 : Nat) : Int) then
 (rdI .u8 y1_4[(0 + ((Int.toNat y1_1) * 1))]?).bind fun x23 =>
 if 0 ≤ y1_1 ∧ y1_1 < ((y1_0 : Nat) : Int) then
 if 1 = 1 ∧ (0 + ((Int.toNat y1_1) * 1)) < y1_3 then
 if 0 ≤ y1_2 ∧ y1_2 < ((y1_0 : Nat) : Int) then
 if 1 = 1 ∧ (0 + ((Int.toNat y1_2) * 1)) < y1_3 then
 F62_89_1 m n0 y0_0 y0_1 y0_2 y0_3 y1_0 (IntKind.wrap .i64 (y1_1 + (1 : Int))) (IntKind.wrap .i64 (y1_2 - (1 : Int))) y1_3 (List.set (List.set y1_4 (0 + ((Int.toNat y1_1) * 1)) (D.v (.int .u8 x22))) (0 + ((Int.toNat y1_2) * 1)) (D.v (.int .u8 x23)))
 else none
 else none
 else none
 else none
 else none
 else none)
 (if (0 + y0_3) ≤ y1_3 then
 (bytesOf (cutL y1_3 y1_4 0 y0_3)).bind fun l24 =>
 some (D.v (.string (ByteArray.mk (List.toArray l24))))
 else none)) := by kernel_rfl
theorem F62_62_6_0 (m : Nat) (y0_0 : Nat) (y0_1 : Option Nat) (y0_2 : List D) (y0_3 : Nat) (y0_4 : Nat) (y0_5 : List D) : F62_62_6 m 0 y0_0 y0_1 y0_2 y0_3 y0_4 y0_5 = none := rfl
theorem F62_62_6_s (m n0 : Nat) (y0_0 : Nat) (y0_1 : Option Nat) (y0_2 : List D) (y0_3 : Nat) (y0_4 : Nat) (y0_5 : List D) : F62_62_6 m (n0 + 1) y0_0 y0_1 y0_2 y0_3 y0_4 y0_5 =
 (cond (decide (((y0_0 : Nat) : Int) > (0 : Int)))
 ((sp56 [(D.list y0_0 y0_1 y0_2), (D.v (.int .u32 (10 : Int)))]).bind fun d13 =>
 (rdT d13).bind fun r14 =>
 if List.length r14 = 3 then
 (rdL r14[0]?).bind fun q15 =>
 (rdI .u32 r14[1]?).bind fun x16 =>
 (rdI .i64 r14[2]?).bind fun x17 =>
 if 0 ≤ 0 ∧ y0_4 = (y0_3 * 1) ∧ fitsRow (y0_3 + 1) 1 ∧ 1 = 1 then
 F62_62_6 m n0 q15.n q15.cap q15.cs (y0_3 + 1) ((y0_3 + 1) * 1) (y0_5 ++ [(D.v (.int .u8 (IntKind.wrap .u8 (IntKind.wrap .u32 ((48 : Int) + x16)))))])
 else none
 else none)
 (F62_89_1 m m y0_0 y0_1 y0_2 y0_3 y0_3 (0 : Int) (IntKind.wrap .i64 (((y0_3 : Nat) : Int) - (1 : Int))) y0_4 y0_5)) := by kernel_rfl
noncomputable def F62 (m : Nat) (a0n : Nat) (a0c : Option Nat) (a0 : List D) : Option D :=
 (sp68 [(D.list a0n a0c a0)]).bind fun d1 =>
 (rdI .i64 (some d1)).bind fun x2 =>
 cond (x2 != (0 : Int))
 (some (D.v (.string (ByteArray.mk #[63]))))
 (cond (((a0n : Nat) : Int) == (0 : Int))
 (some (D.v (.string (ByteArray.mk #[48]))))
 (F62_62_6 m m a0n a0c a0 0 0 []))
theorem F62_eq (m : Nat) (a0n : Nat) (a0c : Option Nat) (a0 : List D) : funD Tryd.prog H62 m 3 fh62_62 Tryd.f62 [(D.list a0n a0c a0)] = F62 m a0n a0c a0 := by kernel_rfl
theorem en62 : Enters Tryd.prog 62 := ⟨Tryd.f62, Tryd.func62, by kernel_rfl, by kernel_rfl⟩
theorem dt62 {ds : List D} {d : D} (h : funD Tryd.prog H62 M 3 fh62_62 Tryd.f62 ds = some d) : DataSem Tryd.prog 62 ds d := data_sound (H := H62) (SpOk.cons ds56 (SpOk.cons ds68 SpOk.nil)) mixed (InlOk.cons Tryd.func89 en89 InlOk.nil) Tryd.func62 en62 h
noncomputable def sp62 : List D → Option D
  | [.list a0n a0c a0] => F62 M a0n a0c a0
  | _ => none
theorem ds62 : ∀ ds d, sp62 ds = some d → DataSem Tryd.prog 62 ds d := by
  intro ds d h
  unfold sp62 at h
  split at h
  · exact dt62 ((F62_eq M _ _ _).trans h)
  · cases h

end Go.Ev
