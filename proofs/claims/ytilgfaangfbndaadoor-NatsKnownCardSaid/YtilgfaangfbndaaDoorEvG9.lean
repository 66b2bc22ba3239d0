/- Functions of the given program in plain form, printed: each with the proof that it is what the evaluator comes to, and that the program function returns what it says. No conditions. -/
import Derived.Test.YtilgfaangfbndaaDoorEvG8
set_option linter.unusedVariables false
set_option maxRecDepth 100000
namespace Go.Ev
open Go Go.Proofs

-- ('str', '"vidimus/vidimuslaw01.NatsPower"')
def fh12_12 : FnH := ⟨[(9, ⟨[false, true, false, false, false, true, true, true, true, true, false, false, false, false, false, false, false, false, false, false, false, false, false, false, false, false, false, false, false, false, false, false, false, false, false, false, false, false, false, false, false, false, false, false, false, false, false, false, false, false, false, false, false, false, false, false, false, false, false, false, false, false, false, false, false, false, false, false, false, false, false, false, false, false, false, false, false, false], [], (some 0)⟩)], [(7, ⟨[false, true, false, false, false, true, true, true, false, false, false, false, false, false, false, false, false, false, false, false, false, false, false, false, false, false, false, false, false, false, false, false, false, false, false, false, false, false, false, false, false, false, false, false, false, false, false, false, false, false, false, false, false, false, false, false, false, false, false, false, false, false, false, false, false, false, false, false, false, false, false, false, false, false, false, false, false, false], [], (some 0)⟩)]⟩
def H12 (fn39 fn45 fn47 fn49 fn52 fn54 fn59 fn60 : List D → Option D) : Hints := ⟨[(39, fn39), (45, fn45), (47, fn47), (49, fn49), (52, fn52), (54, fn54), (59, fn59), (60, fn60)], []⟩
noncomputable def F12_12_j7 (fn39 fn45 fn47 fn49 fn52 fn54 fn59 fn60 : List D → Option D) (m : Nat) (u0_0 : Int) (u0_1 : Nat) (u0_2 : Option Nat) (u0_3 : List D) (u0_4 : Nat) (u0_5 : Option Nat) (u0_6 : List D) (u0_7 : Int) : Option D :=
 cutK (codeK Tryd.prog (H12 fn39 fn45 fn47 fn49 fn52 fn54 fn59 fn60).sp 0 (inlK Tryd.prog (H12 fn39 fn45 fn47 fn49 fn52 fn54 fn59 fn60) m 3) m fh12_12 (subc [1, 1, 1, 1, 1] (bodyOf Tryd.f12)) ⟨[.junk, (AV.d (D.v (.int .i64 u0_0))), .junk, .junk, .junk, (AV.d (D.list u0_1 u0_2 u0_3)), (AV.d (D.list u0_4 u0_5 u0_6)), (AV.d (D.v (.int .i64 u0_7))), .junk, .junk, .junk, .junk, .junk, .junk, .junk, .junk, .junk, .junk, .junk, .junk, .junk, .junk, .junk, .junk, .junk, .junk, .junk, .junk, .junk, .junk, .junk, .junk, .junk, .junk, .junk, .junk, .junk, .junk, .junk, .junk, .junk, .junk, .junk, .junk, .junk, .junk, .junk, .junk, .junk, .junk, .junk, .junk, .junk, .junk, .junk, .junk, .junk, .junk, .junk, .junk, .junk, .junk, .junk, .junk, .junk, .junk, .junk, .junk, .junk, .junk, .junk, .junk, .junk, .junk, .junk, .junk, .junk, .junk], []⟩
  (contK Tryd.prog (H12 fn39 fn45 fn47 fn49 fn52 fn54 fn59 fn60).sp 0 (inlK Tryd.prog (H12 fn39 fn45 fn47 fn49 fn52 fn54 fn59 fn60) m 3) m fh12_12 (endK Tryd.prog Tryd.f12 (fun v L => viewK L 8 v some)) []))
noncomputable def F12_12_9 (fn39 fn45 fn47 fn49 fn52 fn54 fn59 fn60 : List D → Option D) (m n0 : Nat) (y0_0 : Int) (y0_1 : Nat) (y0_2 : Option Nat) (y0_3 : List D) (y0_4 : Nat) (y0_5 : Option Nat) (y0_6 : List D) (y0_7 : Int) (y0_8 : Nat) (y0_9 : Option Nat) (y0_10 : List D) (y0_11 : Int) : Option D :=
 loopIter [false, true, false, false, false, true, true, true, true, true, false, false, false, false, false, false, false, false, false, false, false, false, false, false, false, false, false, false, false, false, false, false, false, false, false, false, false, false, false, false, false, false, false, false, false, false, false, false, false, false, false, false, false, false, false, false, false, false, false, false, false, false, false, false, false, false, false, false, false, false, false, false, false, false, false, false, false, false] 0 0 (codeK Tryd.prog (H12 fn39 fn45 fn47 fn49 fn52 fn54 fn59 fn60).sp 0 (inlK Tryd.prog (H12 fn39 fn45 fn47 fn49 fn52 fn54 fn59 fn60) m 3) m fh12_12 (subc [1, 1, 1, 1, 1, 1, 0, 1, 0, 0] (bodyOf Tryd.f12))) n0 ⟨[.junk, (AV.d (D.v (.int .i64 y0_0))), .junk, .junk, .junk, (AV.d (D.list y0_1 y0_2 y0_3)), (AV.d (D.list y0_4 y0_5 y0_6)), (AV.d (D.v (.int .i64 y0_7))), (AV.d (D.list y0_8 y0_9 y0_10)), (AV.d (D.v (.int .i64 y0_11))), .junk, .junk, .junk, .junk, .junk, .junk, .junk, .junk, .junk, .junk, .junk, .junk, .junk, .junk, .junk, .junk, .junk, .junk, .junk, .junk, .junk, .junk, .junk, .junk, .junk, .junk, .junk, .junk, .junk, .junk, .junk, .junk, .junk, .junk, .junk, .junk, .junk, .junk, .junk, .junk, .junk, .junk, .junk, .junk, .junk, .junk, .junk, .junk, .junk, .junk, .junk, .junk, .junk, .junk, .junk, .junk, .junk, .junk, .junk, .junk, .junk, .junk, .junk, .junk, .junk, .junk, .junk, .junk], []⟩
  (contK Tryd.prog (H12 fn39 fn45 fn47 fn49 fn52 fn54 fn59 fn60).sp 0 (inlK Tryd.prog (H12 fn39 fn45 fn47 fn49 fn52 fn54 fn59 fn60) m 3) m fh12_12 (endK Tryd.prog Tryd.f12 (fun v L => viewK L 8 v some)) [.block 0, .code (subc [1, 1, 1, 1, 1, 1, 1] (bodyOf Tryd.f12))])
theorem F12_12_9_0 (fn39 fn45 fn47 fn49 fn52 fn54 fn59 fn60 : List D → Option D) (m : Nat) (y0_0 : Int) (y0_1 : Nat) (y0_2 : Option Nat) (y0_3 : List D) (y0_4 : Nat) (y0_5 : Option Nat) (y0_6 : List D) (y0_7 : Int) (y0_8 : Nat) (y0_9 : Option Nat) (y0_10 : List D) (y0_11 : Int) : F12_12_9 fn39 fn45 fn47 fn49 fn52 fn54 fn59 fn60 m 0 y0_0 y0_1 y0_2 y0_3 y0_4 y0_5 y0_6 y0_7 y0_8 y0_9 y0_10 y0_11 = none := rfl
theorem F12_12_9_s (fn39 fn45 fn47 fn49 fn52 fn54 fn59 fn60 : List D → Option D) (m n0 : Nat) (y0_0 : Int) (y0_1 : Nat) (y0_2 : Option Nat) (y0_3 : List D) (y0_4 : Nat) (y0_5 : Option Nat) (y0_6 : List D) (y0_7 : Int) (y0_8 : Nat) (y0_9 : Option Nat) (y0_10 : List D) (y0_11 : Int) : F12_12_9 fn39 fn45 fn47 fn49 fn52 fn54 fn59 fn60 m (n0 + 1) y0_0 y0_1 y0_2 y0_3 y0_4 y0_5 y0_6 y0_7 y0_8 y0_9 y0_10 y0_11 =
 (cond (decide (y0_11 < y0_0))
 ((fn45 [(D.list y0_1 y0_2 y0_3)]).bind fun d46 =>
 (rdL (some d46)).bind fun q47 =>
 (fn54 [(D.list y0_8 y0_9 y0_10), (D.list q47.n q47.cap q47.cs)]).bind fun d48 =>
 (rdL (some d48)).bind fun q49 =>
 (fn49 [(D.list q49.n q49.cap q49.cs)]).bind fun d50 =>
 (rdI .i64 (some d50)).bind fun x51 =>
 cond (x51 != (0 : Int))
 ((fn47 [(D.list y0_4 y0_5 y0_6), (D.v (.int .i64 y0_7)), (D.list 0 (some 0) []), (D.v (.int .i64 (3 : Int)))]).bind fun d52 =>
 (rdB (some d52)).bind fun b53 =>
 cond b53
 ((fn52 []).bind fun d54 =>
 (rdB (some d54)).bind fun b55 =>
 some (D.v (.bool b55)))
 (some (D.v (.bool false))))
 (F12_12_9 fn39 fn45 fn47 fn49 fn52 fn54 fn59 fn60 m n0 y0_0 y0_1 y0_2 y0_3 y0_4 y0_5 y0_6 y0_7 q49.n q49.cap q49.cs (IntKind.wrap .i64 (y0_11 + (1 : Int)))))
 ((fn47 [(D.list y0_4 y0_5 y0_6), (D.v (.int .i64 y0_7)), (D.list y0_8 y0_9 y0_10), (D.v (.int .i64 (0 : Int)))]).bind fun d56 =>
 (rdB (some d56)).bind fun b57 =>
 cond b57
 ((fn52 []).bind fun d58 =>
 (rdB (some d58)).bind fun b59 =>
 some (D.v (.bool b59)))
 (some (D.v (.bool false))))) := by kernel_rfl
theorem F12_12_j7_e (fn39 fn45 fn47 fn49 fn52 fn54 fn59 fn60 : List D → Option D) (m : Nat) (u0_0 : Int) (u0_1 : Nat) (u0_2 : Option Nat) (u0_3 : List D) (u0_4 : Nat) (u0_5 : Option Nat) (u0_6 : List D) (u0_7 : Int) : F12_12_j7 fn39 fn45 fn47 fn49 fn52 fn54 fn59 fn60 m u0_0 u0_1 u0_2 u0_3 u0_4 u0_5 u0_6 u0_7 =
 ((fn60 [(D.v (.int .i64 (1 : Int)))]).bind fun d24 =>
 (rdL (some d24)).bind fun q25 =>
 F12_12_9 fn39 fn45 fn47 fn49 fn52 fn54 fn59 fn60 m m u0_0 u0_1 u0_2 u0_3 u0_4 u0_5 u0_6 u0_7 q25.n q25.cap q25.cs (0 : Int)) := by kernel_rfl
noncomputable def F12 (fn39 fn45 fn47 fn49 fn52 fn54 fn59 fn60 : List D → Option D) (m : Nat) (a0_0n : Nat) (a0_0c : Option Nat) (a0_0 : List D) (a1 : Int) : Option D :=
 (fn39 [(D.agg [(D.list a0_0n a0_0c a0_0)])]).bind fun d1 =>
 (rdL (some d1)).bind fun q2 =>
 (fn59 [(D.list q2.n q2.cap q2.cs), (D.v (.int .i64 a1))]).bind fun d3 =>
 (rdT d3).bind fun r4 =>
 if List.length r4 = 2 then
 (rdL r4[0]?).bind fun q5 =>
 (rdI .i64 r4[1]?).bind fun x6 =>
 cond (decide (a1 < (0 : Int)))
 ((fn47 [(D.list q5.n q5.cap q5.cs), (D.v (.int .i64 x6)), (D.list 0 (some 0) []), (D.v (.int .i64 (1 : Int)))]).bind fun d7 =>
 (rdB (some d7)).bind fun b8 =>
 cond b8
 ((fn52 []).bind fun d9 =>
 (rdB (some d9)).bind fun b10 =>
 some (D.v (.bool b10)))
 (some (D.v (.bool false))))
 (cond (decide (a1 > (0 : Int)))
 (cond (((q2.n : Nat) : Int) == (0 : Int))
 ((fn45 [(D.list q2.n q2.cap q2.cs)]).bind fun d11 =>
 (rdL (some d11)).bind fun q12 =>
 (fn47 [(D.list q5.n q5.cap q5.cs), (D.v (.int .i64 x6)), (D.list q12.n q12.cap q12.cs), (D.v (.int .i64 (0 : Int)))]).bind fun d13 =>
 (rdB (some d13)).bind fun b14 =>
 cond b14
 ((fn52 []).bind fun d15 =>
 (rdB (some d15)).bind fun b16 =>
 some (D.v (.bool b16)))
 (some (D.v (.bool false))))
 (cond (((q2.n : Nat) : Int) == (1 : Int))
 (if 0 ≤ (0 : Int) ∧ (0 : Int) < ((q2.n : Nat) : Int) then
 (rdI .u8 q2.cs[0]?).bind fun x17 =>
 cond (x17 == (1 : Int))
 ((fn45 [(D.list q2.n q2.cap q2.cs)]).bind fun d18 =>
 (rdL (some d18)).bind fun q19 =>
 (fn47 [(D.list q5.n q5.cap q5.cs), (D.v (.int .i64 x6)), (D.list q19.n q19.cap q19.cs), (D.v (.int .i64 (0 : Int)))]).bind fun d20 =>
 (rdB (some d20)).bind fun b21 =>
 cond b21
 ((fn52 []).bind fun d22 =>
 (rdB (some d22)).bind fun b23 =>
 some (D.v (.bool b23)))
 (some (D.v (.bool false))))
 (F12_12_j7 fn39 fn45 fn47 fn49 fn52 fn54 fn59 fn60 m a1 q2.n q2.cap q2.cs q5.n q5.cap q5.cs x6)
 else none)
 (F12_12_j7 fn39 fn45 fn47 fn49 fn52 fn54 fn59 fn60 m a1 q2.n q2.cap q2.cs q5.n q5.cap q5.cs x6)))
 (F12_12_j7 fn39 fn45 fn47 fn49 fn52 fn54 fn59 fn60 m a1 q2.n q2.cap q2.cs q5.n q5.cap q5.cs x6))
 else none
theorem F12_eq (fn39 fn45 fn47 fn49 fn52 fn54 fn59 fn60 : List D → Option D) (m : Nat) (a0_0n : Nat) (a0_0c : Option Nat) (a0_0 : List D) (a1 : Int) : funD Tryd.prog (H12 fn39 fn45 fn47 fn49 fn52 fn54 fn59 fn60) m 3 fh12_12 Tryd.f12 [(D.agg [(D.list a0_0n a0_0c a0_0)]), (D.v (.int .i64 a1))] = F12 fn39 fn45 fn47 fn49 fn52 fn54 fn59 fn60 m a0_0n a0_0c a0_0 a1 := by kernel_rfl
theorem en12 : Enters Tryd.prog 12 := ⟨Tryd.f12, Tryd.func12, by kernel_rfl, by kernel_rfl⟩
theorem dt12 {ds : List D} {d : D} (h : funD Tryd.prog (H12 sp39 sp45 sp47 sp49 sp52 sp54 sp59 sp60) M 3 fh12_12 Tryd.f12 ds = some d) : DataSem Tryd.prog 12 ds d := data_sound (H := (H12 sp39 sp45 sp47 sp49 sp52 sp54 sp59 sp60)) (SpOk.cons ds39 (SpOk.cons ds45 (SpOk.cons ds47 (SpOk.cons ds49 (SpOk.cons ds52 (SpOk.cons ds54 (SpOk.cons ds59 (SpOk.cons ds60 SpOk.nil)))))))) mixed InlOk.nil Tryd.func12 en12 h
noncomputable def sp12 : List D → Option D
  | [.agg [.list a0_0n a0_0c a0_0], .v (.int .i64 a1)] => F12 sp39 sp45 sp47 sp49 sp52 sp54 sp59 sp60 M a0_0n a0_0c a0_0 a1
  | _ => none
theorem ds12 : ∀ ds d, sp12 ds = some d → DataSem Tryd.prog 12 ds d := by
  intro ds d h
  unfold sp12 at h
  split at h
  · exact dt12 ((F12_eq sp39 sp45 sp47 sp49 sp52 sp54 sp59 sp60 M _ _ _ _).trans h)
  · cases h

-- ('str', '"vidimus/vidimuslaw01.NatsText"')
def fh14_14 : FnH := ⟨[], [(6, ⟨[false, true, false, false, false, false, false, false, false, false, false, false, false, false, false, false, false, false, false, false, false, false, false, false, false, false, false, false, false, false, false, false, false, false, false, false, false, false, false, false, false, false, false, false, false, false, false, false, false, false, false, false, false, false, false, false, false, false, false, false], [], (some 0)⟩)]⟩
def H14 (fn39 fn45 fn47 fn52 fn62 fn63 fn64 fn65 : List D → Option D) : Hints := ⟨[(39, fn39), (45, fn45), (47, fn47), (52, fn52), (62, fn62), (63, fn63), (64, fn64), (65, fn65)], []⟩
noncomputable def F14_14_j6 (fn39 fn45 fn47 fn52 fn62 fn63 fn64 fn65 : List D → Option D) (m : Nat) (u0_0 : ByteArray) : Option D :=
 cutK (codeK Tryd.prog (H14 fn39 fn45 fn47 fn52 fn62 fn63 fn64 fn65).sp 0 (inlK Tryd.prog (H14 fn39 fn45 fn47 fn52 fn62 fn63 fn64 fn65) m 3) m fh14_14 (subc [1, 1, 1, 1, 1] (bodyOf Tryd.f14)) ⟨[.junk, (AV.d (D.v (.string u0_0))), .junk, .junk, .junk, .junk, .junk, .junk, .junk, .junk, .junk, .junk, .junk, .junk, .junk, .junk, .junk, .junk, .junk, .junk, .junk, .junk, .junk, .junk, .junk, .junk, .junk, .junk, .junk, .junk, .junk, .junk, .junk, .junk, .junk, .junk, .junk, .junk, .junk, .junk, .junk, .junk, .junk, .junk, .junk, .junk, .junk, .junk, .junk, .junk, .junk, .junk, .junk, .junk, .junk, .junk, .junk, .junk, .junk, .junk], []⟩
  (contK Tryd.prog (H14 fn39 fn45 fn47 fn52 fn62 fn63 fn64 fn65).sp 0 (inlK Tryd.prog (H14 fn39 fn45 fn47 fn52 fn62 fn63 fn64 fn65) m 3) m fh14_14 (endK Tryd.prog Tryd.f14 (fun v L => viewK L 8 v some)) []))
theorem F14_14_j6_e (fn39 fn45 fn47 fn52 fn62 fn63 fn64 fn65 : List D → Option D) (m : Nat) (u0_0 : ByteArray) : F14_14_j6 fn39 fn45 fn47 fn52 fn62 fn63 fn64 fn65 m u0_0 =
 (cond (decide (((ByteArray.size u0_0 : Nat) : Int) > (200 : Int)))
 ((fn52 []).bind fun d15 =>
 (rdB (some d15)).bind fun b16 =>
 some (D.v (.bool b16)))
 ((fn63 [(D.v (.string u0_0))]).bind fun d17 =>
 (rdT d17).bind fun r18 =>
 if List.length r18 = 2 then
 (rdL r18[0]?).bind fun q19 =>
 (rdI .i64 r18[1]?).bind fun x20 =>
 (fn65 [(D.v (.string u0_0))]).bind fun d21 =>
 (rdT d21).bind fun r22 =>
 if List.length r22 = 2 then
 (rdL r22[0]?).bind fun q23 =>
 (rdI .i64 r22[1]?).bind fun x24 =>
 (fn47 [(D.list q19.n q19.cap q19.cs), (D.v (.int .i64 x20)), (D.list q23.n q23.cap q23.cs), (D.v (.int .i64 x24))]).bind fun d25 =>
 (rdB (some d25)).bind fun b26 =>
 cond b26
 ((fn52 []).bind fun d27 =>
 (rdB (some d27)).bind fun b28 =>
 some (D.v (.bool b28)))
 (some (D.v (.bool false)))
 else none
 else none)) := by kernel_rfl
noncomputable def F14 (fn39 fn45 fn47 fn52 fn62 fn63 fn64 fn65 : List D → Option D) (m : Nat) (a0_0n : Nat) (a0_0c : Option Nat) (a0_0 : List D) (a1 : ByteArray) : Option D :=
 (fn39 [(D.agg [(D.list a0_0n a0_0c a0_0)])]).bind fun d1 =>
 (rdL (some d1)).bind fun q2 =>
 (fn62 [(D.list q2.n q2.cap q2.cs)]).bind fun d3 =>
 (rdS (some d3)).bind fun s4 =>
 (fn63 [(D.v (.string s4))]).bind fun d5 =>
 (rdT d5).bind fun r6 =>
 if List.length r6 = 2 then
 (rdL r6[0]?).bind fun q7 =>
 (rdI .i64 r6[1]?).bind fun x8 =>
 (fn45 [(D.list q2.n q2.cap q2.cs)]).bind fun d9 =>
 (rdL (some d9)).bind fun q10 =>
 (fn64 [(D.list q10.n q10.cap q10.cs)]).bind fun d11 =>
 (rdS (some d11)).bind fun s12 =>
 cond (!(ByteArray.toList s4 == ByteArray.toList s12))
 (some (D.v (.bool false)))
 (cond (x8 != (0 : Int))
 (some (D.v (.bool false)))
 (if (List.length q7.cs) = q7.n then
 (bytesOf q7.cs).bind fun l13 =>
 if (List.length q2.cs) = q2.n then
 (bytesOf q2.cs).bind fun l14 =>
 cond (!(ByteArray.toList (ByteArray.mk (List.toArray l13)) == ByteArray.toList (ByteArray.mk (List.toArray l14))))
 (some (D.v (.bool false)))
 (F14_14_j6 fn39 fn45 fn47 fn52 fn62 fn63 fn64 fn65 m a1)
 else none
 else none))
 else none
theorem F14_eq (fn39 fn45 fn47 fn52 fn62 fn63 fn64 fn65 : List D → Option D) (m : Nat) (a0_0n : Nat) (a0_0c : Option Nat) (a0_0 : List D) (a1 : ByteArray) : funD Tryd.prog (H14 fn39 fn45 fn47 fn52 fn62 fn63 fn64 fn65) m 3 fh14_14 Tryd.f14 [(D.agg [(D.list a0_0n a0_0c a0_0)]), (D.v (.string a1))] = F14 fn39 fn45 fn47 fn52 fn62 fn63 fn64 fn65 m a0_0n a0_0c a0_0 a1 := by kernel_rfl
theorem en14 : Enters Tryd.prog 14 := ⟨Tryd.f14, Tryd.func14, by kernel_rfl, by kernel_rfl⟩
theorem dt14 {ds : List D} {d : D} (h : funD Tryd.prog (H14 sp39 sp45 sp47 sp52 sp62 sp63 sp64 sp65) M 3 fh14_14 Tryd.f14 ds = some d) : DataSem Tryd.prog 14 ds d := data_sound (H := (H14 sp39 sp45 sp47 sp52 sp62 sp63 sp64 sp65)) (SpOk.cons ds39 (SpOk.cons ds45 (SpOk.cons ds47 (SpOk.cons ds52 (SpOk.cons ds62 (SpOk.cons ds63 (SpOk.cons ds64 (SpOk.cons ds65 SpOk.nil)))))))) mixed InlOk.nil Tryd.func14 en14 h
noncomputable def sp14 : List D → Option D
  | [.agg [.list a0_0n a0_0c a0_0], .v (.string a1)] => F14 sp39 sp45 sp47 sp52 sp62 sp63 sp64 sp65 M a0_0n a0_0c a0_0 a1
  | _ => none
theorem ds14 : ∀ ds d, sp14 ds = some d → DataSem Tryd.prog 14 ds d := by
  intro ds d h
  unfold sp14 at h
  split at h
  · exact dt14 ((F14_eq sp39 sp45 sp47 sp52 sp62 sp63 sp64 sp65 M _ _ _ _).trans h)
  · cases h

end Go.Ev
