/- Functions of the given program in plain form, printed: each with the proof that it is what the evaluator comes to, and that the program function returns what it says. No conditions. -/
import Derived.Test.YtilgfaangfbndaaDoorEvCap
set_option linter.unusedVariables false
set_option maxRecDepth 100000
namespace Go.Ev
open Go Go.Proofs

-- ('str', '"vidimus/vidimuslaw01.NatsSmall"')
def fh17_17 : FnH := ⟨[], [(5, ⟨[false, false, false, true, false, false, false, false, false, false, false, false, false, false, false, false, false, false, false, false, false, false, false, false, false, false, false, false, false, false, false, false, false, false, false, false, false, false, false, false, false, false, false, false, false, false, false, false, false, false, false, false, false, false, false, false, false, false, false, false, false, false, false, false, false, false, false, false, false, false, false, false, false, false, false, false, false, false, false, false, false, false, false, false, false, false, false, false, false, false, false, false, false, false, false, false, false, false, false, false, false], [], (some 1)⟩), (9, ⟨[false, false, false, false, false, false, false, false, true, false, false, false, false, false, false, false, false, false, false, false, false, false, false, false, false, false, false, false, false, false, false, false, false, false, false, false, false, false, false, false, false, false, false, false, false, false, false, false, false, false, false, false, false, false, false, false, false, false, false, false, false, false, false, false, false, false, false, false, false, false, false, false, false, false, false, false, false, false, false, false, false, false, false, false, false, false, false, false, false, false, false, false, false, false, false, false, false, false, false, false, false], [], (some 0)⟩), (12, ⟨[false, false, false, false, false, false, false, false, true, false, false, true, false, false, false, false, false, false, false, false, false, false, false, false, false, false, false, false, false, false, false, false, false, false, false, false, false, false, false, false, false, false, false, false, false, false, false, false, false, false, false, false, false, false, false, false, false, false, false, false, false, false, false, false, false, false, false, false, false, false, false, false, false, false, false, false, false, false, false, false, false, false, false, false, false, false, false, false, false, false, false, false, false, false, false, false, false, false, false, false, false], [], (some 0)⟩)]⟩
def H17 (fn39 fn52 fn58 fn61 fn67 fn68 fn69 fn70 : List D → Option D) : Hints := ⟨[(39, fn39), (52, fn52), (58, fn58), (61, fn61), (67, fn67), (68, fn68), (69, fn69), (70, fn70)], []⟩
noncomputable def F17_17_j5 (fn39 fn52 fn58 fn61 fn67 fn68 fn69 fn70 : List D → Option D) (m : Nat) (u0_0 : Nat) (u0_1 : Option Nat) (u0_2 : List D) : Option D :=
 cutK (codeK Tryd.prog (H17 fn39 fn52 fn58 fn61 fn67 fn68 fn69 fn70).sp 0 (inlK Tryd.prog (H17 fn39 fn52 fn58 fn61 fn67 fn68 fn69 fn70) m 3) m fh17_17 (subc [1, 1, 1, 1] (bodyOf Tryd.f17)) ⟨[.junk, .junk, .junk, (AV.ptr 0 0), .junk, .junk, .junk, .junk, .junk, .junk, .junk, .junk, .junk, .junk, .junk, .junk, .junk, .junk, .junk, .junk, .junk, .junk, .junk, .junk, .junk, .junk, .junk, .junk, .junk, .junk, .junk, .junk, .junk, .junk, .junk, .junk, .junk, .junk, .junk, .junk, .junk, .junk, .junk, .junk, .junk, .junk, .junk, .junk, .junk, .junk, .junk, .junk, .junk, .junk, .junk, .junk, .junk, .junk, .junk, .junk, .junk, .junk, .junk, .junk, .junk, .junk, .junk, .junk, .junk, .junk, .junk, .junk, .junk, .junk, .junk, .junk, .junk, .junk, .junk, .junk, .junk, .junk, .junk, .junk, .junk, .junk, .junk, .junk, .junk, .junk, .junk, .junk, .junk, .junk, .junk, .junk, .junk, .junk, .junk, .junk, .junk], [(Blk.d 1 [(D.list u0_0 u0_1 u0_2)])]⟩
  (contK Tryd.prog (H17 fn39 fn52 fn58 fn61 fn67 fn68 fn69 fn70).sp 0 (inlK Tryd.prog (H17 fn39 fn52 fn58 fn61 fn67 fn68 fn69 fn70) m 3) m fh17_17 (endK Tryd.prog Tryd.f17 (fun v L => viewK L 8 v some)) []))
noncomputable def F17_17_j9 (fn39 fn52 fn58 fn61 fn67 fn68 fn69 fn70 : List D → Option D) (m : Nat) (u1_0 : Nat) (u1_1 : Option Nat) (u1_2 : List D) : Option D :=
 cutK (codeK Tryd.prog (H17 fn39 fn52 fn58 fn61 fn67 fn68 fn69 fn70).sp 0 (inlK Tryd.prog (H17 fn39 fn52 fn58 fn61 fn67 fn68 fn69 fn70) m 3) m fh17_17 (subc [1, 1, 1, 1, 1, 1, 1] (bodyOf Tryd.f17)) ⟨[.junk, .junk, .junk, .junk, .junk, .junk, .junk, .junk, (AV.d (D.list u1_0 u1_1 u1_2)), .junk, .junk, .junk, .junk, .junk, .junk, .junk, .junk, .junk, .junk, .junk, .junk, .junk, .junk, .junk, .junk, .junk, .junk, .junk, .junk, .junk, .junk, .junk, .junk, .junk, .junk, .junk, .junk, .junk, .junk, .junk, .junk, .junk, .junk, .junk, .junk, .junk, .junk, .junk, .junk, .junk, .junk, .junk, .junk, .junk, .junk, .junk, .junk, .junk, .junk, .junk, .junk, .junk, .junk, .junk, .junk, .junk, .junk, .junk, .junk, .junk, .junk, .junk, .junk, .junk, .junk, .junk, .junk, .junk, .junk, .junk, .junk, .junk, .junk, .junk, .junk, .junk, .junk, .junk, .junk, .junk, .junk, .junk, .junk, .junk, .junk, .junk, .junk, .junk, .junk, .junk, .junk], []⟩
  (contK Tryd.prog (H17 fn39 fn52 fn58 fn61 fn67 fn68 fn69 fn70).sp 0 (inlK Tryd.prog (H17 fn39 fn52 fn58 fn61 fn67 fn68 fn69 fn70) m 3) m fh17_17 (endK Tryd.prog Tryd.f17 (fun v L => viewK L 8 v some)) []))
noncomputable def F17_17_j12 (fn39 fn52 fn58 fn61 fn67 fn68 fn69 fn70 : List D → Option D) (m : Nat) (u2_0 : Nat) (u2_1 : Option Nat) (u2_2 : List D) (u2_3 : Int) : Option D :=
 cutK (codeK Tryd.prog (H17 fn39 fn52 fn58 fn61 fn67 fn68 fn69 fn70).sp 0 (inlK Tryd.prog (H17 fn39 fn52 fn58 fn61 fn67 fn68 fn69 fn70) m 3) m fh17_17 (subc [1, 1, 1, 1, 1, 1, 1, 1, 1] (bodyOf Tryd.f17)) ⟨[.junk, .junk, .junk, .junk, .junk, .junk, .junk, .junk, (AV.d (D.list u2_0 u2_1 u2_2)), .junk, .junk, (AV.d (D.v (.int .i64 u2_3))), .junk, .junk, .junk, .junk, .junk, .junk, .junk, .junk, .junk, .junk, .junk, .junk, .junk, .junk, .junk, .junk, .junk, .junk, .junk, .junk, .junk, .junk, .junk, .junk, .junk, .junk, .junk, .junk, .junk, .junk, .junk, .junk, .junk, .junk, .junk, .junk, .junk, .junk, .junk, .junk, .junk, .junk, .junk, .junk, .junk, .junk, .junk, .junk, .junk, .junk, .junk, .junk, .junk, .junk, .junk, .junk, .junk, .junk, .junk, .junk, .junk, .junk, .junk, .junk, .junk, .junk, .junk, .junk, .junk, .junk, .junk, .junk, .junk, .junk, .junk, .junk, .junk, .junk, .junk, .junk, .junk, .junk, .junk, .junk, .junk, .junk, .junk, .junk, .junk], []⟩
  (contK Tryd.prog (H17 fn39 fn52 fn58 fn61 fn67 fn68 fn69 fn70).sp 0 (inlK Tryd.prog (H17 fn39 fn52 fn58 fn61 fn67 fn68 fn69 fn70) m 3) m fh17_17 (endK Tryd.prog Tryd.f17 (fun v L => viewK L 8 v some)) []))
theorem F17_17_j12_e (fn39 fn52 fn58 fn61 fn67 fn68 fn69 fn70 : List D → Option D) (m : Nat) (u2_0 : Nat) (u2_1 : Option Nat) (u2_2 : List D) (u2_3 : Int) : F17_17_j12 fn39 fn52 fn58 fn61 fn67 fn68 fn69 fn70 m u2_0 u2_1 u2_2 u2_3 =
 (cond (u2_3 == (0 : Int))
 ((fn52 []).bind fun d26 =>
 (rdB (some d26)).bind fun b27 =>
 some (D.v (.bool b27)))
 ((fn70 [(D.v (.int .i64 (IntKind.wrap .i64 (u2_3 - (1 : Int)))))]).bind fun d28 =>
 (rdL (some d28)).bind fun q29 =>
 (fn61 [(D.list q29.n q29.cap q29.cs), (D.list u2_0 u2_1 u2_2)]).bind fun d30 =>
 (rdI .i64 (some d30)).bind fun x31 =>
 cond (decide (x31 ≤ (0 : Int)))
 ((fn52 []).bind fun d32 =>
 (rdB (some d32)).bind fun b33 =>
 some (D.v (.bool b33)))
 (some (D.v (.bool false))))) := by kernel_rfl
theorem F17_17_j9_e (fn39 fn52 fn58 fn61 fn67 fn68 fn69 fn70 : List D → Option D) (m : Nat) (u1_0 : Nat) (u1_1 : Option Nat) (u1_2 : List D) : F17_17_j9 fn39 fn52 fn58 fn61 fn67 fn68 fn69 fn70 m u1_0 u1_1 u1_2 =
 ((fn67 [(D.list u1_0 u1_1 u1_2)]).bind fun d20 =>
 (rdI .i64 (some d20)).bind fun x21 =>
 cond (decide (x21 < (0 : Int)))
 (some (D.v (.bool false)))
 (cond (decide (x21 > (512 : Int)))
 (some (D.v (.bool false)))
 ((fn70 [(D.v (.int .i64 x21))]).bind fun d22 =>
 (rdL (some d22)).bind fun q23 =>
 (fn61 [(D.list q23.n q23.cap q23.cs), (D.list u1_0 u1_1 u1_2)]).bind fun d24 =>
 (rdI .i64 (some d24)).bind fun x25 =>
 cond (decide (x25 ≤ (0 : Int)))
 (some (D.v (.bool false)))
 (F17_17_j12 fn39 fn52 fn58 fn61 fn67 fn68 fn69 fn70 m u1_0 u1_1 u1_2 x21)))) := by kernel_rfl
theorem F17_17_j5_e (fn39 fn52 fn58 fn61 fn67 fn68 fn69 fn70 : List D → Option D) (m : Nat) (u0_0 : Nat) (u0_1 : Option Nat) (u0_2 : List D) : F17_17_j5 fn39 fn52 fn58 fn61 fn67 fn68 fn69 fn70 m u0_0 u0_1 u0_2 =
 ((fn39 [(D.agg [(D.list u0_0 u0_1 u0_2)])]).bind fun d10 =>
 (rdL (some d10)).bind fun q11 =>
 (fn69 [(D.list q11.n q11.cap q11.cs)]).bind fun d12 =>
 (rdT d12).bind fun r13 =>
 if List.length r13 = 2 then
 (rdI .u64 r13[0]?).bind fun x14 =>
 (rdI .i64 r13[1]?).bind fun x15 =>
 cond (decide (((q11.n : Nat) : Int) > (8 : Int)))
 (cond (x15 != (3 : Int))
 (some (D.v (.bool false)))
 (cond (x14 != (0 : Int))
 (some (D.v (.bool false)))
 (cond (decide (((q11.n : Nat) : Int) ≤ (8 : Int)))
 (cond (x15 != (0 : Int))
 (some (D.v (.bool false)))
 ((fn58 [(D.v (.int .u64 x14))]).bind fun d16 =>
 (rdL (some d16)).bind fun q17 =>
 if (List.length q17.cs) = q17.n then
 (bytesOf q17.cs).bind fun l18 =>
 if (List.length q11.cs) = q11.n then
 (bytesOf q11.cs).bind fun l19 =>
 cond (!(ByteArray.toList (ByteArray.mk (List.toArray l18)) == ByteArray.toList (ByteArray.mk (List.toArray l19))))
 (some (D.v (.bool false)))
 (F17_17_j9 fn39 fn52 fn58 fn61 fn67 fn68 fn69 fn70 m q11.n q11.cap q11.cs)
 else none
 else none))
 (F17_17_j9 fn39 fn52 fn58 fn61 fn67 fn68 fn69 fn70 m q11.n q11.cap q11.cs))))
 (cond (decide (((q11.n : Nat) : Int) ≤ (8 : Int)))
 (cond (x15 != (0 : Int))
 (some (D.v (.bool false)))
 ((fn58 [(D.v (.int .u64 x14))]).bind fun d34 =>
 (rdL (some d34)).bind fun q35 =>
 if (List.length q35.cs) = q35.n then
 (bytesOf q35.cs).bind fun l36 =>
 if (List.length q11.cs) = q11.n then
 (bytesOf q11.cs).bind fun l37 =>
 cond (!(ByteArray.toList (ByteArray.mk (List.toArray l36)) == ByteArray.toList (ByteArray.mk (List.toArray l37))))
 (some (D.v (.bool false)))
 (F17_17_j9 fn39 fn52 fn58 fn61 fn67 fn68 fn69 fn70 m q11.n q11.cap q11.cs)
 else none
 else none))
 (F17_17_j9 fn39 fn52 fn58 fn61 fn67 fn68 fn69 fn70 m q11.n q11.cap q11.cs))
 else none) := by kernel_rfl
noncomputable def F17 (fn39 fn52 fn58 fn61 fn67 fn68 fn69 fn70 : List D → Option D) (m : Nat) (a0 : Int) (a1_0n : Nat) (a1_0c : Option Nat) (a1_0 : List D) : Option D :=
 (fn58 [(D.v (.int .u64 a0))]).bind fun d1 =>
 (rdL (some d1)).bind fun q2 =>
 (fn69 [(D.list q2.n q2.cap q2.cs)]).bind fun d3 =>
 (rdT d3).bind fun r4 =>
 if List.length r4 = 2 then
 (rdI .u64 r4[0]?).bind fun x5 =>
 (rdI .i64 r4[1]?).bind fun x6 =>
 (fn68 [(D.list q2.n q2.cap q2.cs)]).bind fun d7 =>
 (rdI .i64 (some d7)).bind fun x8 =>
 cond (x8 != (0 : Int))
 (some (D.v (.bool false)))
 (capO (q2.cap) fun n9 =>
 cond (((n9 : Nat) : Int) != ((q2.n : Nat) : Int))
 (some (D.v (.bool false)))
 (cond (x6 != (0 : Int))
 (some (D.v (.bool false)))
 (cond (x5 != a0)
 (some (D.v (.bool false)))
 (F17_17_j5 fn39 fn52 fn58 fn61 fn67 fn68 fn69 fn70 m a1_0n a1_0c a1_0))))
 else none
theorem F17_eq (fn39 fn52 fn58 fn61 fn67 fn68 fn69 fn70 : List D → Option D) (m : Nat) (a0 : Int) (a1_0n : Nat) (a1_0c : Option Nat) (a1_0 : List D) : funD Tryd.prog (H17 fn39 fn52 fn58 fn61 fn67 fn68 fn69 fn70) m 3 fh17_17 Tryd.f17 [(D.v (.int .u64 a0)), (D.agg [(D.list a1_0n a1_0c a1_0)])] = F17 fn39 fn52 fn58 fn61 fn67 fn68 fn69 fn70 m a0 a1_0n a1_0c a1_0 := by kernel_rfl
theorem en17 : Enters Tryd.prog 17 := ⟨Tryd.f17, Tryd.func17, by kernel_rfl, by kernel_rfl⟩
theorem dt17 {ds : List D} {d : D} (h : funD Tryd.prog (H17 sp39 sp52 sp58 sp61 sp67 sp68 sp69 sp70) M 3 fh17_17 Tryd.f17 ds = some d) : DataSem Tryd.prog 17 ds d := data_sound (H := (H17 sp39 sp52 sp58 sp61 sp67 sp68 sp69 sp70)) (SpOk.cons ds39 (SpOk.cons ds52 (SpOk.cons ds58 (SpOk.cons ds61 (SpOk.cons ds67 (SpOk.cons ds68 (SpOk.cons ds69 (SpOk.cons ds70 SpOk.nil)))))))) mixed InlOk.nil Tryd.func17 en17 h
noncomputable def sp17 : List D → Option D
  | [.v (.int .u64 a0), .agg [.list a1_0n a1_0c a1_0]] => F17 sp39 sp52 sp58 sp61 sp67 sp68 sp69 sp70 M a0 a1_0n a1_0c a1_0
  | _ => none
theorem ds17 : ∀ ds d, sp17 ds = some d → DataSem Tryd.prog 17 ds d := by
  intro ds d h
  unfold sp17 at h
  split at h
  · exact dt17 ((F17_eq sp39 sp52 sp58 sp61 sp67 sp68 sp69 sp70 M _ _ _ _).trans h)
  · cases h

end Go.Ev
