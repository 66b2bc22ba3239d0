/- Functions of the given program in plain form, printed: each with the proof that it is what the evaluator comes to, and that the program function returns what it says. No conditions. -/
import Derived.Test.YtilgfaangfbndaaDoorEvG8
import Derived.Test.YtilgfaangfbndaaDoorEvG5d
set_option linter.unusedVariables false
set_option maxRecDepth 100000
namespace Go.Ev
open Go Go.Proofs

-- ('str', '"vidimus/vidimuslaw01.NatsCheck"')
def fh16_16 : FnH := ⟨[], [(3, ⟨[true, true, true, false, false, false, false, false, false, false, false, false, false, false, false, false, false, false, false, false, false, false, false, false, false, false, false, false, false, false, false, false, false, false, false, false, false, false, false, false, false, false, false, false, false, false, false, false, false, false, false, false, false, false, false, false, false, false, false, false, false, false, false, false, false, false, false, false, false, false, false, false, false, false, false, false, false, false, false, false, false, false, false, false, false, false, false, false, false, false, false, false, false, false, false, false, false, false, false, false, false, false, false, false, false, false, false, false, false, false, false, false, false, false, false, false, false, false, false, false, false, false, false, false, false, false, false, false, false, false, false, false, false, false, false, false, false], [], (some 0)⟩), (9, ⟨[true, true, true, false, false, false, false, true, true, false, false, false, false, false, false, false, false, false, false, false, false, false, false, false, false, false, false, false, false, false, false, false, false, false, false, false, false, false, false, false, false, false, false, false, false, false, false, false, false, false, false, false, false, false, false, false, false, false, false, false, false, false, false, false, false, false, false, false, false, false, false, false, false, false, false, false, false, false, false, false, false, false, false, false, false, false, false, false, false, false, false, false, false, false, false, false, false, false, false, false, false, false, false, false, false, false, false, false, false, false, false, false, false, false, false, false, false, false, false, false, false, false, false, false, false, false, false, false, false, false, false, false, false, false, false, false, false], [], (some 0)⟩), (15, ⟨[true, false, true, false, false, false, false, true, false, false, false, false, false, false, false, false, false, false, false, false, false, false, false, false, false, false, false, false, false, false, false, false, false, false, false, false, false, false, false, false, false, false, false, false, false, false, false, false, false, false, false, false, false, false, false, false, false, false, false, false, false, false, false, false, false, false, false, false, false, false, false, false, false, false, false, false, false, false, false, false, false, false, false, false, false, false, false, false, false, false, false, false, false, false, false, false, false, false, false, false, false, false, false, false, false, false, false, false, false, false, false, false, false, false, false, false, false, false, false, false, false, false, false, false, false, false, false, false, false, false, false, false, false, false, false, false, false], [], (some 0)⟩)]⟩
def H16 (fn43 fn46 fn47 fn50 fn52 fn55 fn56 fn59 fn62 fn67 fn68 fn69 : List D → Option D) : Hints := ⟨[(43, fn43), (46, fn46), (47, fn47), (50, fn50), (52, fn52), (55, fn55), (56, fn56), (59, fn59), (62, fn62), (67, fn67), (68, fn68), (69, fn69)], []⟩
noncomputable def F16_16_j3 (fn43 fn46 fn47 fn50 fn52 fn55 fn56 fn59 fn62 fn67 fn68 fn69 : List D → Option D) (m : Nat) (u0_0 : Nat) (u0_1 : Option Nat) (u0_2 : List D) (u0_3 : Nat) (u0_4 : Option Nat) (u0_5 : List D) (u0_6 : Int) : Option D :=
 cutK (codeK Tryd.prog (H16 fn43 fn46 fn47 fn50 fn52 fn55 fn56 fn59 fn62 fn67 fn68 fn69).sp 0 (inlK Tryd.prog (H16 fn43 fn46 fn47 fn50 fn52 fn55 fn56 fn59 fn62 fn67 fn68 fn69) m 3) m fh16_16 (subc [1, 1] (bodyOf Tryd.f16)) ⟨[(AV.d (D.list u0_0 u0_1 u0_2)), (AV.d (D.list u0_3 u0_4 u0_5)), (AV.d (D.v (.int .i64 u0_6))), .junk, .junk, .junk, .junk, .junk, .junk, .junk, .junk, .junk, .junk, .junk, .junk, .junk, .junk, .junk, .junk, .junk, .junk, .junk, .junk, .junk, .junk, .junk, .junk, .junk, .junk, .junk, .junk, .junk, .junk, .junk, .junk, .junk, .junk, .junk, .junk, .junk, .junk, .junk, .junk, .junk, .junk, .junk, .junk, .junk, .junk, .junk, .junk, .junk, .junk, .junk, .junk, .junk, .junk, .junk, .junk, .junk, .junk, .junk, .junk, .junk, .junk, .junk, .junk, .junk, .junk, .junk, .junk, .junk, .junk, .junk, .junk, .junk, .junk, .junk, .junk, .junk, .junk, .junk, .junk, .junk, .junk, .junk, .junk, .junk, .junk, .junk, .junk, .junk, .junk, .junk, .junk, .junk, .junk, .junk, .junk, .junk, .junk, .junk, .junk, .junk, .junk, .junk, .junk, .junk, .junk, .junk, .junk, .junk, .junk, .junk, .junk, .junk, .junk, .junk, .junk, .junk, .junk, .junk, .junk, .junk, .junk, .junk, .junk, .junk, .junk, .junk, .junk, .junk, .junk, .junk, .junk, .junk, .junk], []⟩
  (contK Tryd.prog (H16 fn43 fn46 fn47 fn50 fn52 fn55 fn56 fn59 fn62 fn67 fn68 fn69).sp 0 (inlK Tryd.prog (H16 fn43 fn46 fn47 fn50 fn52 fn55 fn56 fn59 fn62 fn67 fn68 fn69) m 3) m fh16_16 (endK Tryd.prog Tryd.f16 (fun v L => viewK L 8 v some)) []))
noncomputable def F16_16_j9 (fn43 fn46 fn47 fn50 fn52 fn55 fn56 fn59 fn62 fn67 fn68 fn69 : List D → Option D) (m : Nat) (u1_0 : Nat) (u1_1 : Option Nat) (u1_2 : List D) (u1_3 : Nat) (u1_4 : Option Nat) (u1_5 : List D) (u1_6 : Int) (u1_7 : Int) (u1_8 : Int) : Option D :=
 cutK (codeK Tryd.prog (H16 fn43 fn46 fn47 fn50 fn52 fn55 fn56 fn59 fn62 fn67 fn68 fn69).sp 0 (inlK Tryd.prog (H16 fn43 fn46 fn47 fn50 fn52 fn55 fn56 fn59 fn62 fn67 fn68 fn69) m 3) m fh16_16 (subc [1, 1, 1, 1, 1, 1] (bodyOf Tryd.f16)) ⟨[(AV.d (D.list u1_0 u1_1 u1_2)), (AV.d (D.list u1_3 u1_4 u1_5)), (AV.d (D.v (.int .i64 u1_6))), .junk, .junk, .junk, .junk, (AV.d (D.v (.int .i64 u1_7))), (AV.d (D.v (.int .i64 u1_8))), .junk, .junk, .junk, .junk, .junk, .junk, .junk, .junk, .junk, .junk, .junk, .junk, .junk, .junk, .junk, .junk, .junk, .junk, .junk, .junk, .junk, .junk, .junk, .junk, .junk, .junk, .junk, .junk, .junk, .junk, .junk, .junk, .junk, .junk, .junk, .junk, .junk, .junk, .junk, .junk, .junk, .junk, .junk, .junk, .junk, .junk, .junk, .junk, .junk, .junk, .junk, .junk, .junk, .junk, .junk, .junk, .junk, .junk, .junk, .junk, .junk, .junk, .junk, .junk, .junk, .junk, .junk, .junk, .junk, .junk, .junk, .junk, .junk, .junk, .junk, .junk, .junk, .junk, .junk, .junk, .junk, .junk, .junk, .junk, .junk, .junk, .junk, .junk, .junk, .junk, .junk, .junk, .junk, .junk, .junk, .junk, .junk, .junk, .junk, .junk, .junk, .junk, .junk, .junk, .junk, .junk, .junk, .junk, .junk, .junk, .junk, .junk, .junk, .junk, .junk, .junk, .junk, .junk, .junk, .junk, .junk, .junk, .junk, .junk, .junk, .junk, .junk, .junk], []⟩
  (contK Tryd.prog (H16 fn43 fn46 fn47 fn50 fn52 fn55 fn56 fn59 fn62 fn67 fn68 fn69).sp 0 (inlK Tryd.prog (H16 fn43 fn46 fn47 fn50 fn52 fn55 fn56 fn59 fn62 fn67 fn68 fn69) m 3) m fh16_16 (endK Tryd.prog Tryd.f16 (fun v L => viewK L 8 v some)) []))
noncomputable def F16_16_j15 (fn43 fn46 fn47 fn50 fn52 fn55 fn56 fn59 fn62 fn67 fn68 fn69 : List D → Option D) (m : Nat) (u2_0 : Nat) (u2_1 : Option Nat) (u2_2 : List D) (u2_3 : Int) (u2_4 : Int) : Option D :=
 cutK (codeK Tryd.prog (H16 fn43 fn46 fn47 fn50 fn52 fn55 fn56 fn59 fn62 fn67 fn68 fn69).sp 0 (inlK Tryd.prog (H16 fn43 fn46 fn47 fn50 fn52 fn55 fn56 fn59 fn62 fn67 fn68 fn69) m 3) m fh16_16 (subc [1, 1, 1, 1, 1, 1, 1] (bodyOf Tryd.f16)) ⟨[(AV.d (D.list u2_0 u2_1 u2_2)), .junk, (AV.d (D.v (.int .i64 u2_3))), .junk, .junk, .junk, .junk, (AV.d (D.v (.int .i64 u2_4))), .junk, .junk, .junk, .junk, .junk, .junk, .junk, .junk, .junk, .junk, .junk, .junk, .junk, .junk, .junk, .junk, .junk, .junk, .junk, .junk, .junk, .junk, .junk, .junk, .junk, .junk, .junk, .junk, .junk, .junk, .junk, .junk, .junk, .junk, .junk, .junk, .junk, .junk, .junk, .junk, .junk, .junk, .junk, .junk, .junk, .junk, .junk, .junk, .junk, .junk, .junk, .junk, .junk, .junk, .junk, .junk, .junk, .junk, .junk, .junk, .junk, .junk, .junk, .junk, .junk, .junk, .junk, .junk, .junk, .junk, .junk, .junk, .junk, .junk, .junk, .junk, .junk, .junk, .junk, .junk, .junk, .junk, .junk, .junk, .junk, .junk, .junk, .junk, .junk, .junk, .junk, .junk, .junk, .junk, .junk, .junk, .junk, .junk, .junk, .junk, .junk, .junk, .junk, .junk, .junk, .junk, .junk, .junk, .junk, .junk, .junk, .junk, .junk, .junk, .junk, .junk, .junk, .junk, .junk, .junk, .junk, .junk, .junk, .junk, .junk, .junk, .junk, .junk, .junk], []⟩
  (contK Tryd.prog (H16 fn43 fn46 fn47 fn50 fn52 fn55 fn56 fn59 fn62 fn67 fn68 fn69).sp 0 (inlK Tryd.prog (H16 fn43 fn46 fn47 fn50 fn52 fn55 fn56 fn59 fn62 fn67 fn68 fn69) m 3) m fh16_16 (endK Tryd.prog Tryd.f16 (fun v L => viewK L 8 v some)) []))
theorem F16_16_j15_e (fn43 fn46 fn47 fn50 fn52 fn55 fn56 fn59 fn62 fn67 fn68 fn69 : List D → Option D) (m : Nat) (u2_0 : Nat) (u2_1 : Option Nat) (u2_2 : List D) (u2_3 : Int) (u2_4 : Int) : F16_16_j15 fn43 fn46 fn47 fn50 fn52 fn55 fn56 fn59 fn62 fn67 fn68 fn69 m u2_0 u2_1 u2_2 u2_3 u2_4 =
 (cond (u2_4 == (0 : Int))
 ((fn52 []).bind fun d29 =>
 (rdB (some d29)).bind fun b30 =>
 some (D.v (.bool b30)))
 ((fn69 [(D.list u2_0 u2_1 u2_2)]).bind fun d31 =>
 (rdT d31).bind fun r32 =>
 if List.length r32 = 2 then
 (rdI .u64 r32[0]?).bind fun x33 =>
 (rdI .i64 r32[1]?).bind fun x34 =>
 (fn56 [(D.list u2_0 u2_1 u2_2), (D.v (.int .u32 (0 : Int)))]).bind fun d35 =>
 (rdT d35).bind fun r36 =>
 if List.length r36 = 3 then
 (rdL r36[0]?).bind fun q37 =>
 (rdI .u32 r36[1]?).bind fun x38 =>
 (rdI .i64 r36[2]?).bind fun x39 =>
 (fn59 [(D.list u2_0 u2_1 u2_2), (D.v (.int .i64 u2_3))]).bind fun d40 =>
 (rdT d40).bind fun r41 =>
 if List.length r41 = 2 then
 (rdL r41[0]?).bind fun q42 =>
 (rdI .i64 r41[1]?).bind fun x43 =>
 cond (x33 == (0 : Int))
 (cond (x34 == u2_4)
 ((fn47 [(D.list q37.n q37.cap q37.cs), (D.v (.int .i64 x39)), (D.list 0 (some 0) []), (D.v (.int .i64 u2_4))]).bind fun d44 =>
 (rdB (some d44)).bind fun b45 =>
 cond b45
 (cond (x38 == (0 : Int))
 ((fn47 [(D.list q42.n q42.cap q42.cs), (D.v (.int .i64 x43)), (D.list 0 (some 0) []), (D.v (.int .i64 u2_4))]).bind fun d46 =>
 (rdB (some d46)).bind fun b47 =>
 cond b47
 ((fn67 [(D.list u2_0 u2_1 u2_2)]).bind fun d48 =>
 (rdI .i64 (some d48)).bind fun x49 =>
 cond (x49 == (0 : Int))
 ((fn62 [(D.list u2_0 u2_1 u2_2)]).bind fun d50 =>
 (rdS (some d50)).bind fun s51 =>
 cond (ByteArray.toList s51 == ByteArray.toList (ByteArray.mk #[63]))
 ((fn52 []).bind fun d52 =>
 (rdB (some d52)).bind fun b53 =>
 some (D.v (.bool b53)))
 (some (D.v (.bool false))))
 (some (D.v (.bool false))))
 (some (D.v (.bool false))))
 (some (D.v (.bool false))))
 (some (D.v (.bool false))))
 (some (D.v (.bool false))))
 (some (D.v (.bool false)))
 else none
 else none
 else none)) := by kernel_rfl
theorem F16_16_j9_e (fn43 fn46 fn47 fn50 fn52 fn55 fn56 fn59 fn62 fn67 fn68 fn69 : List D → Option D) (m : Nat) (u1_0 : Nat) (u1_1 : Option Nat) (u1_2 : List D) (u1_3 : Nat) (u1_4 : Option Nat) (u1_5 : List D) (u1_6 : Int) (u1_7 : Int) (u1_8 : Int) : F16_16_j9 fn43 fn46 fn47 fn50 fn52 fn55 fn56 fn59 fn62 fn67 fn68 fn69 m u1_0 u1_1 u1_2 u1_3 u1_4 u1_5 u1_6 u1_7 u1_8 =
 (cond (u1_8 != (0 : Int))
 ((fn46 [(D.list u1_0 u1_1 u1_2), (D.list u1_3 u1_4 u1_5)]).bind fun d11 =>
 (rdT d11).bind fun r12 =>
 if List.length r12 = 2 then
 (rdL r12[0]?).bind fun q13 =>
 (rdI .i64 r12[1]?).bind fun x14 =>
 (fn50 [(D.list u1_0 u1_1 u1_2), (D.list u1_3 u1_4 u1_5)]).bind fun d15 =>
 (rdT d15).bind fun r16 =>
 if List.length r16 = 2 then
 (rdL r16[0]?).bind fun q17 =>
 (rdI .i64 r16[1]?).bind fun x18 =>
 (fn55 [(D.list u1_0 u1_1 u1_2), (D.list u1_3 u1_4 u1_5)]).bind fun d19 =>
 (rdT d19).bind fun r20 =>
 if List.length r20 = 2 then
 (rdL r20[0]?).bind fun q21 =>
 (rdI .i64 r20[1]?).bind fun x22 =>
 (fn47 [(D.list q13.n q13.cap q13.cs), (D.v (.int .i64 x14)), (D.list 0 (some 0) []), (D.v (.int .i64 u1_8))]).bind fun d23 =>
 (rdB (some d23)).bind fun b24 =>
 cond (!b24)
 (some (D.v (.bool false)))
 ((fn47 [(D.list q17.n q17.cap q17.cs), (D.v (.int .i64 x18)), (D.list 0 (some 0) []), (D.v (.int .i64 u1_8))]).bind fun d25 =>
 (rdB (some d25)).bind fun b26 =>
 cond (!b26)
 (some (D.v (.bool false)))
 ((fn47 [(D.list q21.n q21.cap q21.cs), (D.v (.int .i64 x22)), (D.list 0 (some 0) []), (D.v (.int .i64 u1_8))]).bind fun d27 =>
 (rdB (some d27)).bind fun b28 =>
 cond (!b28)
 (some (D.v (.bool false)))
 (F16_16_j15 fn43 fn46 fn47 fn50 fn52 fn55 fn56 fn59 fn62 fn67 fn68 fn69 m u1_0 u1_1 u1_2 u1_6 u1_7)))
 else none
 else none
 else none)
 (F16_16_j15 fn43 fn46 fn47 fn50 fn52 fn55 fn56 fn59 fn62 fn67 fn68 fn69 m u1_0 u1_1 u1_2 u1_6 u1_7)) := by kernel_rfl
theorem F16_16_j3_e (fn43 fn46 fn47 fn50 fn52 fn55 fn56 fn59 fn62 fn67 fn68 fn69 : List D → Option D) (m : Nat) (u0_0 : Nat) (u0_1 : Option Nat) (u0_2 : List D) (u0_3 : Nat) (u0_4 : Option Nat) (u0_5 : List D) (u0_6 : Int) : F16_16_j3 fn43 fn46 fn47 fn50 fn52 fn55 fn56 fn59 fn62 fn67 fn68 fn69 m u0_0 u0_1 u0_2 u0_3 u0_4 u0_5 u0_6 =
 ((fn43 [(D.list u0_0 u0_1 u0_2)]).bind fun d5 =>
 (rdI .i64 (some d5)).bind fun x6 =>
 (fn68 [(D.list u0_0 u0_1 u0_2)]).bind fun d7 =>
 (rdI .i64 (some d7)).bind fun x8 =>
 cond (x8 != x6)
 (some (D.v (.bool false)))
 (cond (x6 == (0 : Int))
 ((fn43 [(D.list u0_3 u0_4 u0_5)]).bind fun d9 =>
 (rdI .i64 (some d9)).bind fun x10 =>
 F16_16_j9 fn43 fn46 fn47 fn50 fn52 fn55 fn56 fn59 fn62 fn67 fn68 fn69 m u0_0 u0_1 u0_2 u0_3 u0_4 u0_5 u0_6 x6 x10)
 (F16_16_j9 fn43 fn46 fn47 fn50 fn52 fn55 fn56 fn59 fn62 fn67 fn68 fn69 m u0_0 u0_1 u0_2 u0_3 u0_4 u0_5 u0_6 x6 x6))) := by kernel_rfl
noncomputable def F16 (fn43 fn46 fn47 fn50 fn52 fn55 fn56 fn59 fn62 fn67 fn68 fn69 : List D → Option D) (m : Nat) (a0n : Nat) (a0c : Option Nat) (a0 : List D) (a1n : Nat) (a1c : Option Nat) (a1 : List D) (a2 : Int) : Option D :=
 cond (decide (((a0n : Nat) : Int) > (80 : Int)))
 ((fn52 []).bind fun d1 =>
 (rdB (some d1)).bind fun b2 =>
 some (D.v (.bool b2)))
 (cond (decide (((a1n : Nat) : Int) > (80 : Int)))
 ((fn52 []).bind fun d3 =>
 (rdB (some d3)).bind fun b4 =>
 some (D.v (.bool b4)))
 (F16_16_j3 fn43 fn46 fn47 fn50 fn52 fn55 fn56 fn59 fn62 fn67 fn68 fn69 m a0n a0c a0 a1n a1c a1 a2))
theorem F16_eq (fn43 fn46 fn47 fn50 fn52 fn55 fn56 fn59 fn62 fn67 fn68 fn69 : List D → Option D) (m : Nat) (a0n : Nat) (a0c : Option Nat) (a0 : List D) (a1n : Nat) (a1c : Option Nat) (a1 : List D) (a2 : Int) : funD Tryd.prog (H16 fn43 fn46 fn47 fn50 fn52 fn55 fn56 fn59 fn62 fn67 fn68 fn69) m 3 fh16_16 Tryd.f16 [(D.list a0n a0c a0), (D.list a1n a1c a1), (D.v (.int .i64 a2))] = F16 fn43 fn46 fn47 fn50 fn52 fn55 fn56 fn59 fn62 fn67 fn68 fn69 m a0n a0c a0 a1n a1c a1 a2 := by kernel_rfl
theorem en16 : Enters Tryd.prog 16 := ⟨Tryd.f16, Tryd.func16, by kernel_rfl, by kernel_rfl⟩
theorem dt16 {ds : List D} {d : D} (h : funD Tryd.prog (H16 sp43 sp46 sp47 sp50 sp52 sp55 sp56 sp59 sp62 sp67 sp68 sp69) M 3 fh16_16 Tryd.f16 ds = some d) : DataSem Tryd.prog 16 ds d := data_sound (H := (H16 sp43 sp46 sp47 sp50 sp52 sp55 sp56 sp59 sp62 sp67 sp68 sp69)) (SpOk.cons ds43 (SpOk.cons ds46 (SpOk.cons ds47 (SpOk.cons ds50 (SpOk.cons ds52 (SpOk.cons ds55 (SpOk.cons ds56 (SpOk.cons ds59 (SpOk.cons ds62 (SpOk.cons ds67 (SpOk.cons ds68 (SpOk.cons ds69 SpOk.nil)))))))))))) mixed InlOk.nil Tryd.func16 en16 h
noncomputable def sp16 : List D → Option D
  | [.list a0n a0c a0, .list a1n a1c a1, .v (.int .i64 a2)] => F16 sp43 sp46 sp47 sp50 sp52 sp55 sp56 sp59 sp62 sp67 sp68 sp69 M a0n a0c a0 a1n a1c a1 a2
  | _ => none
theorem ds16 : ∀ ds d, sp16 ds = some d → DataSem Tryd.prog 16 ds d := by
  intro ds d h
  unfold sp16 at h
  split at h
  · exact dt16 ((F16_eq sp43 sp46 sp47 sp50 sp52 sp55 sp56 sp59 sp62 sp67 sp68 sp69 M _ _ _ _ _ _ _).trans h)
  · cases h

end Go.Ev
