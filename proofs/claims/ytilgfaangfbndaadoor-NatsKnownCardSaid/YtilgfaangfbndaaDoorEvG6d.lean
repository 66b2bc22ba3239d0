/- Functions of the given program in plain form, printed: each with the proof that it is what the evaluator comes to, and that the program function returns what it says. No conditions. -/
import Derived.Test.YtilgfaangfbndaaDoorEvG6b
import Derived.Test.YtilgfaangfbndaaDoorEvG6c
set_option linter.unusedVariables false
set_option maxRecDepth 100000
namespace Go.Ev
open Go Go.Proofs

-- ('str', '"vidimus/vidimuslaw01.lives"')
def fh52_52 : FnH := ⟨[], [(3, ⟨[false, false, false, false, false, false, false, false, false, false, false, false, false, false, false, false, false, false, false, false, false, false, false, false, false, false, false, false, false, false, false, false, false, false, false, false, false, false, false, false, false, false, false, false, false, false, false, false, false, false, false, false, false, false, false, false, false, false, false, false, false, false, false, false, false, false, false, false, false, false, false, false, false, false, false, false, false, false, false, false, false, false, false, false, false, false, false, false, false, false, false, false, false, false, false, false, false, false, false, false, false, false, false, false, false, false, false, false, false, false, false, false, false, false, false, false, false, false, false, false, false, false, false, false, false, false, false, false, false, false, false, false, false, false, false, false, false, false, false, false, false, false, false, false, false, false, false, false, false, false, false, false, false, false, false, false, false, false, false, false, false, false, false, false, false, false, false, false, false, false, false, false, false, false, false, false, false, false, false], [], (some 0)⟩), (9, ⟨[false, false, false, false, false, false, false, false, false, false, false, false, false, false, false, false, false, false, false, false, false, false, false, false, false, false, false, false, false, false, false, false, false, false, false, false, false, false, false, false, false, false, false, false, false, false, false, false, false, false, false, false, false, false, false, false, false, false, false, false, false, false, false, false, false, false, false, false, false, false, false, false, false, false, false, false, false, false, false, false, false, false, false, false, false, false, false, false, false, false, false, false, false, false, false, false, false, false, false, false, false, false, false, false, false, false, false, false, false, false, false, false, false, false, false, false, false, false, false, false, false, false, false, false, false, false, false, false, false, false, false, false, false, false, false, false, false, false, false, false, false, false, false, false, false, false, false, false, false, false, false, false, false, false, false, false, false, false, false, false, false, false, false, false, false, false, false, false, false, false, false, false, false, false, false, false, false, false, false], [], (some 0)⟩), (16, ⟨[false, false, false, false, false, false, false, false, false, false, false, false, false, false, false, false, false, false, false, false, false, false, false, false, false, false, false, false, false, false, false, false, false, false, false, false, false, false, false, false, false, false, false, false, false, false, false, false, false, false, false, false, false, false, false, false, false, false, false, false, false, false, false, false, false, false, false, false, false, false, false, false, false, false, false, false, false, false, false, false, false, false, false, false, false, false, false, false, false, false, false, false, false, false, false, false, false, false, false, false, false, false, false, false, false, false, false, false, false, false, false, false, false, false, false, false, false, false, false, false, false, false, false, false, false, false, false, false, false, false, false, false, false, false, false, false, false, false, false, false, false, false, false, false, false, false, false, false, false, false, false, false, false, false, false, false, false, false, false, false, false, false, false, false, false, false, false, false, false, false, false, false, false, false, false, false, false, false, false], [], (some 0)⟩)]⟩
def H52 (q46 q50 q55 q56 q59 q61 q62 q63 q66 q67 q68 q70 : List D → Option D) : Hints := ⟨[(46, q46), (50, q50), (55, q55), (56, q56), (59, q59), (61, q61), (62, q62), (63, q63), (66, q66), (67, q67), (68, q68), (70, q70)], []⟩
noncomputable def F52_52_j3 (q46 q50 q55 q56 q59 q61 q62 q63 q66 q67 q68 q70 : List D → Option D) (m : Nat)  : Option D :=
 cutK (codeK Tryd.prog (H52 q46 q50 q55 q56 q59 q61 q62 q63 q66 q67 q68 q70).sp 0 (inlK Tryd.prog (H52 q46 q50 q55 q56 q59 q61 q62 q63 q66 q67 q68 q70) m 3) m fh52_52 (subc [1, 1] (bodyOf Tryd.f52)) ⟨[.junk, .junk, .junk, .junk, .junk, .junk, .junk, .junk, .junk, .junk, .junk, .junk, .junk, .junk, .junk, .junk, .junk, .junk, .junk, .junk, .junk, .junk, .junk, .junk, .junk, .junk, .junk, .junk, .junk, .junk, .junk, .junk, .junk, .junk, .junk, .junk, .junk, .junk, .junk, .junk, .junk, .junk, .junk, .junk, .junk, .junk, .junk, .junk, .junk, .junk, .junk, .junk, .junk, .junk, .junk, .junk, .junk, .junk, .junk, .junk, .junk, .junk, .junk, .junk, .junk, .junk, .junk, .junk, .junk, .junk, .junk, .junk, .junk, .junk, .junk, .junk, .junk, .junk, .junk, .junk, .junk, .junk, .junk, .junk, .junk, .junk, .junk, .junk, .junk, .junk, .junk, .junk, .junk, .junk, .junk, .junk, .junk, .junk, .junk, .junk, .junk, .junk, .junk, .junk, .junk, .junk, .junk, .junk, .junk, .junk, .junk, .junk, .junk, .junk, .junk, .junk, .junk, .junk, .junk, .junk, .junk, .junk, .junk, .junk, .junk, .junk, .junk, .junk, .junk, .junk, .junk, .junk, .junk, .junk, .junk, .junk, .junk, .junk, .junk, .junk, .junk, .junk, .junk, .junk, .junk, .junk, .junk, .junk, .junk, .junk, .junk, .junk, .junk, .junk, .junk, .junk, .junk, .junk, .junk, .junk, .junk, .junk, .junk, .junk, .junk, .junk, .junk, .junk, .junk, .junk, .junk, .junk, .junk, .junk, .junk, .junk, .junk, .junk, .junk], []⟩
  (contK Tryd.prog (H52 q46 q50 q55 q56 q59 q61 q62 q63 q66 q67 q68 q70).sp 0 (inlK Tryd.prog (H52 q46 q50 q55 q56 q59 q61 q62 q63 q66 q67 q68 q70) m 3) m fh52_52 (endK Tryd.prog Tryd.f52 (fun v L => viewK L 8 v some)) []))
noncomputable def F52_52_j9 (q46 q50 q55 q56 q59 q61 q62 q63 q66 q67 q68 q70 : List D → Option D) (m : Nat)  : Option D :=
 cutK (codeK Tryd.prog (H52 q46 q50 q55 q56 q59 q61 q62 q63 q66 q67 q68 q70).sp 0 (inlK Tryd.prog (H52 q46 q50 q55 q56 q59 q61 q62 q63 q66 q67 q68 q70) m 3) m fh52_52 (subc [1, 1, 1, 1, 1, 1, 1] (bodyOf Tryd.f52)) ⟨[.junk, .junk, .junk, .junk, .junk, .junk, .junk, .junk, .junk, .junk, .junk, .junk, .junk, .junk, .junk, .junk, .junk, .junk, .junk, .junk, .junk, .junk, .junk, .junk, .junk, .junk, .junk, .junk, .junk, .junk, .junk, .junk, .junk, .junk, .junk, .junk, .junk, .junk, .junk, .junk, .junk, .junk, .junk, .junk, .junk, .junk, .junk, .junk, .junk, .junk, .junk, .junk, .junk, .junk, .junk, .junk, .junk, .junk, .junk, .junk, .junk, .junk, .junk, .junk, .junk, .junk, .junk, .junk, .junk, .junk, .junk, .junk, .junk, .junk, .junk, .junk, .junk, .junk, .junk, .junk, .junk, .junk, .junk, .junk, .junk, .junk, .junk, .junk, .junk, .junk, .junk, .junk, .junk, .junk, .junk, .junk, .junk, .junk, .junk, .junk, .junk, .junk, .junk, .junk, .junk, .junk, .junk, .junk, .junk, .junk, .junk, .junk, .junk, .junk, .junk, .junk, .junk, .junk, .junk, .junk, .junk, .junk, .junk, .junk, .junk, .junk, .junk, .junk, .junk, .junk, .junk, .junk, .junk, .junk, .junk, .junk, .junk, .junk, .junk, .junk, .junk, .junk, .junk, .junk, .junk, .junk, .junk, .junk, .junk, .junk, .junk, .junk, .junk, .junk, .junk, .junk, .junk, .junk, .junk, .junk, .junk, .junk, .junk, .junk, .junk, .junk, .junk, .junk, .junk, .junk, .junk, .junk, .junk, .junk, .junk, .junk, .junk, .junk, .junk], []⟩
  (contK Tryd.prog (H52 q46 q50 q55 q56 q59 q61 q62 q63 q66 q67 q68 q70).sp 0 (inlK Tryd.prog (H52 q46 q50 q55 q56 q59 q61 q62 q63 q66 q67 q68 q70) m 3) m fh52_52 (endK Tryd.prog Tryd.f52 (fun v L => viewK L 8 v some)) []))
noncomputable def F52_52_j16 (q46 q50 q55 q56 q59 q61 q62 q63 q66 q67 q68 q70 : List D → Option D) (m : Nat)  : Option D :=
 cutK (codeK Tryd.prog (H52 q46 q50 q55 q56 q59 q61 q62 q63 q66 q67 q68 q70).sp 0 (inlK Tryd.prog (H52 q46 q50 q55 q56 q59 q61 q62 q63 q66 q67 q68 q70) m 3) m fh52_52 (subc [1, 1, 1, 1, 1, 1, 1, 1, 1, 1, 1, 1, 1] (bodyOf Tryd.f52)) ⟨[.junk, .junk, .junk, .junk, .junk, .junk, .junk, .junk, .junk, .junk, .junk, .junk, .junk, .junk, .junk, .junk, .junk, .junk, .junk, .junk, .junk, .junk, .junk, .junk, .junk, .junk, .junk, .junk, .junk, .junk, .junk, .junk, .junk, .junk, .junk, .junk, .junk, .junk, .junk, .junk, .junk, .junk, .junk, .junk, .junk, .junk, .junk, .junk, .junk, .junk, .junk, .junk, .junk, .junk, .junk, .junk, .junk, .junk, .junk, .junk, .junk, .junk, .junk, .junk, .junk, .junk, .junk, .junk, .junk, .junk, .junk, .junk, .junk, .junk, .junk, .junk, .junk, .junk, .junk, .junk, .junk, .junk, .junk, .junk, .junk, .junk, .junk, .junk, .junk, .junk, .junk, .junk, .junk, .junk, .junk, .junk, .junk, .junk, .junk, .junk, .junk, .junk, .junk, .junk, .junk, .junk, .junk, .junk, .junk, .junk, .junk, .junk, .junk, .junk, .junk, .junk, .junk, .junk, .junk, .junk, .junk, .junk, .junk, .junk, .junk, .junk, .junk, .junk, .junk, .junk, .junk, .junk, .junk, .junk, .junk, .junk, .junk, .junk, .junk, .junk, .junk, .junk, .junk, .junk, .junk, .junk, .junk, .junk, .junk, .junk, .junk, .junk, .junk, .junk, .junk, .junk, .junk, .junk, .junk, .junk, .junk, .junk, .junk, .junk, .junk, .junk, .junk, .junk, .junk, .junk, .junk, .junk, .junk, .junk, .junk, .junk, .junk, .junk, .junk], []⟩
  (contK Tryd.prog (H52 q46 q50 q55 q56 q59 q61 q62 q63 q66 q67 q68 q70).sp 0 (inlK Tryd.prog (H52 q46 q50 q55 q56 q59 q61 q62 q63 q66 q67 q68 q70) m 3) m fh52_52 (endK Tryd.prog Tryd.f52 (fun v L => viewK L 8 v some)) []))
theorem F52_52_j16_e (q46 q50 q55 q56 q59 q61 q62 q63 q66 q67 q68 q70 : List D → Option D) (m : Nat)  : F52_52_j16 q46 q50 q55 q56 q59 q61 q62 q63 q66 q67 q68 q70 m  =
 ((q63 [(D.v (.string (ByteArray.mk #[50, 53, 54])))]).bind fun d63 =>
 (rdT d63).bind fun r64 =>
 if List.length r64 = 2 then
 (rdL r64[0]?).bind fun q65 =>
 (rdI .i64 r64[1]?).bind fun x66 =>
 (q63 [(D.v (.string (ByteArray.mk #[48, 48, 55])))]).bind fun d67 =>
 (rdT d67).bind fun r68 =>
 if List.length r68 = 2 then
 (rdL r68[0]?).bind fun q69 =>
 (rdI .i64 r68[1]?).bind fun x70 =>
 (q63 [(D.v (.string (ByteArray.mk #[])))]).bind fun d71 =>
 (rdT d71).bind fun r72 =>
 if List.length r72 = 2 then
 (rdL r72[0]?).bind fun q73 =>
 (rdI .i64 r72[1]?).bind fun x74 =>
 (q62 [(D.list 2 (some 2) [(D.v (.int .u8 (1 : Int))), (D.v (.int .u8 (0 : Int)))])]).bind fun d75 =>
 (rdS (some d75)).bind fun s76 =>
 cond (ByteArray.toList s76 == ByteArray.toList (ByteArray.mk #[50, 53, 54]))
 ((q66 [(D.list q65.n q65.cap q65.cs), (D.v (.int .i64 x66)), (D.v (.string (ByteArray.mk #[1, 0])))]).bind fun d77 =>
 (rdB (some d77)).bind fun b78 =>
 cond b78
 (cond (x70 == (6 : Int))
 (some (D.v (.bool (x74 == (6 : Int)))))
 (some (D.v (.bool false))))
 (some (D.v (.bool false))))
 (some (D.v (.bool false)))
 else none
 else none
 else none) := by kernel_rfl
theorem F52_52_j9_e (q46 q50 q55 q56 q59 q61 q62 q63 q66 q67 q68 q70 : List D → Option D) (m : Nat)  : F52_52_j9 q46 q50 q55 q56 q59 q61 q62 q63 q66 q67 q68 q70 m  =
 ((q56 [(D.list 3 (some 3) [(D.v (.int .u8 (1 : Int))), (D.v (.int .u8 (0 : Int))), (D.v (.int .u8 (0 : Int)))]), (D.v (.int .u32 (7 : Int)))]).bind fun d37 =>
 (rdT d37).bind fun r38 =>
 if List.length r38 = 3 then
 (rdL r38[0]?).bind fun q39 =>
 (rdI .u32 r38[1]?).bind fun x40 =>
 (rdI .i64 r38[2]?).bind fun x41 =>
 (q56 [(D.list 1 (some 1) [(D.v (.int .u8 (5 : Int)))]), (D.v (.int .u32 (0 : Int)))]).bind fun d42 =>
 (rdT d42).bind fun r43 =>
 if List.length r43 = 3 then
 (rdL r43[0]?).bind fun q44 =>
 (rdI .u32 r43[1]?).bind fun x45 =>
 (rdI .i64 r43[2]?).bind fun x46 =>
 (q59 [(D.list 1 (some 1) [(D.v (.int .u8 (2 : Int)))]), (D.v (.int .i64 (10 : Int)))]).bind fun d47 =>
 (rdT d47).bind fun r48 =>
 if List.length r48 = 2 then
 (rdL r48[0]?).bind fun q49 =>
 (rdI .i64 r48[1]?).bind fun x50 =>
 (q59 [(D.list 1 (some 1) [(D.v (.int .u8 (2 : Int)))]), (D.v (.int .i64 (512 : Int)))]).bind fun d51 =>
 (rdT d51).bind fun r52 =>
 if List.length r52 = 2 then
 (rdL r52[0]?).bind fun q53 =>
 (rdI .i64 r52[1]?).bind fun x54 =>
 (q59 [(D.list 1 (some 1) [(D.v (.int .u8 (2 : Int)))]), (D.v (.int .i64 (511 : Int)))]).bind fun d55 =>
 (rdT d55).bind fun r56 =>
 if List.length r56 = 2 then
 (rdL r56[0]?).bind fun q57 =>
 (rdI .i64 r56[1]?).bind fun x58 =>
 (q66 [(D.list q39.n q39.cap q39.cs), (D.v (.int .i64 x41)), (D.v (.string (ByteArray.mk #[36, 146])))]).bind fun d59 =>
 (rdB (some d59)).bind fun b60 =>
 cond (!b60)
 (some (D.v (.bool false)))
 (cond (x40 != (2 : Int))
 (some (D.v (.bool false)))
 (cond (x46 != (1 : Int))
 (some (D.v (.bool false)))
 ((q66 [(D.list q49.n q49.cap q49.cs), (D.v (.int .i64 x50)), (D.v (.string (ByteArray.mk #[4, 0])))]).bind fun d61 =>
 (rdB (some d61)).bind fun b62 =>
 cond (!b62)
 (some (D.v (.bool false)))
 (cond (x54 != (3 : Int))
 (some (D.v (.bool false)))
 (cond (x58 != (0 : Int))
 (some (D.v (.bool false)))
 (cond (((q57.n : Nat) : Int) != (64 : Int))
 (some (D.v (.bool false)))
 (F52_52_j16 q46 q50 q55 q56 q59 q61 q62 q63 q66 q67 q68 q70 m )))))))
 else none
 else none
 else none
 else none
 else none) := by kernel_rfl
theorem F52_52_j3_e (q46 q50 q55 q56 q59 q61 q62 q63 q66 q67 q68 q70 : List D → Option D) (m : Nat)  : F52_52_j3 q46 q50 q55 q56 q59 q61 q62 q63 q66 q67 q68 q70 m  =
 ((q46 [(D.list 1 (some 1) [(D.v (.int .u8 (255 : Int)))]), (D.list 1 (some 1) [(D.v (.int .u8 (1 : Int)))])]).bind fun d15 =>
 (rdT d15).bind fun r16 =>
 if List.length r16 = 2 then
 (rdL r16[0]?).bind fun q17 =>
 (rdI .i64 r16[1]?).bind fun x18 =>
 (q50 [(D.list 2 (some 2) [(D.v (.int .u8 (1 : Int))), (D.v (.int .u8 (0 : Int)))]), (D.list 1 (some 1) [(D.v (.int .u8 (1 : Int)))])]).bind fun d19 =>
 (rdT d19).bind fun r20 =>
 if List.length r20 = 2 then
 (rdL r20[0]?).bind fun q21 =>
 (rdI .i64 r20[1]?).bind fun x22 =>
 (q50 [(D.list 1 (some 1) [(D.v (.int .u8 (1 : Int)))]), (D.list 1 (some 1) [(D.v (.int .u8 (2 : Int)))])]).bind fun d23 =>
 (rdT d23).bind fun r24 =>
 if List.length r24 = 2 then
 (rdL r24[0]?).bind fun q25 =>
 (rdI .i64 r24[1]?).bind fun x26 =>
 (q55 [(D.list 2 (some 2) [(D.v (.int .u8 (255 : Int))), (D.v (.int .u8 (255 : Int)))]), (D.list 2 (some 2) [(D.v (.int .u8 (255 : Int))), (D.v (.int .u8 (255 : Int)))])]).bind fun d27 =>
 (rdT d27).bind fun r28 =>
 if List.length r28 = 2 then
 (rdL r28[0]?).bind fun q29 =>
 (rdI .i64 r28[1]?).bind fun x30 =>
 (q66 [(D.list q17.n q17.cap q17.cs), (D.v (.int .i64 x18)), (D.v (.string (ByteArray.mk #[1, 0])))]).bind fun d31 =>
 (rdB (some d31)).bind fun b32 =>
 cond (!b32)
 (some (D.v (.bool false)))
 ((q66 [(D.list q21.n q21.cap q21.cs), (D.v (.int .i64 x22)), (D.v (.string (ByteArray.mk #[255])))]).bind fun d33 =>
 (rdB (some d33)).bind fun b34 =>
 cond (!b34)
 (some (D.v (.bool false)))
 (cond (x26 != (1 : Int))
 (some (D.v (.bool false)))
 ((q66 [(D.list q29.n q29.cap q29.cs), (D.v (.int .i64 x30)), (D.v (.string (ByteArray.mk #[255, 254, 0, 1])))]).bind fun d35 =>
 (rdB (some d35)).bind fun b36 =>
 cond (!b36)
 (some (D.v (.bool false)))
 (F52_52_j9 q46 q50 q55 q56 q59 q61 q62 q63 q66 q67 q68 q70 m ))))
 else none
 else none
 else none
 else none) := by kernel_rfl
noncomputable def F52 (q46 q50 q55 q56 q59 q61 q62 q63 q66 q67 q68 q70 : List D → Option D) (m : Nat)  : Option D :=
 (q68 [(D.list 2 (some 2) [(D.v (.int .u8 (0 : Int))), (D.v (.int .u8 (1 : Int)))])]).bind fun d1 =>
 (rdI .i64 (some d1)).bind fun x2 =>
 cond (x2 != (11 : Int))
 (some (D.v (.bool false)))
 ((q70 [(D.v (.int .i64 (512 : Int)))]).bind fun d3 =>
 (rdL (some d3)).bind fun q4 =>
 (q68 [(D.list q4.n q4.cap q4.cs)]).bind fun d5 =>
 (rdI .i64 (some d5)).bind fun x6 =>
 cond (x6 != (3 : Int))
 (some (D.v (.bool false)))
 ((q68 [(D.list 0 (some 0) [])]).bind fun d7 =>
 (rdI .i64 (some d7)).bind fun x8 =>
 cond (x8 != (0 : Int))
 (some (D.v (.bool false)))
 ((q61 [(D.list 2 (some 2) [(D.v (.int .u8 (0 : Int))), (D.v (.int .u8 (2 : Int)))]), (D.list 1 (some 1) [(D.v (.int .u8 (2 : Int)))])]).bind fun d9 =>
 (rdI .i64 (some d9)).bind fun x10 =>
 cond (x10 != (0 : Int))
 (some (D.v (.bool false)))
 ((q61 [(D.list 2 (some 2) [(D.v (.int .u8 (1 : Int))), (D.v (.int .u8 (0 : Int)))]), (D.list 1 (some 1) [(D.v (.int .u8 (255 : Int)))])]).bind fun d11 =>
 (rdI .i64 (some d11)).bind fun x12 =>
 cond (x12 != (1 : Int))
 (some (D.v (.bool false)))
 ((q67 [(D.list 2 (some 2) [(D.v (.int .u8 (1 : Int))), (D.v (.int .u8 (0 : Int)))])]).bind fun d13 =>
 (rdI .i64 (some d13)).bind fun x14 =>
 cond (x14 != (9 : Int))
 (some (D.v (.bool false)))
 (F52_52_j3 q46 q50 q55 q56 q59 q61 q62 q63 q66 q67 q68 q70 m ))))))
theorem F52_eq (q46 q50 q55 q56 q59 q61 q62 q63 q66 q67 q68 q70 : List D → Option D) (m : Nat)  : funD Tryd.prog (H52 q46 q50 q55 q56 q59 q61 q62 q63 q66 q67 q68 q70) m 3 fh52_52 Tryd.f52 [] = F52 q46 q50 q55 q56 q59 q61 q62 q63 q66 q67 q68 q70 m  := by kernel_rfl
theorem en52 : Enters Tryd.prog 52 := ⟨Tryd.f52, Tryd.func52, by kernel_rfl, by kernel_rfl⟩
theorem dt52 {ds : List D} {d : D} (h : funD Tryd.prog (H52 sp46 sp50 sp55 sp56 sp59 sp61 sp62 sp63 sp66 sp67 sp68 sp70) M 3 fh52_52 Tryd.f52 ds = some d) : DataSem Tryd.prog 52 ds d := data_sound (H := (H52 sp46 sp50 sp55 sp56 sp59 sp61 sp62 sp63 sp66 sp67 sp68 sp70)) (SpOk.cons ds46 (SpOk.cons ds50 (SpOk.cons ds55 (SpOk.cons ds56 (SpOk.cons ds59 (SpOk.cons ds61 (SpOk.cons ds62 (SpOk.cons ds63 (SpOk.cons ds66 (SpOk.cons ds67 (SpOk.cons ds68 (SpOk.cons ds70 SpOk.nil)))))))))))) mixed InlOk.nil Tryd.func52 en52 h
noncomputable def sp52 : List D → Option D
  | [] => F52 sp46 sp50 sp55 sp56 sp59 sp61 sp62 sp63 sp66 sp67 sp68 sp70 M 
  | _ => none
theorem ds52 : ∀ ds d, sp52 ds = some d → DataSem Tryd.prog 52 ds d := by
  intro ds d h
  unfold sp52 at h
  split at h
  · exact dt52 ((F52_eq sp46 sp50 sp55 sp56 sp59 sp61 sp62 sp63 sp66 sp67 sp68 sp70 M ).trans h)
  · cases h

end Go.Ev
