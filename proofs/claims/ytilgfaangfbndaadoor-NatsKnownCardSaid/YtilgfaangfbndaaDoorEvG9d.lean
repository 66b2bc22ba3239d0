/- Functions of the given program in plain form, printed: each with the proof that it is what the evaluator comes to, and that the program function returns what it says. No conditions. -/
import Derived.Test.YtilgfaangfbndaaDoorEvG8
set_option linter.unusedVariables false
set_option maxRecDepth 100000
namespace Go.Ev
open Go Go.Proofs

-- ('str', '"vidimus/vidimuslaw01.NatsKnown"')
def fh15_15 : FnH := ⟨[(3, ⟨[false, true, true, false, false, false, false, false, false, false, false, false, false, false, false, false, false, false, false, false, false, false, false, false, false, false, false, false, false, false, false, false, false, false, false, false, false, false, false, false, false, false, false, false, false, false, false, false, false, false, false, false, false, false, false, false, false, false, false, false, false, false, false, false, false, false, false, false, false, false, false, false, false, false, false, false, false, false, false, false, false, false, false, false, false, false, false, false, false, false, false, false, false, false, false, false, false, false, false, false, false, false, false, false, false, false, false, false, false, false, false, false, false, false, false, false, false, false, false, false, false, false, false, false, false, false, false, false, false, false, false, false, false, false, false, false, false, false, false, false, false, false, false, false, false, false, false, false, false, false, false, false, false, false, false, false, false, false, false, false, false, false, false, false, false, false, false, false], [], (some 1)⟩)], [(12, ⟨[false, true, false, false, false, false, false, false, false, false, false, false, false, false, false, false, false, false, false, false, false, false, false, false, false, false, false, false, false, false, false, false, false, false, false, false, false, false, false, false, false, false, false, false, false, false, false, false, false, false, false, false, false, false, false, false, false, false, false, false, false, false, false, false, false, false, false, false, false, false, false, false, false, false, false, false, false, false, false, false, false, false, false, false, false, false, false, false, false, false, false, false, false, false, false, false, false, false, false, false, false, false, false, false, false, false, false, false, false, false, false, false, false, false, false, false, false, false, false, false, false, false, false, false, false, false, false, false, false, false, false, false, false, false, false, false, false, false, false, false, false, false, false, false, false, false, false, false, false, false, false, false, false, false, false, false, false, false, false, false, false, false, false, false, false, false, false, false], [], (some 0)⟩), (18, ⟨[false, true, false, false, false, false, false, false, false, false, false, false, false, false, false, false, false, false, false, false, false, false, false, false, false, false, false, false, false, false, false, false, false, false, false, false, false, false, false, false, false, false, false, false, false, false, false, false, false, false, false, false, false, false, false, false, false, false, false, false, false, false, false, false, false, false, false, false, false, false, false, false, false, false, false, false, false, false, false, false, false, false, false, false, false, false, false, false, false, false, false, false, false, false, false, false, false, false, false, false, false, false, false, false, false, false, false, false, false, false, false, false, false, false, false, false, false, false, false, false, false, false, false, false, false, false, false, false, false, false, false, false, false, false, false, false, false, false, false, false, false, false, false, false, false, false, false, false, false, false, false, false, false, false, false, false, false, false, false, false, false, false, false, false, false, false, false, false], [], (some 0)⟩)]⟩
def H15 (fn46 fn52 fn55 fn56 fn58 fn59 fn62 fn63 fn66 fn67 : List D → Option D) : Hints := ⟨[(46, fn46), (52, fn52), (55, fn55), (56, fn56), (58, fn58), (59, fn59), (62, fn62), (63, fn63), (66, fn66), (67, fn67)], []⟩
noncomputable def F15_15_3 (fn46 fn52 fn55 fn56 fn58 fn59 fn62 fn63 fn66 fn67 : List D → Option D) (m n0 : Nat) (y0_0 : Int) (y0_1 : List D) : Option D :=
 loopIter [false, true, true, false, false, false, false, false, false, false, false, false, false, false, false, false, false, false, false, false, false, false, false, false, false, false, false, false, false, false, false, false, false, false, false, false, false, false, false, false, false, false, false, false, false, false, false, false, false, false, false, false, false, false, false, false, false, false, false, false, false, false, false, false, false, false, false, false, false, false, false, false, false, false, false, false, false, false, false, false, false, false, false, false, false, false, false, false, false, false, false, false, false, false, false, false, false, false, false, false, false, false, false, false, false, false, false, false, false, false, false, false, false, false, false, false, false, false, false, false, false, false, false, false, false, false, false, false, false, false, false, false, false, false, false, false, false, false, false, false, false, false, false, false, false, false, false, false, false, false, false, false, false, false, false, false, false, false, false, false, false, false, false, false, false, false, false, false] 0 1 (codeK Tryd.prog (H15 fn46 fn52 fn55 fn56 fn58 fn59 fn62 fn63 fn66 fn67).sp 0 (inlK Tryd.prog (H15 fn46 fn52 fn55 fn56 fn58 fn59 fn62 fn63 fn66 fn67) m 3) m fh15_15 (subc [1, 1, 0, 1, 0, 0] (bodyOf Tryd.f15))) n0 ⟨[.junk, (AV.sl 0 0 64 (some 64) 1), (AV.d (D.v (.int .i64 y0_0))), .junk, .junk, .junk, .junk, .junk, .junk, .junk, .junk, .junk, .junk, .junk, .junk, .junk, .junk, .junk, .junk, .junk, .junk, .junk, .junk, .junk, .junk, .junk, .junk, .junk, .junk, .junk, .junk, .junk, .junk, .junk, .junk, .junk, .junk, .junk, .junk, .junk, .junk, .junk, .junk, .junk, .junk, .junk, .junk, .junk, .junk, .junk, .junk, .junk, .junk, .junk, .junk, .junk, .junk, .junk, .junk, .junk, .junk, .junk, .junk, .junk, .junk, .junk, .junk, .junk, .junk, .junk, .junk, .junk, .junk, .junk, .junk, .junk, .junk, .junk, .junk, .junk, .junk, .junk, .junk, .junk, .junk, .junk, .junk, .junk, .junk, .junk, .junk, .junk, .junk, .junk, .junk, .junk, .junk, .junk, .junk, .junk, .junk, .junk, .junk, .junk, .junk, .junk, .junk, .junk, .junk, .junk, .junk, .junk, .junk, .junk, .junk, .junk, .junk, .junk, .junk, .junk, .junk, .junk, .junk, .junk, .junk, .junk, .junk, .junk, .junk, .junk, .junk, .junk, .junk, .junk, .junk, .junk, .junk, .junk, .junk, .junk, .junk, .junk, .junk, .junk, .junk, .junk, .junk, .junk, .junk, .junk, .junk, .junk, .junk, .junk, .junk, .junk, .junk, .junk, .junk, .junk, .junk, .junk, .junk, .junk, .junk, .junk, .junk, .junk], [(Blk.d 64 y0_1)]⟩
  (contK Tryd.prog (H15 fn46 fn52 fn55 fn56 fn58 fn59 fn62 fn63 fn66 fn67).sp 0 (inlK Tryd.prog (H15 fn46 fn52 fn55 fn56 fn58 fn59 fn62 fn63 fn66 fn67) m 3) m fh15_15 (endK Tryd.prog Tryd.f15 (fun v L => viewK L 8 v some)) [.block 0, .code (subc [1, 1, 1] (bodyOf Tryd.f15))])
noncomputable def F15_15_j12 (fn46 fn52 fn55 fn56 fn58 fn59 fn62 fn63 fn66 fn67 : List D → Option D) (m : Nat) (u0_0 : Nat) (u0_1 : Nat) (u0_2 : List D) : Option D :=
 cutK (codeK Tryd.prog (H15 fn46 fn52 fn55 fn56 fn58 fn59 fn62 fn63 fn66 fn67).sp 0 (inlK Tryd.prog (H15 fn46 fn52 fn55 fn56 fn58 fn59 fn62 fn63 fn66 fn67) m 3) m fh15_15 (subc [1, 1, 1, 1, 1, 1, 1, 1] (bodyOf Tryd.f15)) ⟨[.junk, (AV.d (D.list u0_0 (some u0_1) u0_2)), .junk, .junk, .junk, .junk, .junk, .junk, .junk, .junk, .junk, .junk, .junk, .junk, .junk, .junk, .junk, .junk, .junk, .junk, .junk, .junk, .junk, .junk, .junk, .junk, .junk, .junk, .junk, .junk, .junk, .junk, .junk, .junk, .junk, .junk, .junk, .junk, .junk, .junk, .junk, .junk, .junk, .junk, .junk, .junk, .junk, .junk, .junk, .junk, .junk, .junk, .junk, .junk, .junk, .junk, .junk, .junk, .junk, .junk, .junk, .junk, .junk, .junk, .junk, .junk, .junk, .junk, .junk, .junk, .junk, .junk, .junk, .junk, .junk, .junk, .junk, .junk, .junk, .junk, .junk, .junk, .junk, .junk, .junk, .junk, .junk, .junk, .junk, .junk, .junk, .junk, .junk, .junk, .junk, .junk, .junk, .junk, .junk, .junk, .junk, .junk, .junk, .junk, .junk, .junk, .junk, .junk, .junk, .junk, .junk, .junk, .junk, .junk, .junk, .junk, .junk, .junk, .junk, .junk, .junk, .junk, .junk, .junk, .junk, .junk, .junk, .junk, .junk, .junk, .junk, .junk, .junk, .junk, .junk, .junk, .junk, .junk, .junk, .junk, .junk, .junk, .junk, .junk, .junk, .junk, .junk, .junk, .junk, .junk, .junk, .junk, .junk, .junk, .junk, .junk, .junk, .junk, .junk, .junk, .junk, .junk, .junk, .junk, .junk, .junk, .junk, .junk], []⟩
  (contK Tryd.prog (H15 fn46 fn52 fn55 fn56 fn58 fn59 fn62 fn63 fn66 fn67).sp 0 (inlK Tryd.prog (H15 fn46 fn52 fn55 fn56 fn58 fn59 fn62 fn63 fn66 fn67) m 3) m fh15_15 (endK Tryd.prog Tryd.f15 (fun v L => viewK L 8 v some)) []))
noncomputable def F15_15_j18 (fn46 fn52 fn55 fn56 fn58 fn59 fn62 fn63 fn66 fn67 : List D → Option D) (m : Nat) (u1_0 : Nat) (u1_1 : Nat) (u1_2 : List D) : Option D :=
 cutK (codeK Tryd.prog (H15 fn46 fn52 fn55 fn56 fn58 fn59 fn62 fn63 fn66 fn67).sp 0 (inlK Tryd.prog (H15 fn46 fn52 fn55 fn56 fn58 fn59 fn62 fn63 fn66 fn67) m 3) m fh15_15 (subc [1, 1, 1, 1, 1, 1, 1, 1, 1, 1, 1, 1, 1] (bodyOf Tryd.f15)) ⟨[.junk, (AV.d (D.list u1_0 (some u1_1) u1_2)), .junk, .junk, .junk, .junk, .junk, .junk, .junk, .junk, .junk, .junk, .junk, .junk, .junk, .junk, .junk, .junk, .junk, .junk, .junk, .junk, .junk, .junk, .junk, .junk, .junk, .junk, .junk, .junk, .junk, .junk, .junk, .junk, .junk, .junk, .junk, .junk, .junk, .junk, .junk, .junk, .junk, .junk, .junk, .junk, .junk, .junk, .junk, .junk, .junk, .junk, .junk, .junk, .junk, .junk, .junk, .junk, .junk, .junk, .junk, .junk, .junk, .junk, .junk, .junk, .junk, .junk, .junk, .junk, .junk, .junk, .junk, .junk, .junk, .junk, .junk, .junk, .junk, .junk, .junk, .junk, .junk, .junk, .junk, .junk, .junk, .junk, .junk, .junk, .junk, .junk, .junk, .junk, .junk, .junk, .junk, .junk, .junk, .junk, .junk, .junk, .junk, .junk, .junk, .junk, .junk, .junk, .junk, .junk, .junk, .junk, .junk, .junk, .junk, .junk, .junk, .junk, .junk, .junk, .junk, .junk, .junk, .junk, .junk, .junk, .junk, .junk, .junk, .junk, .junk, .junk, .junk, .junk, .junk, .junk, .junk, .junk, .junk, .junk, .junk, .junk, .junk, .junk, .junk, .junk, .junk, .junk, .junk, .junk, .junk, .junk, .junk, .junk, .junk, .junk, .junk, .junk, .junk, .junk, .junk, .junk, .junk, .junk, .junk, .junk, .junk, .junk], []⟩
  (contK Tryd.prog (H15 fn46 fn52 fn55 fn56 fn58 fn59 fn62 fn63 fn66 fn67).sp 0 (inlK Tryd.prog (H15 fn46 fn52 fn55 fn56 fn58 fn59 fn62 fn63 fn66 fn67) m 3) m fh15_15 (endK Tryd.prog Tryd.f15 (fun v L => viewK L 8 v some)) []))
theorem F15_15_j18_e (fn46 fn52 fn55 fn56 fn58 fn59 fn62 fn63 fn66 fn67 : List D → Option D) (m : Nat) (u1_0 : Nat) (u1_1 : Nat) (u1_2 : List D) : F15_15_j18 fn46 fn52 fn55 fn56 fn58 fn59 fn62 fn63 fn66 fn67 m u1_0 u1_1 u1_2 =
 ((fn59 [(D.list 0 (some 0) []), (D.v (.int .i64 (0 : Int)))]).bind fun d38 =>
 (rdT d38).bind fun r39 =>
 if List.length r39 = 2 then
 (rdL r39[0]?).bind fun q40 =>
 (rdI .i64 r39[1]?).bind fun x41 =>
 (fn59 [(D.list 0 (some 0) []), (D.v (.int .i64 (4611686018427387904 : Int)))]).bind fun d42 =>
 (rdT d42).bind fun r43 =>
 if List.length r43 = 2 then
 (rdL r43[0]?).bind fun q44 =>
 (rdI .i64 r43[1]?).bind fun x45 =>
 (fn59 [(D.list 1 (some 1) [(D.v (.int .u8 (1 : Int)))]), (D.v (.int .i64 (4611686018427387904 : Int)))]).bind fun d46 =>
 (rdT d46).bind fun r47 =>
 if List.length r47 = 2 then
 (rdL r47[0]?).bind fun q48 =>
 (rdI .i64 r47[1]?).bind fun x49 =>
 (fn56 [(D.list u1_0 (some u1_1) u1_2), (D.v (.int .u32 (4294967295 : Int)))]).bind fun d50 =>
 (rdT d50).bind fun r51 =>
 if List.length r51 = 3 then
 (rdL r51[0]?).bind fun q52 =>
 (rdI .u32 r51[1]?).bind fun x53 =>
 (rdI .i64 r51[2]?).bind fun x54 =>
 (fn58 [(D.v (.int .u64 (4294967295 : Int)))]).bind fun d55 =>
 (rdL (some d55)).bind fun q56 =>
 (fn55 [(D.list q52.n q52.cap q52.cs), (D.list q56.n q56.cap q56.cs)]).bind fun d57 =>
 (rdT d57).bind fun r58 =>
 if List.length r58 = 2 then
 (rdL r58[0]?).bind fun q59 =>
 (rdI .i64 r58[1]?).bind fun x60 =>
 (fn66 [(D.list q40.n q40.cap q40.cs), (D.v (.int .i64 x41)), (D.v (.string (ByteArray.mk #[1])))]).bind fun d61 =>
 (rdB (some d61)).bind fun b62 =>
 cond b62
 ((fn66 [(D.list q44.n q44.cap q44.cs), (D.v (.int .i64 x45)), (D.v (.string (ByteArray.mk #[])))]).bind fun d63 =>
 (rdB (some d63)).bind fun b64 =>
 cond b64
 ((fn66 [(D.list q48.n q48.cap q48.cs), (D.v (.int .i64 x49)), (D.v (.string (ByteArray.mk #[1])))]).bind fun d65 =>
 (rdB (some d65)).bind fun b66 =>
 cond b66
 (cond (x54 == (0 : Int))
 (cond (x53 == (0 : Int))
 (cond (x60 == (0 : Int))
 (if (List.length q59.cs) = q59.n then
 (bytesOf q59.cs).bind fun l67 =>
 if (List.length u1_2) = u1_0 then
 (bytesOf u1_2).bind fun l68 =>
 cond (ByteArray.toList (ByteArray.mk (List.toArray l67)) == ByteArray.toList (ByteArray.mk (List.toArray l68)))
 ((fn52 []).bind fun d69 =>
 (rdB (some d69)).bind fun b70 =>
 some (D.v (.bool b70)))
 (some (D.v (.bool false)))
 else none
 else none)
 (some (D.v (.bool false))))
 (some (D.v (.bool false))))
 (some (D.v (.bool false))))
 (some (D.v (.bool false))))
 (some (D.v (.bool false))))
 (some (D.v (.bool false)))
 else none
 else none
 else none
 else none
 else none) := by kernel_rfl
theorem F15_15_j12_e (fn46 fn52 fn55 fn56 fn58 fn59 fn62 fn63 fn66 fn67 : List D → Option D) (m : Nat) (u0_0 : Nat) (u0_1 : Nat) (u0_2 : List D) : F15_15_j12 fn46 fn52 fn55 fn56 fn58 fn59 fn62 fn63 fn66 fn67 m u0_0 u0_1 u0_2 =
 ((fn62 [(D.list u0_0 (some u0_1) u0_2)]).bind fun d25 =>
 (rdS (some d25)).bind fun s26 =>
 (fn63 [(D.v (.string s26))]).bind fun d27 =>
 (rdT d27).bind fun r28 =>
 if List.length r28 = 2 then
 (rdL r28[0]?).bind fun q29 =>
 (rdI .i64 r28[1]?).bind fun x30 =>
 if 0 ≤ (154 : Int) ∧ (154 : Int) ≤ (((ByteArray.size (ByteArray.mk #[49, 51, 52, 48, 55, 56, 48, 55, 57, 50, 57, 57, 52, 50, 53, 57, 55, 48, 57, 57, 53, 55, 52, 48, 50, 52, 57, 57, 56, 50, 48, 53, 56, 52, 54, 49, 50, 55, 52, 55, 57, 51, 54, 53, 56, 50, 48, 53, 57, 50, 51, 57, 51, 51, 55, 55, 55, 50, 51, 53, 54, 49, 52, 52, 51, 55, 50, 49, 55, 54, 52, 48, 51, 48, 48, 55, 51, 53, 52, 54, 57, 55, 54, 56, 48, 49, 56, 55, 52, 50, 57, 56, 49, 54, 54, 57, 48, 51, 52, 50, 55, 54, 57, 48, 48, 51, 49, 56, 53, 56, 49, 56, 54, 52, 56, 54, 48, 53, 48, 56, 53, 51, 55, 53, 51, 56, 56, 50, 56, 49, 49, 57, 52, 54, 53, 54, 57, 57, 52, 54, 52, 51, 51, 54, 52, 57, 48, 48, 54, 48, 56, 52, 48, 57, 53])) : Nat) : Int) then
 if ByteArray.size (ByteArray.extract (ByteArray.mk #[49, 51, 52, 48, 55, 56, 48, 55, 57, 50, 57, 57, 52, 50, 53, 57, 55, 48, 57, 57, 53, 55, 52, 48, 50, 52, 57, 57, 56, 50, 48, 53, 56, 52, 54, 49, 50, 55, 52, 55, 57, 51, 54, 53, 56, 50, 48, 53, 57, 50, 51, 57, 51, 51, 55, 55, 55, 50, 51, 53, 54, 49, 52, 52, 51, 55, 50, 49, 55, 54, 52, 48, 51, 48, 48, 55, 51, 53, 52, 54, 57, 55, 54, 56, 48, 49, 56, 55, 52, 50, 57, 56, 49, 54, 54, 57, 48, 51, 52, 50, 55, 54, 57, 48, 48, 51, 49, 56, 53, 56, 49, 56, 54, 52, 56, 54, 48, 53, 48, 56, 53, 51, 55, 53, 51, 56, 56, 50, 56, 49, 49, 57, 52, 54, 53, 54, 57, 57, 52, 54, 52, 51, 51, 54, 52, 57, 48, 48, 54, 48, 56, 52, 48, 57, 53]) 0 154) + ByteArray.size (ByteArray.mk #[54]) ≤ 9223372036854775807 then
 (fn63 [(D.v (.string ((ByteArray.extract (ByteArray.mk #[49, 51, 52, 48, 55, 56, 48, 55, 57, 50, 57, 57, 52, 50, 53, 57, 55, 48, 57, 57, 53, 55, 52, 48, 50, 52, 57, 57, 56, 50, 48, 53, 56, 52, 54, 49, 50, 55, 52, 55, 57, 51, 54, 53, 56, 50, 48, 53, 57, 50, 51, 57, 51, 51, 55, 55, 55, 50, 51, 53, 54, 49, 52, 52, 51, 55, 50, 49, 55, 54, 52, 48, 51, 48, 48, 55, 51, 53, 52, 54, 57, 55, 54, 56, 48, 49, 56, 55, 52, 50, 57, 56, 49, 54, 54, 57, 48, 51, 52, 50, 55, 54, 57, 48, 48, 51, 49, 56, 53, 56, 49, 56, 54, 52, 56, 54, 48, 53, 48, 56, 53, 51, 55, 53, 51, 56, 56, 50, 56, 49, 49, 57, 52, 54, 53, 54, 57, 57, 52, 54, 52, 51, 51, 54, 52, 57, 48, 48, 54, 48, 56, 52, 48, 57, 53]) 0 154) ++ (ByteArray.mk #[54]))))]).bind fun d31 =>
 (rdT d31).bind fun r32 =>
 if List.length r32 = 2 then
 (rdL r32[0]?).bind fun q33 =>
 (rdI .i64 r32[1]?).bind fun x34 =>
 cond (!(ByteArray.toList s26 == ByteArray.toList (ByteArray.mk #[49, 51, 52, 48, 55, 56, 48, 55, 57, 50, 57, 57, 52, 50, 53, 57, 55, 48, 57, 57, 53, 55, 52, 48, 50, 52, 57, 57, 56, 50, 48, 53, 56, 52, 54, 49, 50, 55, 52, 55, 57, 51, 54, 53, 56, 50, 48, 53, 57, 50, 51, 57, 51, 51, 55, 55, 55, 50, 51, 53, 54, 49, 52, 52, 51, 55, 50, 49, 55, 54, 52, 48, 51, 48, 48, 55, 51, 53, 52, 54, 57, 55, 54, 56, 48, 49, 56, 55, 52, 50, 57, 56, 49, 54, 54, 57, 48, 51, 52, 50, 55, 54, 57, 48, 48, 51, 49, 56, 53, 56, 49, 56, 54, 52, 56, 54, 48, 53, 48, 56, 53, 51, 55, 53, 51, 56, 56, 50, 56, 49, 49, 57, 52, 54, 53, 54, 57, 57, 52, 54, 52, 51, 51, 54, 52, 57, 48, 48, 54, 48, 56, 52, 48, 57, 53])))
 (some (D.v (.bool false)))
 (if (List.length u0_2) = u0_0 then
 (bytesOf u0_2).bind fun l35 =>
 (fn66 [(D.list q29.n q29.cap q29.cs), (D.v (.int .i64 x30)), (D.v (.string (ByteArray.mk (List.toArray l35))))]).bind fun d36 =>
 (rdB (some d36)).bind fun b37 =>
 cond (!b37)
 (some (D.v (.bool false)))
 (cond (x34 != (3 : Int))
 (some (D.v (.bool false)))
 (F15_15_j18 fn46 fn52 fn55 fn56 fn58 fn59 fn62 fn63 fn66 fn67 m u0_0 u0_1 u0_2))
 else none)
 else none
 else none
 else none
 else none) := by kernel_rfl
theorem F15_15_3_0 (fn46 fn52 fn55 fn56 fn58 fn59 fn62 fn63 fn66 fn67 : List D → Option D) (m : Nat) (y0_0 : Int) (y0_1 : List D) : F15_15_3 fn46 fn52 fn55 fn56 fn58 fn59 fn62 fn63 fn66 fn67 m 0 y0_0 y0_1 = none := rfl
theorem F15_15_3_s (fn46 fn52 fn55 fn56 fn58 fn59 fn62 fn63 fn66 fn67 : List D → Option D) (m n0 : Nat) (y0_0 : Int) (y0_1 : List D) : F15_15_3 fn46 fn52 fn55 fn56 fn58 fn59 fn62 fn63 fn66 fn67 m (n0 + 1) y0_0 y0_1 =
 (cond (decide (y0_0 < (64 : Int)))
 (if 0 ≤ y0_0 ∧ y0_0 < (64 : Int) then
 if 1 = 1 ∧ (0 + ((Int.toNat y0_0) * 1)) < 64 then
 F15_15_3 fn46 fn52 fn55 fn56 fn58 fn59 fn62 fn63 fn66 fn67 m n0 (IntKind.wrap .i64 (y0_0 + (1 : Int))) (List.set y0_1 (0 + ((Int.toNat y0_0) * 1)) (D.v (.int .u8 (255 : Int))))
 else none
 else none)
 ((fn46 [(D.list 64 (some 64) y0_1), (D.list 1 (some 1) [(D.v (.int .u8 (1 : Int)))])]).bind fun d1 =>
 (rdT d1).bind fun r2 =>
 if List.length r2 = 2 then
 (rdL r2[0]?).bind fun q3 =>
 (rdI .i64 r2[1]?).bind fun x4 =>
 (fn46 [(D.list 64 (some 64) y0_1), (D.list 0 (some 0) [])]).bind fun d5 =>
 (rdT d5).bind fun r6 =>
 if List.length r6 = 2 then
 (rdL r6[0]?).bind fun q7 =>
 (rdI .i64 r6[1]?).bind fun x8 =>
 (fn55 [(D.list 64 (some 64) y0_1), (D.list 1 (some 1) [(D.v (.int .u8 (2 : Int)))])]).bind fun d9 =>
 (rdT d9).bind fun r10 =>
 if List.length r10 = 2 then
 (rdL r10[0]?).bind fun q11 =>
 (rdI .i64 r10[1]?).bind fun x12 =>
 (fn55 [(D.list 64 (some 64) y0_1), (D.list 1 (some 1) [(D.v (.int .u8 (1 : Int)))])]).bind fun d13 =>
 (rdT d13).bind fun r14 =>
 if List.length r14 = 2 then
 (rdL r14[0]?).bind fun q15 =>
 (rdI .i64 r14[1]?).bind fun x16 =>
 cond (x4 != (3 : Int))
 (some (D.v (.bool false)))
 (if (List.length y0_1) = 64 then
 (bytesOf y0_1).bind fun l17 =>
 (fn66 [(D.list q7.n q7.cap q7.cs), (D.v (.int .i64 x8)), (D.v (.string (ByteArray.mk (List.toArray l17))))]).bind fun d18 =>
 (rdB (some d18)).bind fun b19 =>
 cond (!b19)
 (some (D.v (.bool false)))
 (cond (x12 != (3 : Int))
 (some (D.v (.bool false)))
 (if (List.length y0_1) = 64 then
 (bytesOf y0_1).bind fun l20 =>
 (fn66 [(D.list q15.n q15.cap q15.cs), (D.v (.int .i64 x16)), (D.v (.string (ByteArray.mk (List.toArray l20))))]).bind fun d21 =>
 (rdB (some d21)).bind fun b22 =>
 cond (!b22)
 (some (D.v (.bool false)))
 ((fn67 [(D.list 64 (some 64) y0_1)]).bind fun d23 =>
 (rdI .i64 (some d23)).bind fun x24 =>
 cond (x24 != (512 : Int))
 (some (D.v (.bool false)))
 (F15_15_j12 fn46 fn52 fn55 fn56 fn58 fn59 fn62 fn63 fn66 fn67 m 64 64 y0_1))
 else none))
 else none)
 else none
 else none
 else none
 else none)) := by kernel_rfl
noncomputable def F15 (fn46 fn52 fn55 fn56 fn58 fn59 fn62 fn63 fn66 fn67 : List D → Option D) (m : Nat)  : Option D :=
 F15_15_3 fn46 fn52 fn55 fn56 fn58 fn59 fn62 fn63 fn66 fn67 m m (0 : Int) (List.replicate 64 (D.v (.int .u8 (0 : Int))))
theorem F15_eq (fn46 fn52 fn55 fn56 fn58 fn59 fn62 fn63 fn66 fn67 : List D → Option D) (m : Nat)  : funD Tryd.prog (H15 fn46 fn52 fn55 fn56 fn58 fn59 fn62 fn63 fn66 fn67) m 3 fh15_15 Tryd.f15 [] = F15 fn46 fn52 fn55 fn56 fn58 fn59 fn62 fn63 fn66 fn67 m  := by kernel_rfl
theorem en15 : Enters Tryd.prog 15 := ⟨Tryd.f15, Tryd.func15, by kernel_rfl, by kernel_rfl⟩
theorem dt15 {ds : List D} {d : D} (h : funD Tryd.prog (H15 sp46 sp52 sp55 sp56 sp58 sp59 sp62 sp63 sp66 sp67) M 3 fh15_15 Tryd.f15 ds = some d) : DataSem Tryd.prog 15 ds d := data_sound (H := (H15 sp46 sp52 sp55 sp56 sp58 sp59 sp62 sp63 sp66 sp67)) (SpOk.cons ds46 (SpOk.cons ds52 (SpOk.cons ds55 (SpOk.cons ds56 (SpOk.cons ds58 (SpOk.cons ds59 (SpOk.cons ds62 (SpOk.cons ds63 (SpOk.cons ds66 (SpOk.cons ds67 SpOk.nil)))))))))) mixed InlOk.nil Tryd.func15 en15 h
noncomputable def sp15 : List D → Option D
  | [] => F15 sp46 sp52 sp55 sp56 sp58 sp59 sp62 sp63 sp66 sp67 M 
  | _ => none
theorem ds15 : ∀ ds d, sp15 ds = some d → DataSem Tryd.prog 15 ds d := by
  intro ds d h
  unfold sp15 at h
  split at h
  · exact dt15 ((F15_eq sp46 sp52 sp55 sp56 sp58 sp59 sp62 sp63 sp66 sp67 M ).trans h)
  · cases h

end Go.Ev
