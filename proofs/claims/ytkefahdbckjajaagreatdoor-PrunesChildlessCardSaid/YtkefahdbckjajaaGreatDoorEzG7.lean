/- Functions of the given program in plain form, printed: each with the proof that it is what the evaluator comes to, and that the program function returns what it says. No conditions. -/
import Derived.Test.YtkefahdbckjajaaGreatDoorEzG2
set_option linter.unusedVariables false
set_option maxRecDepth 100000
namespace Go.Ev
open Go Go.Proofs

-- ('str', '"vidimus/trees.clone[vidimus/api.OID]"')
def Z41 : FnH := ⟨[], []⟩
noncomputable def Zbe : Hints := ⟨[], [], []⟩
noncomputable def Z6a (m : Nat) (a0n : Nat) (a0c : Option Nat) (a0 : List D) : Option D :=
 cond (((a0n : Nat) : Int) == (0 : Int))
 (some (D.list 0 (some 0) []))
 (if 0 ≤ ((a0n : Nat) : Int) ∧ ((a0n : Nat) : Int) ≤ ((a0n : Nat) : Int) ∧ fitsRow (Int.toNat ((a0n : Nat) : Int)) 68 then
 if (List.length a0) = (a0n * 17) then
 if (0 + ((Int.toNat ((a0n : Nat) : Int)) * 17)) ≤ ((Int.toNat ((a0n : Nat) : Int)) * 17) ∧ (List.length a0) = (a0n * 17) then
 if (0 + ((Int.toNat ((a0n : Nat) : Int)) * 17)) ≤ ((Int.toNat ((a0n : Nat) : Int)) * 17) then
 some (D.list (Int.toNat ((a0n : Nat) : Int)) (some (Int.toNat ((a0n : Nat) : Int))) (cutL ((Int.toNat ((a0n : Nat) : Int)) * 17) (List.take 0 (List.flatten (List.replicate (Int.toNat ((a0n : Nat) : Int)) [(D.v (.int .u8 (0 : Int))), zU, zU, zU, zU, zU, zU, zU, zU, zU, zU, zU, zU, zU, zU, zU, zU])) ++ (List.take ((Nat.min a0n (Int.toNat ((a0n : Nat) : Int))) * 17) a0 ++ List.drop (0 + ((Nat.min a0n (Int.toNat ((a0n : Nat) : Int))) * 17)) (List.flatten (List.replicate (Int.toNat ((a0n : Nat) : Int)) [(D.v (.int .u8 (0 : Int))), zU, zU, zU, zU, zU, zU, zU, zU, zU, zU, zU, zU, zU, zU, zU, zU])))) 0 ((Int.toNat ((a0n : Nat) : Int)) * 17)))
 else none
 else none
 else none
 else none)
theorem Zn8 (m : Nat) (a0n : Nat) (a0c : Option Nat) (a0 : List D) : funD Tryz.prog Zbe m 4 Z41 Tryz.f90 [(D.list a0n a0c a0)] = Z6a m a0n a0c a0 := by kernel_rfl
theorem Zoq : Enters Tryz.prog 90 := ⟨Tryz.f90, Tryz.func90, by kernel_rfl, by kernel_rfl⟩
theorem Zor {ds : List D} {d : D} (h : funD Tryz.prog Zbe M 4 Z41 Tryz.f90 ds = some d) : DataSem Tryz.prog 90 ds d := data_sound (H := Zbe) SpOk.nil mixed InlOk.nil Tryz.func90 Zoq h
noncomputable def Z4e : List D → Option D
  | [.list a0n a0c a0] => Z6a M a0n a0c a0
  | _ => none
theorem Zos : ∀ ds d, Z4e ds = some d → DataSem Tryz.prog 90 ds d := by
  intro ds d h
  unfold Z4e at h
  split at h
  · exact Zor ((Zn8 M _ _ _).trans h)
  · cases h

-- ('str', '"vidimus/trees.clone[uint32]"')
def Z4f : FnH := ⟨[], []⟩
noncomputable def Zcr : Hints := ⟨[], [], []⟩
noncomputable def Zj5 (m : Nat) (a0n : Nat) (a0c : Option Nat) (a0 : List D) : Option D :=
 cond (((a0n : Nat) : Int) == (0 : Int))
 (some (D.list 0 (some 0) []))
 (if 0 ≤ ((a0n : Nat) : Int) ∧ ((a0n : Nat) : Int) ≤ ((a0n : Nat) : Int) ∧ fitsRow (Int.toNat ((a0n : Nat) : Int)) 4 then
 if (List.length a0) = (a0n * 1) then
 if (0 + ((Int.toNat ((a0n : Nat) : Int)) * 1)) ≤ ((Int.toNat ((a0n : Nat) : Int)) * 1) ∧ (List.length a0) = (a0n * 1) then
 if (0 + ((Int.toNat ((a0n : Nat) : Int)) * 1)) ≤ ((Int.toNat ((a0n : Nat) : Int)) * 1) then
 some (D.list (Int.toNat ((a0n : Nat) : Int)) (some (Int.toNat ((a0n : Nat) : Int))) (cutL ((Int.toNat ((a0n : Nat) : Int)) * 1) (List.take 0 (List.flatten (List.replicate (Int.toNat ((a0n : Nat) : Int)) [zU])) ++ (List.take ((Nat.min a0n (Int.toNat ((a0n : Nat) : Int))) * 1) a0 ++ List.drop (0 + ((Nat.min a0n (Int.toNat ((a0n : Nat) : Int))) * 1)) (List.flatten (List.replicate (Int.toNat ((a0n : Nat) : Int)) [zU])))) 0 ((Int.toNat ((a0n : Nat) : Int)) * 1)))
 else none
 else none
 else none
 else none)
theorem Znt (m : Nat) (a0n : Nat) (a0c : Option Nat) (a0 : List D) : funD Tryz.prog Zcr m 4 Z4f Tryz.f114 [(D.list a0n a0c a0)] = Zj5 m a0n a0c a0 := by kernel_rfl
theorem Zpz : Enters Tryz.prog 114 := ⟨Tryz.f114, Tryz.func114, by kernel_rfl, by kernel_rfl⟩
theorem Zq0 {ds : List D} {d : D} (h : funD Tryz.prog Zcr M 4 Z4f Tryz.f114 ds = some d) : DataSem Tryz.prog 114 ds d := data_sound (H := Zcr) SpOk.nil mixed InlOk.nil Tryz.func114 Zpz h
noncomputable def Z4x : List D → Option D
  | [.list a0n a0c a0] => Zj5 M a0n a0c a0
  | _ => none
theorem Zq1 : ∀ ds d, Z4x ds = some d → DataSem Tryz.prog 114 ds d := by
  intro ds d h
  unfold Z4x at h
  split at h
  · exact Zq0 ((Znt M _ _ _).trans h)
  · cases h

-- ('str', '"vidimus/trees.clone[byte]"')
def Z59 : FnH := ⟨[], []⟩
noncomputable def Zfy : Hints := ⟨[], [], []⟩
noncomputable def Zm0 (m : Nat) (a0n : Nat) (a0c : Option Nat) (a0 : List D) : Option D :=
 cond (((a0n : Nat) : Int) == (0 : Int))
 (some (D.list 0 (some 0) []))
 (if 0 ≤ ((a0n : Nat) : Int) ∧ ((a0n : Nat) : Int) ≤ ((a0n : Nat) : Int) ∧ fitsRow (Int.toNat ((a0n : Nat) : Int)) 1 then
 if (List.length a0) = (a0n * 1) then
 if (0 + ((Int.toNat ((a0n : Nat) : Int)) * 1)) ≤ ((Int.toNat ((a0n : Nat) : Int)) * 1) ∧ (List.length a0) = (a0n * 1) then
 if (0 + ((Int.toNat ((a0n : Nat) : Int)) * 1)) ≤ ((Int.toNat ((a0n : Nat) : Int)) * 1) then
 some (D.list (Int.toNat ((a0n : Nat) : Int)) (some (Int.toNat ((a0n : Nat) : Int))) (cutL ((Int.toNat ((a0n : Nat) : Int)) * 1) (List.take 0 (List.flatten (List.replicate (Int.toNat ((a0n : Nat) : Int)) [(D.v (.int .u8 (0 : Int)))])) ++ (List.take ((Nat.min a0n (Int.toNat ((a0n : Nat) : Int))) * 1) a0 ++ List.drop (0 + ((Nat.min a0n (Int.toNat ((a0n : Nat) : Int))) * 1)) (List.flatten (List.replicate (Int.toNat ((a0n : Nat) : Int)) [(D.v (.int .u8 (0 : Int)))])))) 0 ((Int.toNat ((a0n : Nat) : Int)) * 1)))
 else none
 else none
 else none
 else none)
theorem Zq2 (m : Nat) (a0n : Nat) (a0c : Option Nat) (a0 : List D) : funD Tryz.prog Zfy m 4 Z59 Tryz.f115 [(D.list a0n a0c a0)] = Zm0 m a0n a0c a0 := by kernel_rfl
theorem Zrl : Enters Tryz.prog 115 := ⟨Tryz.f115, Tryz.func115, by kernel_rfl, by kernel_rfl⟩
theorem Zrm {ds : List D} {d : D} (h : funD Tryz.prog Zfy M 4 Z59 Tryz.f115 ds = some d) : DataSem Tryz.prog 115 ds d := data_sound (H := Zfy) SpOk.nil mixed InlOk.nil Tryz.func115 Zrl h
noncomputable def Z5p : List D → Option D
  | [.list a0n a0c a0] => Zm0 M a0n a0c a0
  | _ => none
theorem Zrn : ∀ ds d, Z5p ds = some d → DataSem Tryz.prog 115 ds d := by
  intro ds d h
  unfold Z5p at h
  split at h
  · exact Zrm ((Zq2 M _ _ _).trans h)
  · cases h

-- ('str', '"vidimus/trees.copied"')
def Z1s : FnH := ⟨[(4, ⟨(bm 114694 39), [], (some 3)⟩)], []⟩
def Z8m : FnH := ⟨[], []⟩
noncomputable def Z3o : Hints := ⟨[(90, Z4e), (114, Z4x), (115, Z5p)], [(113, Tryz.f113, Z8m)], []⟩
noncomputable def Zj1 (m n0 : Nat) (y0_0 : Int) (y0_1 : Int) (y0_2 : Int) (y0_3 : Int) (y0_4 : Int) (y0_5 : Int) (y0_6 : Int) (y0_7 : Int) (y0_8 : Int) (y0_9 : Int) (y0_10 : Int) (y0_11 : Int) (y0_12 : Int) (y0_13 : Int) (y0_14 : Int) (y0_15 : Int) (y0_16 : Int) (y0_17 : Int) (y0_18 : Nat) (y0_19 : Option Nat) (y0_20 : List D) : Option D :=
 loopIter (bm 114694 39) 0 3 (codeK Tryz.prog Z3o.sp ⟨0, [], false, []⟩ (inlK Tryz.prog Z3o m 4) m Z1s (subc [1, 1, 1, 0, 1, 0, 0] (bodyOf Tryz.f86))) n0 ⟨[.junk, (AV.ptr 0 0), (AV.ptr 1 0), .junk, .junk, .junk, .junk, .junk, .junk, .junk, .junk, .junk, .junk, .junk, (AV.d (D.list 0 (some 0) [])), (AV.d zI), (AV.d zI), .junk, .junk, .junk, .junk, .junk, .junk, .junk, .junk, .junk, .junk, .junk, .junk, .junk, .junk, .junk, .junk, .junk, .junk, .junk, .junk, .junk, .junk], [(Blk.d 20 [(D.v (.int .i64 y0_0)), (D.v (.int .u8 y0_1)), (D.v (.int .u32 y0_2)), (D.v (.int .u32 y0_3)), (D.v (.int .u32 y0_4)), (D.v (.int .u32 y0_5)), (D.v (.int .u32 y0_6)), (D.v (.int .u32 y0_7)), (D.v (.int .u32 y0_8)), (D.v (.int .u32 y0_9)), (D.v (.int .u32 y0_10)), (D.v (.int .u32 y0_11)), (D.v (.int .u32 y0_12)), (D.v (.int .u32 y0_13)), (D.v (.int .u32 y0_14)), (D.v (.int .u32 y0_15)), (D.v (.int .u32 y0_16)), (D.v (.int .u32 y0_17)), (D.list y0_18 y0_19 y0_20), (D.list 0 (some 0) [])]), (Blk.d 20 [zI, (D.v (.int .u8 (0 : Int))), zU, zU, zU, zU, zU, zU, zU, zU, zU, zU, zU, zU, zU, zU, zU, zU, (D.list 0 (some 0) []), (D.list 0 (some 0) [])])]⟩
  (contK Tryz.prog Z3o.sp ⟨0, [], false, []⟩ (inlK Tryz.prog Z3o m 4) m Z1s (endK Tryz.prog Tryz.f86 (fun v L => viewK L 8 v some)) [.block 0, .code (subc [1, 1, 1, 1] (bodyOf Tryz.f86))])
theorem Zsw (m n0 : Nat) (y0_0 : Int) (y0_1 : Int) (y0_2 : Int) (y0_3 : Int) (y0_4 : Int) (y0_5 : Int) (y0_6 : Int) (y0_7 : Int) (y0_8 : Int) (y0_9 : Int) (y0_10 : Int) (y0_11 : Int) (y0_12 : Int) (y0_13 : Int) (y0_14 : Int) (y0_15 : Int) (y0_16 : Int) (y0_17 : Int) (y0_18 : Nat) (y0_19 : Option Nat) (y0_20 : List D) : Zj1 m (n0 + 1) y0_0 y0_1 y0_2 y0_3 y0_4 y0_5 y0_6 y0_7 y0_8 y0_9 y0_10 y0_11 y0_12 y0_13 y0_14 y0_15 y0_16 y0_17 y0_18 y0_19 y0_20 =
 (some (D.agg [(D.v (.int .i64 y0_0)), (D.v (.int .u8 y0_1)), (D.v (.int .u32 y0_2)), (D.v (.int .u32 y0_3)), (D.v (.int .u32 y0_4)), (D.v (.int .u32 y0_5)), (D.v (.int .u32 y0_6)), (D.v (.int .u32 y0_7)), (D.v (.int .u32 y0_8)), (D.v (.int .u32 y0_9)), (D.v (.int .u32 y0_10)), (D.v (.int .u32 y0_11)), (D.v (.int .u32 y0_12)), (D.v (.int .u32 y0_13)), (D.v (.int .u32 y0_14)), (D.v (.int .u32 y0_15)), (D.v (.int .u32 y0_16)), (D.v (.int .u32 y0_17)), (D.list y0_18 y0_19 y0_20), (D.list 0 (some 0) [])])) := by kernel_rfl
noncomputable def Z9d (m n0 : Nat) (y1_0 : Nat) (y1_1 : Int) (y1_2 : Int) (y1_3 : Int) (y1_4 : Int) (y1_5 : Int) (y1_6 : Int) (y1_7 : Int) (y1_8 : Int) (y1_9 : Int) (y1_10 : Int) (y1_11 : Int) (y1_12 : Int) (y1_13 : Int) (y1_14 : Int) (y1_15 : Int) (y1_16 : Int) (y1_17 : Int) (y1_18 : Int) (y1_19 : Int) (y1_20 : Int) (y1_21 : Nat) (y1_22 : Option Nat) (y1_23 : List D) (y1_24 : Nat) (y1_25 : List D) : Option D :=
 loopIter (bm 114694 39) 0 3 (codeK Tryz.prog Z3o.sp ⟨0, [], false, []⟩ (inlK Tryz.prog Z3o m 4) m Z1s (subc [1, 1, 1, 0, 1, 0, 0] (bodyOf Tryz.f86))) n0 ⟨[.junk, (AV.ptr 0 0), (AV.ptr 1 0), .junk, .junk, .junk, .junk, .junk, .junk, .junk, .junk, .junk, .junk, .junk, (AV.sl 2 0 y1_0 (some y1_0) 27), (AV.d (D.v (.int .i64 y1_1))), (AV.d (D.v (.int .i64 y1_2))), .junk, .junk, .junk, .junk, .junk, .junk, .junk, .junk, .junk, .junk, .junk, .junk, .junk, .junk, .junk, .junk, .junk, .junk, .junk, .junk, .junk, .junk], [(Blk.a 20 [(AV.d (D.v (.int .i64 y1_3))), (AV.d (D.v (.int .u8 y1_4))), (AV.d (D.v (.int .u32 y1_5))), (AV.d (D.v (.int .u32 y1_6))), (AV.d (D.v (.int .u32 y1_7))), (AV.d (D.v (.int .u32 y1_8))), (AV.d (D.v (.int .u32 y1_9))), (AV.d (D.v (.int .u32 y1_10))), (AV.d (D.v (.int .u32 y1_11))), (AV.d (D.v (.int .u32 y1_12))), (AV.d (D.v (.int .u32 y1_13))), (AV.d (D.v (.int .u32 y1_14))), (AV.d (D.v (.int .u32 y1_15))), (AV.d (D.v (.int .u32 y1_16))), (AV.d (D.v (.int .u32 y1_17))), (AV.d (D.v (.int .u32 y1_18))), (AV.d (D.v (.int .u32 y1_19))), (AV.d (D.v (.int .u32 y1_20))), (AV.d (D.list y1_21 y1_22 y1_23)), (AV.sl 2 0 y1_0 (some y1_0) 27)]), (Blk.d 20 [zI, (D.v (.int .u8 (0 : Int))), zU, zU, zU, zU, zU, zU, zU, zU, zU, zU, zU, zU, zU, zU, zU, zU, (D.list 0 (some 0) []), (D.list 0 (some 0) [])]), (Blk.d y1_24 y1_25)]⟩
  (contK Tryz.prog Z3o.sp ⟨0, [], false, []⟩ (inlK Tryz.prog Z3o m 4) m Z1s (endK Tryz.prog Tryz.f86 (fun v L => viewK L 8 v some)) [.block 0, .code (subc [1, 1, 1, 1] (bodyOf Tryz.f86))])
theorem Zqj (m n0 : Nat) (y1_0 : Nat) (y1_1 : Int) (y1_2 : Int) (y1_3 : Int) (y1_4 : Int) (y1_5 : Int) (y1_6 : Int) (y1_7 : Int) (y1_8 : Int) (y1_9 : Int) (y1_10 : Int) (y1_11 : Int) (y1_12 : Int) (y1_13 : Int) (y1_14 : Int) (y1_15 : Int) (y1_16 : Int) (y1_17 : Int) (y1_18 : Int) (y1_19 : Int) (y1_20 : Int) (y1_21 : Nat) (y1_22 : Option Nat) (y1_23 : List D) (y1_24 : Nat) (y1_25 : List D) : Z9d m (n0 + 1) y1_0 y1_1 y1_2 y1_3 y1_4 y1_5 y1_6 y1_7 y1_8 y1_9 y1_10 y1_11 y1_12 y1_13 y1_14 y1_15 y1_16 y1_17 y1_18 y1_19 y1_20 y1_21 y1_22 y1_23 y1_24 y1_25 =
 (cond (decide (y1_2 < y1_1))
 (if 0 ≤ y1_2 ∧ y1_2 < ((y1_0 : Nat) : Int) then
 if ((0 + ((Int.toNat y1_2) * 27)) + 27) ≤ y1_24 then
 if (List.length (cutL y1_24 y1_25 (0 + ((Int.toNat y1_2) * 27)) 27)) = 27 then
 (rdL (cutL y1_24 y1_25 (0 + ((Int.toNat y1_2) * 27)) 27)[5]?).bind fun q15 =>
 (Z4x [(D.list q15.n q15.cap q15.cs)]).bind fun d16 =>
 (rdL (some d16)).bind fun q17 =>
 if 0 ≤ y1_2 ∧ y1_2 < ((y1_0 : Nat) : Int) then
 if 1 = 1 ∧ ((0 + ((Int.toNat y1_2) * 27)) + 5) < y1_24 then
 (rdL (cutL y1_24 y1_25 (0 + ((Int.toNat y1_2) * 27)) 27)[26]?).bind fun q18 =>
 (Z5p [(D.list q18.n q18.cap q18.cs)]).bind fun d19 =>
 (rdL (some d19)).bind fun q20 =>
 if 0 ≤ y1_2 ∧ y1_2 < ((y1_0 : Nat) : Int) then
 if 1 = 1 ∧ ((0 + ((Int.toNat y1_2) * 27)) + 26) < y1_24 then
 Z9d m n0 y1_0 y1_1 (IntKind.wrap .i64 (y1_2 + (1 : Int))) y1_3 y1_4 y1_5 y1_6 y1_7 y1_8 y1_9 y1_10 y1_11 y1_12 y1_13 y1_14 y1_15 y1_16 y1_17 y1_18 y1_19 y1_20 y1_21 y1_22 y1_23 y1_24 (List.set (List.set y1_25 ((0 + ((Int.toNat y1_2) * 27)) + 5) (D.list q17.n q17.cap q17.cs)) ((0 + ((Int.toNat y1_2) * 27)) + 26) (D.list q20.n q20.cap q20.cs))
 else none
 else none
 else none
 else none
 else none
 else none
 else none)
 (if (0 + (y1_0 * 27)) ≤ y1_24 then
 some (D.agg [(D.v (.int .i64 y1_3)), (D.v (.int .u8 y1_4)), (D.v (.int .u32 y1_5)), (D.v (.int .u32 y1_6)), (D.v (.int .u32 y1_7)), (D.v (.int .u32 y1_8)), (D.v (.int .u32 y1_9)), (D.v (.int .u32 y1_10)), (D.v (.int .u32 y1_11)), (D.v (.int .u32 y1_12)), (D.v (.int .u32 y1_13)), (D.v (.int .u32 y1_14)), (D.v (.int .u32 y1_15)), (D.v (.int .u32 y1_16)), (D.v (.int .u32 y1_17)), (D.v (.int .u32 y1_18)), (D.v (.int .u32 y1_19)), (D.v (.int .u32 y1_20)), (D.list y1_21 y1_22 y1_23), (D.list y1_0 (some y1_0) (cutL y1_24 y1_25 0 (y1_0 * 27)))])
 else none)) := by kernel_rfl
noncomputable def Zhe (m : Nat) (a0_0 : Int) (a0_1 : Int) (a0_2 : Int) (a0_3 : Int) (a0_4 : Int) (a0_5 : Int) (a0_6 : Int) (a0_7 : Int) (a0_8 : Int) (a0_9 : Int) (a0_10 : Int) (a0_11 : Int) (a0_12 : Int) (a0_13 : Int) (a0_14 : Int) (a0_15 : Int) (a0_16 : Int) (a0_17 : Int) (a0_18n : Nat) (a0_18c : Option Nat) (a0_18 : List D) (a0_19n : Nat) (a0_19c : Option Nat) (a0_19 : List D) : Option D :=
 (Z4e [(D.list a0_18n a0_18c a0_18)]).bind fun d1 =>
 (rdL (some d1)).bind fun q2 =>
 cond (((a0_19n : Nat) : Int) == (0 : Int))
 (Zj1 m m a0_0 a0_1 a0_2 a0_3 a0_4 a0_5 a0_6 a0_7 a0_8 a0_9 a0_10 a0_11 a0_12 a0_13 a0_14 a0_15 a0_16 a0_17 q2.n q2.cap q2.cs)
 (if 0 ≤ ((a0_19n : Nat) : Int) ∧ ((a0_19n : Nat) : Int) ≤ ((a0_19n : Nat) : Int) ∧ fitsRow (Int.toNat ((a0_19n : Nat) : Int)) 208 then
 if (List.length a0_19) = (a0_19n * 27) then
 if (0 + ((Int.toNat ((a0_19n : Nat) : Int)) * 27)) ≤ ((Int.toNat ((a0_19n : Nat) : Int)) * 27) ∧ (List.length a0_19) = (a0_19n * 27) then
 Z9d m m (Int.toNat ((a0_19n : Nat) : Int)) (((Int.toNat ((a0_19n : Nat) : Int)) : Nat) : Int) (0 : Int) a0_0 a0_1 a0_2 a0_3 a0_4 a0_5 a0_6 a0_7 a0_8 a0_9 a0_10 a0_11 a0_12 a0_13 a0_14 a0_15 a0_16 a0_17 q2.n q2.cap q2.cs ((Int.toNat ((a0_19n : Nat) : Int)) * 27) (List.take 0 (List.flatten (List.replicate (Int.toNat ((a0_19n : Nat) : Int)) [(D.v (.int .u8 (0 : Int))), (D.v (.string (ByteArray.mk #[]))), (D.v (.bool false)), zU, (D.v (.string (ByteArray.mk #[]))), (D.list 0 (some 0) []), (D.v (.bool false)), zU, (D.v (.string (ByteArray.mk #[]))), (D.v (.int .u8 (0 : Int))), zU, zU, zU, zU, zU, zU, zU, zU, zU, zU, zU, zU, zU, zU, zU, zU, (D.list 0 (some 0) [])])) ++ (List.take ((Nat.min a0_19n (Int.toNat ((a0_19n : Nat) : Int))) * 27) a0_19 ++ List.drop (0 + ((Nat.min a0_19n (Int.toNat ((a0_19n : Nat) : Int))) * 27)) (List.flatten (List.replicate (Int.toNat ((a0_19n : Nat) : Int)) [(D.v (.int .u8 (0 : Int))), (D.v (.string (ByteArray.mk #[]))), (D.v (.bool false)), zU, (D.v (.string (ByteArray.mk #[]))), (D.list 0 (some 0) []), (D.v (.bool false)), zU, (D.v (.string (ByteArray.mk #[]))), (D.v (.int .u8 (0 : Int))), zU, zU, zU, zU, zU, zU, zU, zU, zU, zU, zU, zU, zU, zU, zU, zU, (D.list 0 (some 0) [])]))))
 else none
 else none
 else none)
theorem Zu1 (m : Nat) (a0_0 : Int) (a0_1 : Int) (a0_2 : Int) (a0_3 : Int) (a0_4 : Int) (a0_5 : Int) (a0_6 : Int) (a0_7 : Int) (a0_8 : Int) (a0_9 : Int) (a0_10 : Int) (a0_11 : Int) (a0_12 : Int) (a0_13 : Int) (a0_14 : Int) (a0_15 : Int) (a0_16 : Int) (a0_17 : Int) (a0_18n : Nat) (a0_18c : Option Nat) (a0_18 : List D) (a0_19n : Nat) (a0_19c : Option Nat) (a0_19 : List D) : funD Tryz.prog Z3o m 4 Z1s Tryz.f86 [(D.agg [(D.v (.int .i64 a0_0)), (D.v (.int .u8 a0_1)), (D.v (.int .u32 a0_2)), (D.v (.int .u32 a0_3)), (D.v (.int .u32 a0_4)), (D.v (.int .u32 a0_5)), (D.v (.int .u32 a0_6)), (D.v (.int .u32 a0_7)), (D.v (.int .u32 a0_8)), (D.v (.int .u32 a0_9)), (D.v (.int .u32 a0_10)), (D.v (.int .u32 a0_11)), (D.v (.int .u32 a0_12)), (D.v (.int .u32 a0_13)), (D.v (.int .u32 a0_14)), (D.v (.int .u32 a0_15)), (D.v (.int .u32 a0_16)), (D.v (.int .u32 a0_17)), (D.list a0_18n a0_18c a0_18), (D.list a0_19n a0_19c a0_19)])] = Zhe m a0_0 a0_1 a0_2 a0_3 a0_4 a0_5 a0_6 a0_7 a0_8 a0_9 a0_10 a0_11 a0_12 a0_13 a0_14 a0_15 a0_16 a0_17 a0_18n a0_18c a0_18 a0_19n a0_19c a0_19 := by kernel_rfl
theorem Zwi : Enters Tryz.prog 86 := ⟨Tryz.f86, Tryz.func86, by kernel_rfl, by kernel_rfl⟩
theorem Zwj {ds : List D} {d : D} (h : funD Tryz.prog Z3o M 4 Z1s Tryz.f86 ds = some d) : DataSem Tryz.prog 86 ds d := data_sound (H := Z3o) (SpOk.cons Zos (SpOk.cons Zq1 (SpOk.cons Zrn SpOk.nil))) mixed (InlOk.cons Tryz.func113 Zj8 InlOk.nil) Tryz.func86 Zwi h
noncomputable def Zbf : List D → Option D
  | [.agg [.v (.int .i64 a0_0), .v (.int .u8 a0_1), .v (.int .u32 a0_2), .v (.int .u32 a0_3), .v (.int .u32 a0_4), .v (.int .u32 a0_5), .v (.int .u32 a0_6), .v (.int .u32 a0_7), .v (.int .u32 a0_8), .v (.int .u32 a0_9), .v (.int .u32 a0_10), .v (.int .u32 a0_11), .v (.int .u32 a0_12), .v (.int .u32 a0_13), .v (.int .u32 a0_14), .v (.int .u32 a0_15), .v (.int .u32 a0_16), .v (.int .u32 a0_17), .list a0_18n a0_18c a0_18, .list a0_19n a0_19c a0_19]] => Zhe M a0_0 a0_1 a0_2 a0_3 a0_4 a0_5 a0_6 a0_7 a0_8 a0_9 a0_10 a0_11 a0_12 a0_13 a0_14 a0_15 a0_16 a0_17 a0_18n a0_18c a0_18 a0_19n a0_19c a0_19
  | _ => none
theorem Zwk : ∀ ds d, Zbf ds = some d → DataSem Tryz.prog 86 ds d := by
  intro ds d h
  unfold Zbf at h
  split at h
  · exact Zwj ((Zu1 M _ _ _ _ _ _ _ _ _ _ _ _ _ _ _ _ _ _ _ _ _ _ _ _).trans h)
  · cases h

end Go.Ev
