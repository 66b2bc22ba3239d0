/- Functions of the given program in plain form, printed: each with the proof that it is what the evaluator comes to, and that the program function returns what it says. No conditions. -/
import Derived.Test.YtkefahdbckjajaaGreatDoorEzG2
set_option linter.unusedVariables false
set_option maxRecDepth 100000
namespace Go.Ev
open Go Go.Proofs

-- ('str', '"vidimus/trees.clone[vidimus/api.OID]"')
def Z3k : FnH := ⟨[], []⟩
noncomputable def Zah : Hints := ⟨[], [], []⟩
noncomputable def Z5g (m : Nat) (a0n : Nat) (a0c : Option Nat) (a0 : List D) : Option D :=
 cond (((a0n : Nat) : Int) == (0 : Int))
 (some (D.list 0 (some 0) []))
 (if 0 ≤ ((a0n : Nat) : Int) ∧ ((a0n : Nat) : Int) ≤ ((a0n : Nat) : Int) ∧ fitsRow (Int.toNat ((a0n : Nat) : Int)) 68 then
 if (List.length a0) = (a0n * 17) then
 if (0 + ((Int.toNat ((a0n : Nat) : Int)) * 17)) ≤ ((Int.toNat ((a0n : Nat) : Int)) * 17) ∧ (List.length a0) = (a0n * 17) then
 if (0 + ((Int.toNat ((a0n : Nat) : Int)) * 17)) ≤ ((Int.toNat ((a0n : Nat) : Int)) * 17) then
 some (D.list (Int.toNat ((a0n : Nat) : Int)) (some (Int.toNat ((a0n : Nat) : Int))) (cutL ((Int.toNat ((a0n : Nat) : Int)) * 17) (List.take 0 (List.flatten (List.replicate (Int.toNat ((a0n : Nat) : Int)) [(D.v (.int .u8 (0 : Int))), zU, zU, zU, zU, zU, zU, zU, zU, zU, zU, zU, zU, zU, zU, zU, zU])) ++ (List.take ((Nat.min a0n (Int.toNat ((a0n : Nat) : Int))) * 17) a0 ++ List.drop (0 + ((Nat.min a0n (Int.toNat ((a0n : Nat) : Int))) * 17)) (List.flatten (List.replicate (Int.toNat ((a0n : Nat) : Int)) [(D.v (.int .u8 (0 : Int))), zU, zU, zU, zU, zU, zU, zU, zU, zU, zU, zU, zU, zU, zU, zU, zU])))) 0 ((Int.toNat ((a0n : Nat) : Int)) * 17)))
 else none
 else none
 else none
 else none)
theorem Zl1 (m : Nat) (a0n : Nat) (a0c : Option Nat) (a0 : List D) : funD Tryz.prog Zah m 4 Z3k Tryz.f90 [(D.list a0n a0c a0)] = Z5g m a0n a0c a0 := by kernel_rfl
theorem Zmd : Enters Tryz.prog 90 := ⟨Tryz.f90, Tryz.func90, by kernel_rfl, by kernel_rfl⟩
theorem Zme {ds : List D} {d : D} (h : funD Tryz.prog Zah M 4 Z3k Tryz.f90 ds = some d) : DataSem Tryz.prog 90 ds d := data_sound (H := Zah) SpOk.nil mixed InlOk.nil Tryz.func90 Zmd h
noncomputable def Z3t : List D → Option D
  | [.list a0n a0c a0] => Z5g M a0n a0c a0
  | _ => none
theorem Zmf : ∀ ds d, Z3t ds = some d → DataSem Tryz.prog 90 ds d := by
  intro ds d h
  unfold Z3t at h
  split at h
  · exact Zme ((Zl1 M _ _ _).trans h)
  · cases h

-- ('str', '"vidimus/trees.clone[uint32]"')
def Z3u : FnH := ⟨[], []⟩
noncomputable def Zbr : Hints := ⟨[], [], []⟩
noncomputable def Zhd (m : Nat) (a0n : Nat) (a0c : Option Nat) (a0 : List D) : Option D :=
 cond (((a0n : Nat) : Int) == (0 : Int))
 (some (D.list 0 (some 0) []))
 (if 0 ≤ ((a0n : Nat) : Int) ∧ ((a0n : Nat) : Int) ≤ ((a0n : Nat) : Int) ∧ fitsRow (Int.toNat ((a0n : Nat) : Int)) 4 then
 if (List.length a0) = (a0n * 1) then
 if (0 + ((Int.toNat ((a0n : Nat) : Int)) * 1)) ≤ ((Int.toNat ((a0n : Nat) : Int)) * 1) ∧ (List.length a0) = (a0n * 1) then
 if (0 + ((Int.toNat ((a0n : Nat) : Int)) * 1)) ≤ ((Int.toNat ((a0n : Nat) : Int)) * 1) then
 some (D.list (Int.toNat ((a0n : Nat) : Int)) (some (Int.toNat ((a0n : Nat) : Int))) (cutL ((Int.toNat ((a0n : Nat) : Int)) * 1) (List.take 0 (List.flatten (List.replicate (Int.toNat ((a0n : Nat) : Int)) [zU])) ++ (List.take ((Nat.min a0n (Int.toNat ((a0n : Nat) : Int))) * 1) a0 ++ List.drop (0 + ((Nat.min a0n (Int.toNat ((a0n : Nat) : Int))) * 1)) (List.flatten (List.replicate (Int.toNat ((a0n : Nat) : Int)) [zU])))) 0 ((Int.toNat ((a0n : Nat) : Int)) * 1)))
 else none
 else none
 else none
 else none)
theorem Zle (m : Nat) (a0n : Nat) (a0c : Option Nat) (a0 : List D) : funD Tryz.prog Zbr m 4 Z3u Tryz.f114 [(D.list a0n a0c a0)] = Zhd m a0n a0c a0 := by kernel_rfl
theorem Znj : Enters Tryz.prog 114 := ⟨Tryz.f114, Tryz.func114, by kernel_rfl, by kernel_rfl⟩
theorem Znk {ds : List D} {d : D} (h : funD Tryz.prog Zbr M 4 Z3u Tryz.f114 ds = some d) : DataSem Tryz.prog 114 ds d := data_sound (H := Zbr) SpOk.nil mixed InlOk.nil Tryz.func114 Znj h
noncomputable def Z46 : List D → Option D
  | [.list a0n a0c a0] => Zhd M a0n a0c a0
  | _ => none
theorem Znl : ∀ ds d, Z46 ds = some d → DataSem Tryz.prog 114 ds d := by
  intro ds d h
  unfold Z46 at h
  split at h
  · exact Znk ((Zle M _ _ _).trans h)
  · cases h

-- ('str', '"vidimus/trees.clone[byte]"')
def Z4k : FnH := ⟨[], []⟩
noncomputable def Zeq : Hints := ⟨[], [], []⟩
noncomputable def Zjz (m : Nat) (a0n : Nat) (a0c : Option Nat) (a0 : List D) : Option D :=
 cond (((a0n : Nat) : Int) == (0 : Int))
 (some (D.list 0 (some 0) []))
 (if 0 ≤ ((a0n : Nat) : Int) ∧ ((a0n : Nat) : Int) ≤ ((a0n : Nat) : Int) ∧ fitsRow (Int.toNat ((a0n : Nat) : Int)) 1 then
 if (List.length a0) = (a0n * 1) then
 if (0 + ((Int.toNat ((a0n : Nat) : Int)) * 1)) ≤ ((Int.toNat ((a0n : Nat) : Int)) * 1) ∧ (List.length a0) = (a0n * 1) then
 if (0 + ((Int.toNat ((a0n : Nat) : Int)) * 1)) ≤ ((Int.toNat ((a0n : Nat) : Int)) * 1) then
 some (D.list (Int.toNat ((a0n : Nat) : Int)) (some (Int.toNat ((a0n : Nat) : Int))) (cutL ((Int.toNat ((a0n : Nat) : Int)) * 1) (List.take 0 (List.flatten (List.replicate (Int.toNat ((a0n : Nat) : Int)) [(D.v (.int .u8 (0 : Int)))])) ++ (List.take ((Nat.min a0n (Int.toNat ((a0n : Nat) : Int))) * 1) a0 ++ List.drop (0 + ((Nat.min a0n (Int.toNat ((a0n : Nat) : Int))) * 1)) (List.flatten (List.replicate (Int.toNat ((a0n : Nat) : Int)) [(D.v (.int .u8 (0 : Int)))])))) 0 ((Int.toNat ((a0n : Nat) : Int)) * 1)))
 else none
 else none
 else none
 else none)
theorem Znm (m : Nat) (a0n : Nat) (a0c : Option Nat) (a0 : List D) : funD Tryz.prog Zeq m 4 Z4k Tryz.f115 [(D.list a0n a0c a0)] = Zjz m a0n a0c a0 := by kernel_rfl
theorem Zp7 : Enters Tryz.prog 115 := ⟨Tryz.f115, Tryz.func115, by kernel_rfl, by kernel_rfl⟩
theorem Zp8 {ds : List D} {d : D} (h : funD Tryz.prog Zeq M 4 Z4k Tryz.f115 ds = some d) : DataSem Tryz.prog 115 ds d := data_sound (H := Zeq) SpOk.nil mixed InlOk.nil Tryz.func115 Zp7 h
noncomputable def Z4x : List D → Option D
  | [.list a0n a0c a0] => Zjz M a0n a0c a0
  | _ => none
theorem Zp9 : ∀ ds d, Z4x ds = some d → DataSem Tryz.prog 115 ds d := by
  intro ds d h
  unfold Z4x at h
  split at h
  · exact Zp8 ((Znm M _ _ _).trans h)
  · cases h

-- ('str', '"vidimus/trees.copied"')
def Z1t : FnH := ⟨[(4, ⟨(bm 114694 39), [], (some 3)⟩)], []⟩
def Z7t : FnH := ⟨[], []⟩
noncomputable def Z39 : Hints := ⟨[(90, Z3t), (114, Z46), (115, Z4x)], [(113, Tryz.f113, Z7t)], []⟩
noncomputable def Zha (m n0 : Nat) (y0_0 : Int) (y0_1 : Int) (y0_2 : Int) (y0_3 : Int) (y0_4 : Int) (y0_5 : Int) (y0_6 : Int) (y0_7 : Int) (y0_8 : Int) (y0_9 : Int) (y0_10 : Int) (y0_11 : Int) (y0_12 : Int) (y0_13 : Int) (y0_14 : Int) (y0_15 : Int) (y0_16 : Int) (y0_17 : Int) (y0_18 : Nat) (y0_19 : Option Nat) (y0_20 : List D) : Option D :=
 loopIter (bm 114694 39) 0 3 (codeK Tryz.prog Z39.sp ⟨0, [], false, []⟩ (inlK Tryz.prog Z39 m 4) m Z1t (subc [1, 1, 1, 0, 1, 0, 0] (bodyOf Tryz.f86))) n0 ⟨[.junk, (AV.ptr 0 0), (AV.ptr 1 0), .junk, .junk, .junk, .junk, .junk, .junk, .junk, .junk, .junk, .junk, .junk, (AV.d (D.list 0 (some 0) [])), (AV.d zI), (AV.d zI), .junk, .junk, .junk, .junk, .junk, .junk, .junk, .junk, .junk, .junk, .junk, .junk, .junk, .junk, .junk, .junk, .junk, .junk, .junk, .junk, .junk, .junk], [(Blk.d 20 [(D.v (.int .i64 y0_0)), (D.v (.int .u8 y0_1)), (D.v (.int .u32 y0_2)), (D.v (.int .u32 y0_3)), (D.v (.int .u32 y0_4)), (D.v (.int .u32 y0_5)), (D.v (.int .u32 y0_6)), (D.v (.int .u32 y0_7)), (D.v (.int .u32 y0_8)), (D.v (.int .u32 y0_9)), (D.v (.int .u32 y0_10)), (D.v (.int .u32 y0_11)), (D.v (.int .u32 y0_12)), (D.v (.int .u32 y0_13)), (D.v (.int .u32 y0_14)), (D.v (.int .u32 y0_15)), (D.v (.int .u32 y0_16)), (D.v (.int .u32 y0_17)), (D.list y0_18 y0_19 y0_20), (D.list 0 (some 0) [])]), (Blk.d 20 [zI, (D.v (.int .u8 (0 : Int))), zU, zU, zU, zU, zU, zU, zU, zU, zU, zU, zU, zU, zU, zU, zU, zU, (D.list 0 (some 0) []), (D.list 0 (some 0) [])])]⟩
  (contK Tryz.prog Z39.sp ⟨0, [], false, []⟩ (inlK Tryz.prog Z39 m 4) m Z1t (endK Tryz.prog Tryz.f86 (fun v L => viewK L 8 v some)) [.block 0, .code (subc [1, 1, 1, 1] (bodyOf Tryz.f86))])
theorem Zqg (m n0 : Nat) (y0_0 : Int) (y0_1 : Int) (y0_2 : Int) (y0_3 : Int) (y0_4 : Int) (y0_5 : Int) (y0_6 : Int) (y0_7 : Int) (y0_8 : Int) (y0_9 : Int) (y0_10 : Int) (y0_11 : Int) (y0_12 : Int) (y0_13 : Int) (y0_14 : Int) (y0_15 : Int) (y0_16 : Int) (y0_17 : Int) (y0_18 : Nat) (y0_19 : Option Nat) (y0_20 : List D) : Zha m (n0 + 1) y0_0 y0_1 y0_2 y0_3 y0_4 y0_5 y0_6 y0_7 y0_8 y0_9 y0_10 y0_11 y0_12 y0_13 y0_14 y0_15 y0_16 y0_17 y0_18 y0_19 y0_20 =
 (some (D.agg [(D.v (.int .i64 y0_0)), (D.v (.int .u8 y0_1)), (D.v (.int .u32 y0_2)), (D.v (.int .u32 y0_3)), (D.v (.int .u32 y0_4)), (D.v (.int .u32 y0_5)), (D.v (.int .u32 y0_6)), (D.v (.int .u32 y0_7)), (D.v (.int .u32 y0_8)), (D.v (.int .u32 y0_9)), (D.v (.int .u32 y0_10)), (D.v (.int .u32 y0_11)), (D.v (.int .u32 y0_12)), (D.v (.int .u32 y0_13)), (D.v (.int .u32 y0_14)), (D.v (.int .u32 y0_15)), (D.v (.int .u32 y0_16)), (D.v (.int .u32 y0_17)), (D.list y0_18 y0_19 y0_20), (D.list 0 (some 0) [])])) := by kernel_rfl
noncomputable def Z8i (m n0 : Nat) (y1_0 : Nat) (y1_1 : Int) (y1_2 : Int) (y1_3 : Int) (y1_4 : Int) (y1_5 : Int) (y1_6 : Int) (y1_7 : Int) (y1_8 : Int) (y1_9 : Int) (y1_10 : Int) (y1_11 : Int) (y1_12 : Int) (y1_13 : Int) (y1_14 : Int) (y1_15 : Int) (y1_16 : Int) (y1_17 : Int) (y1_18 : Int) (y1_19 : Int) (y1_20 : Int) (y1_21 : Nat) (y1_22 : Option Nat) (y1_23 : List D) (y1_24 : Nat) (y1_25 : List D) : Option D :=
 loopIter (bm 114694 39) 0 3 (codeK Tryz.prog Z39.sp ⟨0, [], false, []⟩ (inlK Tryz.prog Z39 m 4) m Z1t (subc [1, 1, 1, 0, 1, 0, 0] (bodyOf Tryz.f86))) n0 ⟨[.junk, (AV.ptr 0 0), (AV.ptr 1 0), .junk, .junk, .junk, .junk, .junk, .junk, .junk, .junk, .junk, .junk, .junk, (AV.sl 2 0 y1_0 (some y1_0) 27), (AV.d (D.v (.int .i64 y1_1))), (AV.d (D.v (.int .i64 y1_2))), .junk, .junk, .junk, .junk, .junk, .junk, .junk, .junk, .junk, .junk, .junk, .junk, .junk, .junk, .junk, .junk, .junk, .junk, .junk, .junk, .junk, .junk], [(Blk.a 20 [(AV.d (D.v (.int .i64 y1_3))), (AV.d (D.v (.int .u8 y1_4))), (AV.d (D.v (.int .u32 y1_5))), (AV.d (D.v (.int .u32 y1_6))), (AV.d (D.v (.int .u32 y1_7))), (AV.d (D.v (.int .u32 y1_8))), (AV.d (D.v (.int .u32 y1_9))), (AV.d (D.v (.int .u32 y1_10))), (AV.d (D.v (.int .u32 y1_11))), (AV.d (D.v (.int .u32 y1_12))), (AV.d (D.v (.int .u32 y1_13))), (AV.d (D.v (.int .u32 y1_14))), (AV.d (D.v (.int .u32 y1_15))), (AV.d (D.v (.int .u32 y1_16))), (AV.d (D.v (.int .u32 y1_17))), (AV.d (D.v (.int .u32 y1_18))), (AV.d (D.v (.int .u32 y1_19))), (AV.d (D.v (.int .u32 y1_20))), (AV.d (D.list y1_21 y1_22 y1_23)), (AV.sl 2 0 y1_0 (some y1_0) 27)]), (Blk.d 20 [zI, (D.v (.int .u8 (0 : Int))), zU, zU, zU, zU, zU, zU, zU, zU, zU, zU, zU, zU, zU, zU, zU, zU, (D.list 0 (some 0) []), (D.list 0 (some 0) [])]), (Blk.d y1_24 y1_25)]⟩
  (contK Tryz.prog Z39.sp ⟨0, [], false, []⟩ (inlK Tryz.prog Z39 m 4) m Z1t (endK Tryz.prog Tryz.f86 (fun v L => viewK L 8 v some)) [.block 0, .code (subc [1, 1, 1, 1] (bodyOf Tryz.f86))])
theorem Zo3 (m n0 : Nat) (y1_0 : Nat) (y1_1 : Int) (y1_2 : Int) (y1_3 : Int) (y1_4 : Int) (y1_5 : Int) (y1_6 : Int) (y1_7 : Int) (y1_8 : Int) (y1_9 : Int) (y1_10 : Int) (y1_11 : Int) (y1_12 : Int) (y1_13 : Int) (y1_14 : Int) (y1_15 : Int) (y1_16 : Int) (y1_17 : Int) (y1_18 : Int) (y1_19 : Int) (y1_20 : Int) (y1_21 : Nat) (y1_22 : Option Nat) (y1_23 : List D) (y1_24 : Nat) (y1_25 : List D) : Z8i m (n0 + 1) y1_0 y1_1 y1_2 y1_3 y1_4 y1_5 y1_6 y1_7 y1_8 y1_9 y1_10 y1_11 y1_12 y1_13 y1_14 y1_15 y1_16 y1_17 y1_18 y1_19 y1_20 y1_21 y1_22 y1_23 y1_24 y1_25 =
 (cond (decide (y1_2 < y1_1))
 (if 0 ≤ y1_2 ∧ y1_2 < ((y1_0 : Nat) : Int) then
 if ((0 + ((Int.toNat y1_2) * 27)) + 27) ≤ y1_24 then
 if (List.length (cutL y1_24 y1_25 (0 + ((Int.toNat y1_2) * 27)) 27)) = 27 then
 (rdL (cutL y1_24 y1_25 (0 + ((Int.toNat y1_2) * 27)) 27)[5]?).bind fun q15 =>
 (Z46 [(D.list q15.n q15.cap q15.cs)]).bind fun d16 =>
 (rdL (some d16)).bind fun q17 =>
 if 0 ≤ y1_2 ∧ y1_2 < ((y1_0 : Nat) : Int) then
 if 1 = 1 ∧ ((0 + ((Int.toNat y1_2) * 27)) + 5) < y1_24 then
 (rdL (cutL y1_24 y1_25 (0 + ((Int.toNat y1_2) * 27)) 27)[26]?).bind fun q18 =>
 (Z4x [(D.list q18.n q18.cap q18.cs)]).bind fun d19 =>
 (rdL (some d19)).bind fun q20 =>
 if 0 ≤ y1_2 ∧ y1_2 < ((y1_0 : Nat) : Int) then
 if 1 = 1 ∧ ((0 + ((Int.toNat y1_2) * 27)) + 26) < y1_24 then
 Z8i m n0 y1_0 y1_1 (IntKind.wrap .i64 (y1_2 + (1 : Int))) y1_3 y1_4 y1_5 y1_6 y1_7 y1_8 y1_9 y1_10 y1_11 y1_12 y1_13 y1_14 y1_15 y1_16 y1_17 y1_18 y1_19 y1_20 y1_21 y1_22 y1_23 y1_24 (List.set (List.set y1_25 ((0 + ((Int.toNat y1_2) * 27)) + 5) (D.list q17.n q17.cap q17.cs)) ((0 + ((Int.toNat y1_2) * 27)) + 26) (D.list q20.n q20.cap q20.cs))
 else none
 else none
 else none
 else none
 else none
 else none
 else none)
 (if (0 + (y1_0 * 27)) ≤ y1_24 then
 some (D.agg [(D.v (.int .i64 y1_3)), (D.v (.int .u8 y1_4)), (D.v (.int .u32 y1_5)), (D.v (.int .u32 y1_6)), (D.v (.int .u32 y1_7)), (D.v (.int .u32 y1_8)), (D.v (.int .u32 y1_9)), (D.v (.int .u32 y1_10)), (D.v (.int .u32 y1_11)), (D.v (.int .u32 y1_12)), (D.v (.int .u32 y1_13)), (D.v (.int .u32 y1_14)), (D.v (.int .u32 y1_15)), (D.v (.int .u32 y1_16)), (D.v (.int .u32 y1_17)), (D.v (.int .u32 y1_18)), (D.v (.int .u32 y1_19)), (D.v (.int .u32 y1_20)), (D.list y1_21 y1_22 y1_23), (D.list y1_0 (some y1_0) (cutL y1_24 y1_25 0 (y1_0 * 27)))])
 else none)) := by kernel_rfl
noncomputable def Zfv (m : Nat) (a0_0 : Int) (a0_1 : Int) (a0_2 : Int) (a0_3 : Int) (a0_4 : Int) (a0_5 : Int) (a0_6 : Int) (a0_7 : Int) (a0_8 : Int) (a0_9 : Int) (a0_10 : Int) (a0_11 : Int) (a0_12 : Int) (a0_13 : Int) (a0_14 : Int) (a0_15 : Int) (a0_16 : Int) (a0_17 : Int) (a0_18n : Nat) (a0_18c : Option Nat) (a0_18 : List D) (a0_19n : Nat) (a0_19c : Option Nat) (a0_19 : List D) : Option D :=
 (Z3t [(D.list a0_18n a0_18c a0_18)]).bind fun d1 =>
 (rdL (some d1)).bind fun q2 =>
 cond (((a0_19n : Nat) : Int) == (0 : Int))
 (Zha m m a0_0 a0_1 a0_2 a0_3 a0_4 a0_5 a0_6 a0_7 a0_8 a0_9 a0_10 a0_11 a0_12 a0_13 a0_14 a0_15 a0_16 a0_17 q2.n q2.cap q2.cs)
 (if 0 ≤ ((a0_19n : Nat) : Int) ∧ ((a0_19n : Nat) : Int) ≤ ((a0_19n : Nat) : Int) ∧ fitsRow (Int.toNat ((a0_19n : Nat) : Int)) 208 then
 if (List.length a0_19) = (a0_19n * 27) then
 if (0 + ((Int.toNat ((a0_19n : Nat) : Int)) * 27)) ≤ ((Int.toNat ((a0_19n : Nat) : Int)) * 27) ∧ (List.length a0_19) = (a0_19n * 27) then
 Z8i m m (Int.toNat ((a0_19n : Nat) : Int)) (((Int.toNat ((a0_19n : Nat) : Int)) : Nat) : Int) (0 : Int) a0_0 a0_1 a0_2 a0_3 a0_4 a0_5 a0_6 a0_7 a0_8 a0_9 a0_10 a0_11 a0_12 a0_13 a0_14 a0_15 a0_16 a0_17 q2.n q2.cap q2.cs ((Int.toNat ((a0_19n : Nat) : Int)) * 27) (List.take 0 (List.flatten (List.replicate (Int.toNat ((a0_19n : Nat) : Int)) [(D.v (.int .u8 (0 : Int))), (D.v (.string (ByteArray.mk #[]))), (D.v (.bool false)), zU, (D.v (.string (ByteArray.mk #[]))), (D.list 0 (some 0) []), (D.v (.bool false)), zU, (D.v (.string (ByteArray.mk #[]))), (D.v (.int .u8 (0 : Int))), zU, zU, zU, zU, zU, zU, zU, zU, zU, zU, zU, zU, zU, zU, zU, zU, (D.list 0 (some 0) [])])) ++ (List.take ((Nat.min a0_19n (Int.toNat ((a0_19n : Nat) : Int))) * 27) a0_19 ++ List.drop (0 + ((Nat.min a0_19n (Int.toNat ((a0_19n : Nat) : Int))) * 27)) (List.flatten (List.replicate (Int.toNat ((a0_19n : Nat) : Int)) [(D.v (.int .u8 (0 : Int))), (D.v (.string (ByteArray.mk #[]))), (D.v (.bool false)), zU, (D.v (.string (ByteArray.mk #[]))), (D.list 0 (some 0) []), (D.v (.bool false)), zU, (D.v (.string (ByteArray.mk #[]))), (D.v (.int .u8 (0 : Int))), zU, zU, zU, zU, zU, zU, zU, zU, zU, zU, zU, zU, zU, zU, zU, zU, (D.list 0 (some 0) [])]))))
 else none
 else none
 else none)
theorem Zr9 (m : Nat) (a0_0 : Int) (a0_1 : Int) (a0_2 : Int) (a0_3 : Int) (a0_4 : Int) (a0_5 : Int) (a0_6 : Int) (a0_7 : Int) (a0_8 : Int) (a0_9 : Int) (a0_10 : Int) (a0_11 : Int) (a0_12 : Int) (a0_13 : Int) (a0_14 : Int) (a0_15 : Int) (a0_16 : Int) (a0_17 : Int) (a0_18n : Nat) (a0_18c : Option Nat) (a0_18 : List D) (a0_19n : Nat) (a0_19c : Option Nat) (a0_19 : List D) : funD Tryz.prog Z39 m 4 Z1t Tryz.f86 [(D.agg [(D.v (.int .i64 a0_0)), (D.v (.int .u8 a0_1)), (D.v (.int .u32 a0_2)), (D.v (.int .u32 a0_3)), (D.v (.int .u32 a0_4)), (D.v (.int .u32 a0_5)), (D.v (.int .u32 a0_6)), (D.v (.int .u32 a0_7)), (D.v (.int .u32 a0_8)), (D.v (.int .u32 a0_9)), (D.v (.int .u32 a0_10)), (D.v (.int .u32 a0_11)), (D.v (.int .u32 a0_12)), (D.v (.int .u32 a0_13)), (D.v (.int .u32 a0_14)), (D.v (.int .u32 a0_15)), (D.v (.int .u32 a0_16)), (D.v (.int .u32 a0_17)), (D.list a0_18n a0_18c a0_18), (D.list a0_19n a0_19c a0_19)])] = Zfv m a0_0 a0_1 a0_2 a0_3 a0_4 a0_5 a0_6 a0_7 a0_8 a0_9 a0_10 a0_11 a0_12 a0_13 a0_14 a0_15 a0_16 a0_17 a0_18n a0_18c a0_18 a0_19n a0_19c a0_19 := by kernel_rfl
theorem Zt1 : Enters Tryz.prog 86 := ⟨Tryz.f86, Tryz.func86, by kernel_rfl, by kernel_rfl⟩
theorem Zt2 {ds : List D} {d : D} (h : funD Tryz.prog Z39 M 4 Z1t Tryz.f86 ds = some d) : DataSem Tryz.prog 86 ds d := data_sound (H := Z39) (SpOk.cons Zmf (SpOk.cons Znl (SpOk.cons Zp9 SpOk.nil))) mixed (InlOk.cons Tryz.func113 Zhg InlOk.nil) Tryz.func86 Zt1 h
noncomputable def Zai : List D → Option D
  | [.agg [.v (.int .i64 a0_0), .v (.int .u8 a0_1), .v (.int .u32 a0_2), .v (.int .u32 a0_3), .v (.int .u32 a0_4), .v (.int .u32 a0_5), .v (.int .u32 a0_6), .v (.int .u32 a0_7), .v (.int .u32 a0_8), .v (.int .u32 a0_9), .v (.int .u32 a0_10), .v (.int .u32 a0_11), .v (.int .u32 a0_12), .v (.int .u32 a0_13), .v (.int .u32 a0_14), .v (.int .u32 a0_15), .v (.int .u32 a0_16), .v (.int .u32 a0_17), .list a0_18n a0_18c a0_18, .list a0_19n a0_19c a0_19]] => Zfv M a0_0 a0_1 a0_2 a0_3 a0_4 a0_5 a0_6 a0_7 a0_8 a0_9 a0_10 a0_11 a0_12 a0_13 a0_14 a0_15 a0_16 a0_17 a0_18n a0_18c a0_18 a0_19n a0_19c a0_19
  | _ => none
theorem Zt3 : ∀ ds d, Zai ds = some d → DataSem Tryz.prog 86 ds d := by
  intro ds d h
  unfold Zai at h
  split at h
  · exact Zt2 ((Zr9 M _ _ _ _ _ _ _ _ _ _ _ _ _ _ _ _ _ _ _ _ _ _ _ _).trans h)
  · cases h

end Go.Ev
