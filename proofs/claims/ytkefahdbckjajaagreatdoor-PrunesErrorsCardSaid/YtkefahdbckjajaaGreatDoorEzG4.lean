/- Functions of the given program in plain form, printed: each with the proof that it is what the evaluator comes to, and that the program function returns what it says. No conditions. -/
import Derived.Test.YtkefahdbckjajaaGreatDoorEzG3
set_option linter.unusedVariables false
set_option maxRecDepth 100000
namespace Go.Ev
open Go Go.Proofs

-- ('str', '"vidimus/prunes.exact"')
def Z7v : FnH := ⟨[], []⟩
noncomputable def Zkh : Hints := ⟨[], [], []⟩
noncomputable def Zfx (m : Nat) (a0n : Nat) (a0c : Option Nat) (a0 : List D) : Option D :=
 cond (((a0n : Nat) : Int) == (0 : Int))
 (some (D.list 0 (some 0) []))
 (if 0 ≤ (0 : Int) ∧ (0 : Int) ≤ ((a0n : Nat) : Int) ∧ fitsRow (Int.toNat ((a0n : Nat) : Int)) 8 then
 if (List.length a0) = (a0n * 1) then
 if (0 + a0n) ≤ (Int.toNat ((a0n : Nat) : Int)) then
 (if (0 + ((0 + a0n) * 1)) ≤ ((Int.toNat ((a0n : Nat) : Int)) * 1) ∧ (List.length a0) = (a0n * 1) then
 if (0 + ((0 + a0n) * 1)) ≤ ((Int.toNat ((a0n : Nat) : Int)) * 1) then
 some (D.list (0 + a0n) (some (Int.toNat ((a0n : Nat) : Int))) (cutL ((Int.toNat ((a0n : Nat) : Int)) * 1) (List.take 0 (List.flatten (List.replicate (Int.toNat ((a0n : Nat) : Int)) [zI])) ++ (a0 ++ List.drop (0 + ((0 + a0n) * 1)) (List.flatten (List.replicate (Int.toNat ((a0n : Nat) : Int)) [zI])))) 0 ((0 + a0n) * 1)))
 else none
 else none)
 else
 (if fitsRow (0 + a0n) 8 ∧ (List.length a0) = (a0n * 1) then
 if 0 ≤ ((Int.toNat ((a0n : Nat) : Int)) * 1) then
 if (0 + ((0 + a0n) * 1)) ≤ ((0 + a0n) * 1) then
 some (D.list (0 + a0n) none (cutL ((0 + a0n) * 1) ((cutL ((Int.toNat ((a0n : Nat) : Int)) * 1) (List.flatten (List.replicate (Int.toNat ((a0n : Nat) : Int)) [zI])) 0 0) ++ a0) 0 ((0 + a0n) * 1)))
 else none
 else none
 else none)
 else none
 else none)
theorem Zrb (m : Nat) (a0n : Nat) (a0c : Option Nat) (a0 : List D) : funD Tryz.prog Zkh m 4 Z7v Tryz.f69 [(D.list a0n a0c a0)] = Zfx m a0n a0c a0 := by kernel_rfl
theorem Zt7 : Enters Tryz.prog 69 := ⟨Tryz.f69, Tryz.func69, by kernel_rfl, by kernel_rfl⟩
theorem Zt8 {ds : List D} {d : D} (h : funD Tryz.prog Zkh M 4 Z7v Tryz.f69 ds = some d) : DataSem Tryz.prog 69 ds d := data_sound (H := Zkh) SpOk.nil mixed InlOk.nil Tryz.func69 Zt7 h
noncomputable def Z2j : List D → Option D
  | [.list a0n a0c a0] => Zfx M a0n a0c a0
  | _ => none
theorem Ziw : ∀ ds d, Z2j ds = some d → DataSem Tryz.prog 69 ds d := by
  intro ds d h
  unfold Z2j at h
  split at h
  · exact Zt8 ((Zrb M _ _ _).trans h)
  · cases h

-- ('str', '"vidimus/prunes.Childless"')
def Z1m : FnH := ⟨[], []⟩
def Z1u : FnH := ⟨[(9, ⟨(bm 481036337408 72), [], (some 5)⟩)], [(6, ⟨(bm 6 72), [], (some 1)⟩)]⟩
def Z36 : FnH := ⟨[(3, ⟨(bm 1545 23), [(3, 1)], (some 1)⟩)], []⟩
def Z7w : FnH := ⟨[], []⟩
noncomputable def Zi : Hints := ⟨[(60, Z1x), (69, Z2j)], [(64, Tryz.f64, Z1u), (65, Tryz.f65, Z36), (71, Tryz.f71, Z7w)], []⟩
noncomputable def Z52 (m : Nat) (a0_0n : Nat) (a0_0c : Option Nat) (a0_0 : List D) (a1 : Int) (u0_0 : Int) (u0_1 : Nat) (u0_2 : Option Nat) (u0_3 : List D) (u0_4 : Nat) (u0_5 : Option Nat) (u0_6 : List D) : Option D :=
 cutK m (codeK Tryz.prog Zi.sp ⟨1, [], true, []⟩ (inlK Tryz.prog Zi m 3) m Z1u (subc [1, 1, 1] (bodyOf Tryz.f64)) ⟨[.junk, (AV.d (D.v (.int .i64 u0_0))), (AV.ptr 1 0), .junk, .junk, .junk, .junk, .junk, .junk, .junk, .junk, .junk, .junk, .junk, .junk, .junk, .junk, .junk, .junk, .junk, .junk, .junk, .junk, .junk, .junk, .junk, .junk, .junk, .junk, .junk, .junk, .junk, .junk, .junk, .junk, .junk, .junk, .junk, .junk, .junk, .junk, .junk, .junk, .junk, .junk, .junk, .junk, .junk, .junk, .junk, .junk, .junk, .junk, .junk, .junk, .junk, .junk, .junk, .junk, .junk, .junk, .junk, .junk, .junk, .junk, .junk, .junk, .junk, .junk, .junk, .junk, .junk], [(Blk.d 1 [(D.list u0_1 u0_2 u0_3)]), (Blk.d 1 [(D.list u0_4 u0_5 u0_6)])]⟩
  (contK Tryz.prog Zi.sp ⟨1, [], true, []⟩ (inlK Tryz.prog Zi m 3) m Z1u (endK Tryz.prog Tryz.f64 (fun v L => opsK Tryz.prog Zi.sp ⟨0, [], false, []⟩ [] (inlK Tryz.prog Zi m 4) (regOps (subc [1, 0] (bodyOf Tryz.f18))) (List.drop 3 (Array.toList (regOps (subc [1, 0] (bodyOf Tryz.f18))))) ⟨setSl [(AV.d (D.agg [(D.list a0_0n a0_0c a0_0)])), (AV.d (D.v (.int .i64 a1))), (AV.ptr 0 0), .junk, (AV.d (D.list 0 (some 0) [])), (AV.d zI), .junk, .junk, .junk, (AV.d (D.agg [(D.list a0_0n a0_0c a0_0)])), (AV.d (D.v (.int .i64 a1))), .junk, .junk, .junk, .junk, .junk, .junk, .junk, .junk] (some 11) v, L⟩ (fun st => contK Tryz.prog Zi.sp ⟨0, [], false, []⟩ (inlK Tryz.prog Zi m 4) m Z1m (endK Tryz.prog Tryz.f18 (fun v L => viewK L 8 v some)) [.code (subc [1, 1] (bodyOf Tryz.f18))] .normal st))) []))
noncomputable def Z1v (m n0 : Nat) (a0_0n : Nat) (a0_0c : Option Nat) (a0_0 : List D) (a1 : Int) (y0_0 : Nat) (y0_1 : Option Nat) (y0_2 : List D) (y0_3 : Int) (y0_4 : Int) (y0_5 : Nat) (y0_6 : Option Nat) (y0_7 : List D) (y0_8 : Nat) (y0_9 : List D) (y0_10 : List D) (y0_11 : List D) (y0_12 : Int) (y0_13 : Nat) : Option D :=
 loopIter (bm 481036337408 72) 1 6 (codeK Tryz.prog Zi.sp ⟨1, [], true, []⟩ (inlK Tryz.prog Zi m 3) m Z1u (subc [1, 1, 1, 1, 1, 0, 1, 0, 0] (bodyOf Tryz.f64))) n0 ⟨[.junk, .junk, .junk, .junk, .junk, .junk, .junk, .junk, (AV.ptr 5 0), .junk, .junk, .junk, .junk, .junk, .junk, .junk, .junk, .junk, .junk, .junk, .junk, .junk, .junk, .junk, .junk, .junk, .junk, .junk, .junk, .junk, .junk, .junk, .junk, .junk, .junk, .junk, (AV.d (D.list y0_0 y0_1 y0_2)), (AV.d (D.v (.int .i64 y0_3))), (AV.d (D.v (.int .i64 y0_4))), .junk, .junk, .junk, .junk, .junk, .junk, .junk, .junk, .junk, .junk, .junk, .junk, .junk, .junk, .junk, .junk, .junk, .junk, .junk, .junk, .junk, .junk, .junk, .junk, .junk, .junk, .junk, .junk, .junk, .junk, .junk, .junk, .junk], [(Blk.d 1 [(D.list y0_5 y0_6 y0_7)]), (Blk.d 1 [(D.list y0_0 y0_1 y0_2)]), (Blk.d y0_8 y0_9), (Blk.d y0_8 y0_10), (Blk.d y0_8 y0_11), (Blk.a 5 [(AV.d (D.list y0_0 y0_1 y0_2)), (AV.d (D.v (.int .i64 y0_12))), (AV.sl 2 0 y0_13 (some y0_13) 1), (AV.sl 3 0 y0_13 (some y0_13) 1), (AV.sl 4 0 y0_13 (some y0_13) 1)])]⟩
  (contK Tryz.prog Zi.sp ⟨1, [], true, []⟩ (inlK Tryz.prog Zi m 3) m Z1u (endK Tryz.prog Tryz.f64 (fun v L => opsK Tryz.prog Zi.sp ⟨0, [], false, []⟩ [] (inlK Tryz.prog Zi m 4) (regOps (subc [1, 0] (bodyOf Tryz.f18))) (List.drop 3 (Array.toList (regOps (subc [1, 0] (bodyOf Tryz.f18))))) ⟨setSl [(AV.d (D.agg [(D.list a0_0n a0_0c a0_0)])), (AV.d (D.v (.int .i64 a1))), (AV.ptr 0 0), .junk, (AV.d (D.list 0 (some 0) [])), (AV.d zI), .junk, .junk, .junk, (AV.d (D.agg [(D.list a0_0n a0_0c a0_0)])), (AV.d (D.v (.int .i64 a1))), .junk, .junk, .junk, .junk, .junk, .junk, .junk, .junk] (some 11) v, L⟩ (fun st => contK Tryz.prog Zi.sp ⟨0, [], false, []⟩ (inlK Tryz.prog Zi m 4) m Z1m (endK Tryz.prog Tryz.f18 (fun v L => viewK L 8 v some)) [.code (subc [1, 1] (bodyOf Tryz.f18))] .normal st))) [.block 0, .code (subc [1, 1, 1, 1, 1, 1] (bodyOf Tryz.f64))])
noncomputable def Zv (m n0 : Nat) (a0_0n : Nat) (a0_0c : Option Nat) (a0_0 : List D) (a1 : Int) (y1_0 : Nat) (y1_1 : Int) (y1_2 : Int) (y1_3 : Nat) (y1_4 : Option Nat) (y1_5 : List D) (y1_6 : Nat) (y1_7 : Option Nat) (y1_8 : List D) (y1_9 : Nat) (y1_10 : List D) (y1_11 : List D) (y1_12 : List D) (y1_13 : Int) (y1_14 : Nat) (y1_15 : Nat) (y1_16 : List D) : Option D :=
 loopIter (bm 1545 23) 6 7 (codeK Tryz.prog Zi.sp ⟨6, [1, 2, 3, 4], true, []⟩ (inlK Tryz.prog Zi m 3) m Z36 (subc [1, 1, 0, 1, 0, 0] (bodyOf Tryz.f65))) n0 ⟨[(AV.ptr 5 0), .junk, .junk, (AV.sl 6 0 y1_0 none 1), .junk, .junk, .junk, .junk, .junk, (AV.d (D.v (.int .i64 y1_1))), (AV.d (D.v (.int .i64 y1_2))), .junk, .junk, .junk, .junk, .junk, .junk, .junk, .junk, .junk, .junk, .junk, .junk], [(Blk.d 1 [(D.list y1_3 y1_4 y1_5)]), (Blk.d 1 [(D.list y1_6 y1_7 y1_8)]), (Blk.d y1_9 y1_10), (Blk.d y1_9 y1_11), (Blk.d y1_9 y1_12), (Blk.a 5 [(AV.d (D.list y1_6 y1_7 y1_8)), (AV.d (D.v (.int .i64 y1_13))), (AV.sl 2 0 y1_14 (some y1_14) 1), (AV.sl 3 0 y1_14 (some y1_14) 1), (AV.sl 4 0 y1_14 (some y1_14) 1)]), (Blk.d y1_15 y1_16)]⟩
  (contK Tryz.prog Zi.sp ⟨6, [1, 2, 3, 4], true, []⟩ (inlK Tryz.prog Zi m 3) m Z36 (endK Tryz.prog Tryz.f65 (fun v L => opsK Tryz.prog Zi.sp ⟨0, [], false, []⟩ [] (inlK Tryz.prog Zi m 4) (regOps (subc [1, 1, 1, 0] (bodyOf Tryz.f18))) (List.drop 2 (Array.toList (regOps (subc [1, 1, 1, 0] (bodyOf Tryz.f18))))) ⟨setSl [(AV.d (D.agg [(D.list a0_0n a0_0c a0_0)])), (AV.d (D.v (.int .i64 a1))), (AV.ptr 0 0), .junk, (AV.d (D.list 0 (some 0) [])), (AV.d zI), (AV.ptr 5 0), (AV.d zI), (AV.tup [(AV.ptr 5 0), (AV.d zI)]), (AV.d (D.agg [(D.list a0_0n a0_0c a0_0)])), (AV.d (D.v (.int .i64 a1))), (AV.tup [(AV.ptr 5 0), (AV.d zI)]), (AV.ptr 5 0), (AV.d zI), (AV.d zI), (AV.d (D.v (.bool false))), .junk, (AV.ptr 5 0), .junk] (some 18) v, L⟩ (fun st => contK Tryz.prog Zi.sp ⟨0, [], false, []⟩ (inlK Tryz.prog Zi m 4) m Z1m (endK Tryz.prog Tryz.f18 (fun v L => viewK L 8 v some)) [.code (subc [1, 1, 1, 1] (bodyOf Tryz.f18))] .normal st))) [.block 0, .code (subc [1, 1, 1] (bodyOf Tryz.f65))])
theorem Zak (m n0 : Nat) (a0_0n : Nat) (a0_0c : Option Nat) (a0_0 : List D) (a1 : Int) (y1_0 : Nat) (y1_1 : Int) (y1_2 : Int) (y1_3 : Nat) (y1_4 : Option Nat) (y1_5 : List D) (y1_6 : Nat) (y1_7 : Option Nat) (y1_8 : List D) (y1_9 : Nat) (y1_10 : List D) (y1_11 : List D) (y1_12 : List D) (y1_13 : Int) (y1_14 : Nat) (y1_15 : Nat) (y1_16 : List D) : Zv m (n0 + 1) a0_0n a0_0c a0_0 a1 y1_0 y1_1 y1_2 y1_3 y1_4 y1_5 y1_6 y1_7 y1_8 y1_9 y1_10 y1_11 y1_12 y1_13 y1_14 y1_15 y1_16 =
 (cond (decide (y1_2 < y1_1))
 (if 0 ≤ y1_2 ∧ y1_2 < ((y1_14 : Nat) : Int) then
 (rdB y1_12[(0 + ((Int.toNat y1_2) * 1))]?).bind fun b21 =>
 cond (!b21)
 (if 0 ≤ y1_2 ∧ y1_2 < ((y1_14 : Nat) : Int) then
 (rdI .i64 y1_10[(0 + ((Int.toNat y1_2) * 1))]?).bind fun x22 =>
 cond (decide (x22 < y1_13))
 (if 0 ≤ y1_2 ∧ y1_2 < ((y1_14 : Nat) : Int) then
 (rdI .i64 y1_11[(0 + ((Int.toNat y1_2) * 1))]?).bind fun x23 =>
 cond (x23 == (0 : Int))
 (if ownB ⟨6, [1, 2, 3, 4], true, []⟩ 6 = true ∧ y1_15 = (y1_0 * 1) ∧ fitsRow (y1_0 + 1) 8 ∧ 1 = 1 then
 Zv m n0 a0_0n a0_0c a0_0 a1 (y1_0 + 1) y1_1 (IntKind.wrap .i64 (y1_2 + (1 : Int))) y1_3 y1_4 y1_5 y1_6 y1_7 y1_8 y1_9 y1_10 y1_11 y1_12 y1_13 y1_14 ((y1_0 + 1) * 1) (y1_16 ++ [(D.v (.int .i64 y1_2))])
 else none)
 (Zv m n0 a0_0n a0_0c a0_0 a1 y1_0 y1_1 (IntKind.wrap .i64 (y1_2 + (1 : Int))) y1_3 y1_4 y1_5 y1_6 y1_7 y1_8 y1_9 y1_10 y1_11 y1_12 y1_13 y1_14 y1_15 y1_16)
 else none)
 (Zv m n0 a0_0n a0_0c a0_0 a1 y1_0 y1_1 (IntKind.wrap .i64 (y1_2 + (1 : Int))) y1_3 y1_4 y1_5 y1_6 y1_7 y1_8 y1_9 y1_10 y1_11 y1_12 y1_13 y1_14 y1_15 y1_16)
 else none)
 (Zv m n0 a0_0n a0_0c a0_0 a1 y1_0 y1_1 (IntKind.wrap .i64 (y1_2 + (1 : Int))) y1_3 y1_4 y1_5 y1_6 y1_7 y1_8 y1_9 y1_10 y1_11 y1_12 y1_13 y1_14 y1_15 y1_16)
 else none)
 (if (0 + (y1_0 * 1)) ≤ y1_15 then
 (Z2j [(D.list y1_0 none (cutL y1_15 y1_16 0 (y1_0 * 1)))]).bind fun d24 =>
 (rdL (some d24)).bind fun q25 =>
 if (0 + (y1_0 * 1)) ≤ y1_15 then
 if (0 + (y1_0 * 1)) ≤ y1_15 then
 some (D.tup [(D.list q25.n q25.cap q25.cs), zI])
 else none
 else none
 else none)) := by kernel_rfl
theorem Zd2 (m n0 : Nat) (a0_0n : Nat) (a0_0c : Option Nat) (a0_0 : List D) (a1 : Int) (y0_0 : Nat) (y0_1 : Option Nat) (y0_2 : List D) (y0_3 : Int) (y0_4 : Int) (y0_5 : Nat) (y0_6 : Option Nat) (y0_7 : List D) (y0_8 : Nat) (y0_9 : List D) (y0_10 : List D) (y0_11 : List D) (y0_12 : Int) (y0_13 : Nat) : Z1v m (n0 + 1) a0_0n a0_0c a0_0 a1 y0_0 y0_1 y0_2 y0_3 y0_4 y0_5 y0_6 y0_7 y0_8 y0_9 y0_10 y0_11 y0_12 y0_13 =
 (cond (decide (y0_4 < y0_3))
 (if 0 ≤ y0_4 ∧ y0_4 < ((y0_0 : Nat) : Int) then
 if (((Int.toNat y0_4) * 20) + 20) ≤ (List.length y0_2) then
 if (List.length ((List.drop ((Int.toNat y0_4) * 20) y0_2).take 20)) = 20 then
 cond (decide (y0_4 > (0 : Int)))
 ((rdI .i64 ((List.drop ((Int.toNat y0_4) * 20) y0_2).take 20)[0]?).bind fun x11 =>
 if 0 ≤ x11 ∧ x11 < ((y0_13 : Nat) : Int) then
 (rdI .i64 y0_9[(0 + ((Int.toNat x11) * 1))]?).bind fun x12 =>
 if 0 ≤ y0_4 ∧ y0_4 < ((y0_13 : Nat) : Int) then
 if 1 = 1 ∧ (0 + ((Int.toNat y0_4) * 1)) < y0_8 then
 (rdI .i64 ((List.drop ((Int.toNat y0_4) * 20) y0_2).take 20)[0]?).bind fun x13 =>
 if 0 ≤ x13 ∧ x13 < ((y0_13 : Nat) : Int) then
 (rdI .i64 y0_10[(0 + ((Int.toNat x13) * 1))]?).bind fun x14 =>
 if 0 ≤ x13 ∧ x13 < ((y0_13 : Nat) : Int) then
 if 1 = 1 ∧ (0 + ((Int.toNat x13) * 1)) < y0_8 then
 Z1v m n0 a0_0n a0_0c a0_0 a1 y0_0 y0_1 y0_2 y0_3 (IntKind.wrap .i64 (y0_4 + (1 : Int))) y0_5 y0_6 y0_7 y0_8 (List.set y0_9 (0 + ((Int.toNat y0_4) * 1)) (D.v (.int .i64 (IntKind.wrap .i64 (x12 + (1 : Int)))))) (List.set y0_10 (0 + ((Int.toNat x13) * 1)) (D.v (.int .i64 (IntKind.wrap .i64 (x14 + (1 : Int)))))) y0_11 y0_12 y0_13
 else none
 else none
 else none
 else none
 else none
 else none)
 (Z1v m n0 a0_0n a0_0c a0_0 a1 y0_0 y0_1 y0_2 y0_3 (IntKind.wrap .i64 (y0_4 + (1 : Int))) y0_5 y0_6 y0_7 y0_8 y0_9 y0_10 y0_11 y0_12 y0_13)
 else none
 else none
 else none)
 (Zv m m a0_0n a0_0c a0_0 a1 0 ((y0_13 : Nat) : Int) (0 : Int) y0_5 y0_6 y0_7 y0_0 y0_1 y0_2 y0_8 y0_9 y0_10 y0_11 y0_12 y0_13 0 [])) := by kernel_rfl
theorem Zc9 (m : Nat) (a0_0n : Nat) (a0_0c : Option Nat) (a0_0 : List D) (a1 : Int) (u0_0 : Int) (u0_1 : Nat) (u0_2 : Option Nat) (u0_3 : List D) (u0_4 : Nat) (u0_5 : Option Nat) (u0_6 : List D) : Z52 m a0_0n a0_0c a0_0 a1 u0_0 u0_1 u0_2 u0_3 u0_4 u0_5 u0_6 =
 (if 0 ≤ ((u0_4 : Nat) : Int) ∧ ((u0_4 : Nat) : Int) ≤ ((u0_4 : Nat) : Int) ∧ fitsRow (Int.toNat ((u0_4 : Nat) : Int)) 8 then
 if 0 ≤ ((u0_4 : Nat) : Int) ∧ ((u0_4 : Nat) : Int) ≤ ((u0_4 : Nat) : Int) ∧ fitsRow (Int.toNat ((u0_4 : Nat) : Int)) 8 then
 if 0 ≤ ((u0_4 : Nat) : Int) ∧ ((u0_4 : Nat) : Int) ≤ ((u0_4 : Nat) : Int) ∧ fitsRow (Int.toNat ((u0_4 : Nat) : Int)) 1 then
 Z1v m m a0_0n a0_0c a0_0 a1 u0_4 u0_5 u0_6 ((u0_4 : Nat) : Int) (0 : Int) u0_1 u0_2 u0_3 ((Int.toNat ((u0_4 : Nat) : Int)) * 1) (List.flatten (List.replicate (Int.toNat ((u0_4 : Nat) : Int)) [zI])) (List.flatten (List.replicate (Int.toNat ((u0_4 : Nat) : Int)) [zI])) (List.flatten (List.replicate (Int.toNat ((u0_4 : Nat) : Int)) [(D.v (.bool false))])) u0_0 (Int.toNat ((u0_4 : Nat) : Int))
 else none
 else none
 else none) := (cutK_eq m _).trans (by kernel_rfl)
noncomputable def Z8l (m : Nat) (a0_0n : Nat) (a0_0c : Option Nat) (a0_0 : List D) (a1 : Int) : Option D :=
 (Z1x [(D.agg [(D.list a0_0n a0_0c a0_0)])]).bind fun d1 =>
 (rdI .i64 (some d1)).bind fun x2 =>
 cond (x2 != (0 : Int))
 (cond (x2 != (0 : Int))
 (some (D.tup [(D.list 0 (some 0) []), (D.v (.int .i64 x2))]))
 (none))
 (cond (decide (a1 < (0 : Int)))
 (some (D.tup [(D.list 0 (some 0) []), (D.v (.int .i64 (1 : Int)))]))
 (cond (decide (a1 > (64 : Int)))
 (some (D.tup [(D.list 0 (some 0) []), (D.v (.int .i64 (1 : Int)))]))
 (Z52 m a0_0n a0_0c a0_0 a1 a1 a0_0n a0_0c a0_0 a0_0n a0_0c a0_0)))
theorem Zno (m : Nat) (a0_0n : Nat) (a0_0c : Option Nat) (a0_0 : List D) (a1 : Int) : funD Tryz.prog Zi m 4 Z1m Tryz.f18 [(D.agg [(D.list a0_0n a0_0c a0_0)]), (D.v (.int .i64 a1))] = Z8l m a0_0n a0_0c a0_0 a1 := by kernel_rfl
theorem Zpc : Enters Tryz.prog 18 := ⟨Tryz.f18, Tryz.func18, by kernel_rfl, by kernel_rfl⟩
theorem Zpd {ds : List D} {d : D} (h : funD Tryz.prog Zi M 4 Z1m Tryz.f18 ds = some d) : DataSem Tryz.prog 18 ds d := data_sound (H := Zi) (SpOk.cons Z7y (SpOk.cons Ziw SpOk.nil)) mixed (InlOk.cons Tryz.func64 Za1 (InlOk.cons Tryz.func65 Zi6 (InlOk.cons Tryz.func71 Z3c InlOk.nil))) Tryz.func18 Zpc h
noncomputable def Zf : List D → Option D
  | [.agg [.list a0_0n a0_0c a0_0], .v (.int .i64 a1)] => Z8l M a0_0n a0_0c a0_0 a1
  | _ => none
theorem Zix : ∀ ds d, Zf ds = some d → DataSem Tryz.prog 18 ds d := by
  intro ds d h
  unfold Zf at h
  split at h
  · exact Zpd ((Zno M _ _ _ _).trans h)
  · cases h

-- ('str', '"vidimus/prunes.Remove"')
def Zy : FnH := ⟨[], [(6, ⟨(bm 324 40), [], (some 7)⟩)]⟩
def Z2e : FnH := ⟨[(9, ⟨(bm 481036337408 72), [], (some 5)⟩)], [(6, ⟨(bm 6 72), [], (some 1)⟩)]⟩
def Zca : FnH := ⟨[], []⟩
def Z3f : FnH := ⟨[(3, ⟨(bm 14349 34), [(3, 1)], (some 2)⟩)], []⟩
def Zal : FnH := ⟨[], []⟩
noncomputable def Zg : Hints := ⟨[(50, Z1l), (60, Z1x)], [(64, Tryz.f64, Z2e), (67, Tryz.f67, Zca), (70, Tryz.f70, Z3f), (71, Tryz.f71, Zal)], []⟩
noncomputable def Zqk (m : Nat) (u0_0 : Int) (u0_1 : Nat) (u0_2 : Option Nat) (u0_3 : List D) (u0_4 : Nat) (u0_5 : Option Nat) (u0_6 : List D) : Option D :=
 cutK m (codeK Tryz.prog Zg.sp ⟨0, [], false, []⟩ (inlK Tryz.prog Zg m 4) m Zy (subc [1, 1, 1, 1] (bodyOf Tryz.f23)) ⟨[.junk, .junk, (AV.d (D.v (.int .i64 u0_0))), .junk, .junk, .junk, (AV.ptr 1 0), .junk, (AV.d (D.v (.pointer none))), .junk, .junk, .junk, .junk, .junk, .junk, .junk, .junk, .junk, .junk, .junk, .junk, .junk, .junk, .junk, .junk, .junk, .junk, .junk, .junk, .junk, .junk, .junk, .junk, .junk, .junk, .junk, .junk, .junk, .junk, .junk], [(Blk.d 1 [(D.list u0_1 u0_2 u0_3)]), (Blk.d 1 [(D.list 0 (some 0) [])]), (Blk.d 1 [(D.list u0_4 u0_5 u0_6)])]⟩
  (contK Tryz.prog Zg.sp ⟨0, [], false, []⟩ (inlK Tryz.prog Zg m 4) m Zy (endK Tryz.prog Tryz.f23 (fun v L => viewK L 8 v some)) []))
noncomputable def Z6h (m : Nat) (a0_0n : Nat) (a0_0c : Option Nat) (a0_0 : List D) (a1 : Int) (a2 : Int) (u1_0 : Int) (u1_1 : Nat) (u1_2 : Option Nat) (u1_3 : List D) (u1_4 : Nat) (u1_5 : Option Nat) (u1_6 : List D) : Option D :=
 cutK m (codeK Tryz.prog Zg.sp ⟨2, [], true, []⟩ (inlK Tryz.prog Zg m 3) m Z2e (subc [1, 1, 1] (bodyOf Tryz.f64)) ⟨[.junk, (AV.d (D.v (.int .i64 u1_0))), (AV.ptr 2 0), .junk, .junk, .junk, .junk, .junk, .junk, .junk, .junk, .junk, .junk, .junk, .junk, .junk, .junk, .junk, .junk, .junk, .junk, .junk, .junk, .junk, .junk, .junk, .junk, .junk, .junk, .junk, .junk, .junk, .junk, .junk, .junk, .junk, .junk, .junk, .junk, .junk, .junk, .junk, .junk, .junk, .junk, .junk, .junk, .junk, .junk, .junk, .junk, .junk, .junk, .junk, .junk, .junk, .junk, .junk, .junk, .junk, .junk, .junk, .junk, .junk, .junk, .junk, .junk, .junk, .junk, .junk, .junk, .junk], [(Blk.d 1 [(D.list u1_1 u1_2 u1_3)]), (Blk.d 1 [(D.list 0 (some 0) [])]), (Blk.d 1 [(D.list u1_4 u1_5 u1_6)])]⟩
  (contK Tryz.prog Zg.sp ⟨2, [], true, []⟩ (inlK Tryz.prog Zg m 3) m Z2e (endK Tryz.prog Tryz.f64 (fun v L => opsK Tryz.prog Zg.sp ⟨0, [], false, []⟩ [] (inlK Tryz.prog Zg m 4) (regOps (subc [1, 0] (bodyOf Tryz.f23))) (List.drop 3 (Array.toList (regOps (subc [1, 0] (bodyOf Tryz.f23))))) ⟨setSl [(AV.d (D.agg [(D.list a0_0n a0_0c a0_0)])), (AV.d (D.v (.int .i64 a1))), (AV.d (D.v (.int .i64 a2))), (AV.ptr 0 0), .junk, .junk, (AV.ptr 1 0), (AV.d zI), .junk, .junk, .junk, (AV.d (D.agg [(D.list a0_0n a0_0c a0_0)])), (AV.d (D.v (.int .i64 a1))), .junk, .junk, .junk, .junk, .junk, .junk, .junk, .junk, .junk, .junk, .junk, .junk, .junk, .junk, .junk, .junk, .junk, .junk, .junk, .junk, .junk, .junk, .junk, .junk, .junk, .junk, .junk] (some 13) v, L⟩ (fun st => contK Tryz.prog Zg.sp ⟨0, [], false, []⟩ (inlK Tryz.prog Zg m 4) m Zy (endK Tryz.prog Tryz.f23 (fun v L => viewK L 8 v some)) [.code (subc [1, 1] (bodyOf Tryz.f23))] .normal st))) []))
noncomputable def Z2f (m n0 : Nat) (a0_0n : Nat) (a0_0c : Option Nat) (a0_0 : List D) (a1 : Int) (a2 : Int) (y0_0 : Nat) (y0_1 : Option Nat) (y0_2 : List D) (y0_3 : Int) (y0_4 : Int) (y0_5 : Nat) (y0_6 : Option Nat) (y0_7 : List D) (y0_8 : Nat) (y0_9 : List D) (y0_10 : List D) (y0_11 : List D) (y0_12 : Int) (y0_13 : Nat) : Option D :=
 loopIter (bm 481036337408 72) 2 7 (codeK Tryz.prog Zg.sp ⟨2, [], true, []⟩ (inlK Tryz.prog Zg m 3) m Z2e (subc [1, 1, 1, 1, 1, 0, 1, 0, 0] (bodyOf Tryz.f64))) n0 ⟨[.junk, .junk, .junk, .junk, .junk, .junk, .junk, .junk, (AV.ptr 6 0), .junk, .junk, .junk, .junk, .junk, .junk, .junk, .junk, .junk, .junk, .junk, .junk, .junk, .junk, .junk, .junk, .junk, .junk, .junk, .junk, .junk, .junk, .junk, .junk, .junk, .junk, .junk, (AV.d (D.list y0_0 y0_1 y0_2)), (AV.d (D.v (.int .i64 y0_3))), (AV.d (D.v (.int .i64 y0_4))), .junk, .junk, .junk, .junk, .junk, .junk, .junk, .junk, .junk, .junk, .junk, .junk, .junk, .junk, .junk, .junk, .junk, .junk, .junk, .junk, .junk, .junk, .junk, .junk, .junk, .junk, .junk, .junk, .junk, .junk, .junk, .junk, .junk], [(Blk.d 1 [(D.list y0_5 y0_6 y0_7)]), (Blk.d 1 [(D.list 0 (some 0) [])]), (Blk.d 1 [(D.list y0_0 y0_1 y0_2)]), (Blk.d y0_8 y0_9), (Blk.d y0_8 y0_10), (Blk.d y0_8 y0_11), (Blk.a 5 [(AV.d (D.list y0_0 y0_1 y0_2)), (AV.d (D.v (.int .i64 y0_12))), (AV.sl 3 0 y0_13 (some y0_13) 1), (AV.sl 4 0 y0_13 (some y0_13) 1), (AV.sl 5 0 y0_13 (some y0_13) 1)])]⟩
  (contK Tryz.prog Zg.sp ⟨2, [], true, []⟩ (inlK Tryz.prog Zg m 3) m Z2e (endK Tryz.prog Tryz.f64 (fun v L => opsK Tryz.prog Zg.sp ⟨0, [], false, []⟩ [] (inlK Tryz.prog Zg m 4) (regOps (subc [1, 0] (bodyOf Tryz.f23))) (List.drop 3 (Array.toList (regOps (subc [1, 0] (bodyOf Tryz.f23))))) ⟨setSl [(AV.d (D.agg [(D.list a0_0n a0_0c a0_0)])), (AV.d (D.v (.int .i64 a1))), (AV.d (D.v (.int .i64 a2))), (AV.ptr 0 0), .junk, .junk, (AV.ptr 1 0), (AV.d zI), .junk, .junk, .junk, (AV.d (D.agg [(D.list a0_0n a0_0c a0_0)])), (AV.d (D.v (.int .i64 a1))), .junk, .junk, .junk, .junk, .junk, .junk, .junk, .junk, .junk, .junk, .junk, .junk, .junk, .junk, .junk, .junk, .junk, .junk, .junk, .junk, .junk, .junk, .junk, .junk, .junk, .junk, .junk] (some 13) v, L⟩ (fun st => contK Tryz.prog Zg.sp ⟨0, [], false, []⟩ (inlK Tryz.prog Zg m 4) m Zy (endK Tryz.prog Tryz.f23 (fun v L => viewK L 8 v some)) [.code (subc [1, 1] (bodyOf Tryz.f23))] .normal st))) [.block 0, .code (subc [1, 1, 1, 1, 1, 1] (bodyOf Tryz.f64))])
noncomputable def Zbs (m : Nat) (u2_0 : Int) (u2_1 : Nat) (u2_2 : Option Nat) (u2_3 : List D) (u2_4 : Nat) (u2_5 : Option Nat) (u2_6 : List D) (u2_7 : Nat) (u2_8 : List D) (u2_9 : Nat) (u2_10 : List D) (u2_11 : Nat) (u2_12 : List D) (u2_13 : Nat) (u2_14 : Option Nat) (u2_15 : List D) (u2_16 : Int) (u2_17 : Nat) (u2_18 : Nat) (u2_19 : Nat) (u2_20 : Nat) (u2_21 : Nat) (u2_22 : Nat) : Option D :=
 cutK m (codeK Tryz.prog Zg.sp ⟨0, [], false, []⟩ (inlK Tryz.prog Zg m 4) m Zy (subc [1, 1, 1, 1] (bodyOf Tryz.f23)) ⟨[.junk, .junk, (AV.d (D.v (.int .i64 u2_0))), .junk, .junk, .junk, (AV.ptr 1 0), .junk, (AV.ptr 6 0), .junk, .junk, .junk, .junk, .junk, .junk, .junk, .junk, .junk, .junk, .junk, .junk, .junk, .junk, .junk, .junk, .junk, .junk, .junk, .junk, .junk, .junk, .junk, .junk, .junk, .junk, .junk, .junk, .junk, .junk, .junk], [(Blk.d 1 [(D.list u2_1 u2_2 u2_3)]), (Blk.d 1 [(D.list 0 (some 0) [])]), (Blk.d 1 [(D.list u2_4 u2_5 u2_6)]), (Blk.d u2_7 u2_8), (Blk.d u2_9 u2_10), (Blk.d u2_11 u2_12), (Blk.a 5 [(AV.d (D.list u2_13 u2_14 u2_15)), (AV.d (D.v (.int .i64 u2_16))), (AV.sl 3 0 u2_17 (some u2_18) 1), (AV.sl 4 0 u2_19 (some u2_20) 1), (AV.sl 5 0 u2_21 (some u2_22) 1)])]⟩
  (contK Tryz.prog Zg.sp ⟨0, [], false, []⟩ (inlK Tryz.prog Zg m 4) m Zy (endK Tryz.prog Tryz.f23 (fun v L => viewK L 8 v some)) []))
noncomputable def Z1e (m n0 : Nat) (u2_0 : Int) (x17 : Int) (y1_0 : Nat) (y1_1 : Nat) (y1_2 : Nat) (y1_3 : Int) (y1_4 : Int) (y1_5 : Nat) (y1_6 : Option Nat) (y1_7 : List D) (y1_8 : Nat) (y1_9 : Option Nat) (y1_10 : List D) (y1_11 : Nat) (y1_12 : List D) (y1_13 : Nat) (y1_14 : List D) (y1_15 : Nat) (y1_16 : List D) (y1_17 : Nat) (y1_18 : Option Nat) (y1_19 : List D) (y1_20 : Int) (y1_21 : Nat) (y1_22 : Nat) (y1_23 : Nat) (y1_24 : Nat) (y1_25 : Nat) (y1_26 : List D) : Option D :=
 loopIter (bm 14349 34) 7 9 (codeK Tryz.prog Zg.sp ⟨7, [0, 2, 3, 4, 5], true, []⟩ (inlK Tryz.prog Zg m 3) m Z3f (subc [1, 1, 0, 1, 0, 0] (bodyOf Tryz.f70))) n0 ⟨[(AV.ptr 6 0), .junk, (AV.ptr 7 0), (AV.sl 8 0 y1_0 none 1), .junk, .junk, .junk, .junk, .junk, .junk, .junk, (AV.sl 5 0 y1_1 (some y1_2) 1), (AV.d (D.v (.int .i64 y1_3))), (AV.d (D.v (.int .i64 y1_4))), .junk, .junk, .junk, .junk, .junk, .junk, .junk, .junk, .junk, .junk, .junk, .junk, .junk, .junk, .junk, .junk, .junk, .junk, .junk, .junk], [(Blk.d 1 [(D.list y1_5 y1_6 y1_7)]), (Blk.d 1 [(D.list 0 (some 0) [])]), (Blk.d 1 [(D.list y1_8 y1_9 y1_10)]), (Blk.d y1_11 y1_12), (Blk.d y1_13 y1_14), (Blk.d y1_15 y1_16), (Blk.a 5 [(AV.d (D.list y1_17 y1_18 y1_19)), (AV.d (D.v (.int .i64 y1_20))), (AV.sl 3 0 y1_21 (some y1_22) 1), (AV.sl 4 0 y1_23 (some y1_24) 1), (AV.sl 5 0 y1_1 (some y1_2) 1)]), (Blk.d 1 [(D.list 0 (some 0) [])]), (Blk.d y1_25 y1_26)]⟩
  (contK Tryz.prog Zg.sp ⟨7, [0, 2, 3, 4, 5], true, []⟩ (inlK Tryz.prog Zg m 3) m Z3f (endK Tryz.prog Tryz.f70 (fun v L => opsK Tryz.prog Zg.sp ⟨0, [], false, []⟩ [] (inlK Tryz.prog Zg m 4) (regOps (subc [1, 1, 1, 1, 1, 1, 0] (bodyOf Tryz.f23))) (List.drop 2 (Array.toList (regOps (subc [1, 1, 1, 1, 1, 1, 0] (bodyOf Tryz.f23))))) ⟨setSl [.junk, .junk, (AV.d (D.v (.int .i64 u2_0))), .junk, .junk, .junk, (AV.ptr 1 0), .junk, (AV.ptr 6 0), .junk, .junk, .junk, .junk, .junk, .junk, .junk, .junk, .junk, .junk, .junk, .junk, .junk, .junk, .junk, .junk, .junk, .junk, .junk, .junk, .junk, (AV.ptr 6 0), (AV.d (D.v (.int .i64 u2_0))), (AV.d (D.v (.bool (x17 == (0 : Int))))), (AV.d (D.v (.bool false))), .junk, (AV.ptr 6 0), (AV.d (D.v (.int .i64 u2_0))), (AV.d (D.tup [])), (AV.ptr 6 0), .junk] (some 39) v, L⟩ (fun st => contK Tryz.prog Zg.sp ⟨0, [], false, []⟩ (inlK Tryz.prog Zg m 4) m Zy (endK Tryz.prog Tryz.f23 (fun v L => viewK L 8 v some)) [.code (subc [1, 1, 1, 1, 1, 1, 1] (bodyOf Tryz.f23))] .normal st))) [.block 0, .code (subc [1, 1, 1] (bodyOf Tryz.f70))])
theorem Zcb (m n0 : Nat) (u2_0 : Int) (x17 : Int) (y1_0 : Nat) (y1_1 : Nat) (y1_2 : Nat) (y1_3 : Int) (y1_4 : Int) (y1_5 : Nat) (y1_6 : Option Nat) (y1_7 : List D) (y1_8 : Nat) (y1_9 : Option Nat) (y1_10 : List D) (y1_11 : Nat) (y1_12 : List D) (y1_13 : Nat) (y1_14 : List D) (y1_15 : Nat) (y1_16 : List D) (y1_17 : Nat) (y1_18 : Option Nat) (y1_19 : List D) (y1_20 : Int) (y1_21 : Nat) (y1_22 : Nat) (y1_23 : Nat) (y1_24 : Nat) (y1_25 : Nat) (y1_26 : List D) : Z1e m (n0 + 1) u2_0 x17 y1_0 y1_1 y1_2 y1_3 y1_4 y1_5 y1_6 y1_7 y1_8 y1_9 y1_10 y1_11 y1_12 y1_13 y1_14 y1_15 y1_16 y1_17 y1_18 y1_19 y1_20 y1_21 y1_22 y1_23 y1_24 y1_25 y1_26 =
 (cond (decide (y1_4 < y1_3))
 (if 0 ≤ y1_4 ∧ y1_4 < ((y1_1 : Nat) : Int) then
 (rdB y1_16[(0 + ((Int.toNat y1_4) * 1))]?).bind fun b22 =>
 cond b22
 (if ownB ⟨7, [0, 2, 3, 4, 5], true, []⟩ 8 = true ∧ y1_25 = (y1_0 * 1) ∧ fitsRow (y1_0 + 1) 8 ∧ 1 = 1 then
 Z1e m n0 u2_0 x17 (y1_0 + 1) y1_1 y1_2 y1_3 (IntKind.wrap .i64 (y1_4 + (1 : Int))) y1_5 y1_6 y1_7 y1_8 y1_9 y1_10 y1_11 y1_12 y1_13 y1_14 y1_15 y1_16 y1_17 y1_18 y1_19 y1_20 y1_21 y1_22 y1_23 y1_24 ((y1_0 + 1) * 1) (y1_26 ++ [(D.v (.int .i64 y1_4))])
 else none)
 (Z1e m n0 u2_0 x17 y1_0 y1_1 y1_2 y1_3 (IntKind.wrap .i64 (y1_4 + (1 : Int))) y1_5 y1_6 y1_7 y1_8 y1_9 y1_10 y1_11 y1_12 y1_13 y1_14 y1_15 y1_16 y1_17 y1_18 y1_19 y1_20 y1_21 y1_22 y1_23 y1_24 y1_25 y1_26)
 else none)
 (if (0 + (y1_0 * 1)) ≤ y1_25 then
 (Z1l [(D.agg [(D.list y1_17 y1_18 y1_19)]), (D.list y1_0 none (cutL y1_25 y1_26 0 (y1_0 * 1)))]).bind fun d23 =>
 (rdT d23).bind fun r24 =>
 if List.length r24 = 2 then
 (rdA r24[0]?).bind fun c25 =>
 (rdI .i64 r24[1]?).bind fun x26 =>
 if (0 + (y1_0 * 1)) ≤ y1_25 then
 if (0 + (y1_0 * 1)) ≤ y1_25 then
 if (List.length c25) = 1 then
 if (List.length c25) = 1 then
 if (List.length c25) = 1 then
 some (D.tup [(D.agg c25), zI])
 else none
 else none
 else none
 else none
 else none
 else none
 else none)) := by kernel_rfl
theorem Zmg (m : Nat) (u2_0 : Int) (u2_1 : Nat) (u2_2 : Option Nat) (u2_3 : List D) (u2_4 : Nat) (u2_5 : Option Nat) (u2_6 : List D) (u2_7 : Nat) (u2_8 : List D) (u2_9 : Nat) (u2_10 : List D) (u2_11 : Nat) (u2_12 : List D) (u2_13 : Nat) (u2_14 : Option Nat) (u2_15 : List D) (u2_16 : Int) (u2_17 : Nat) (u2_18 : Nat) (u2_19 : Nat) (u2_20 : Nat) (u2_21 : Nat) (u2_22 : Nat) : Zbs m u2_0 u2_1 u2_2 u2_3 u2_4 u2_5 u2_6 u2_7 u2_8 u2_9 u2_10 u2_11 u2_12 u2_13 u2_14 u2_15 u2_16 u2_17 u2_18 u2_19 u2_20 u2_21 u2_22 =
 (if 0 ≤ u2_0 ∧ u2_0 < ((u2_21 : Nat) : Int) then
 (rdB u2_12[(0 + ((Int.toNat u2_0) * 1))]?).bind fun b15 =>
 cond (!b15)
 (if 0 ≤ u2_0 ∧ u2_0 < ((u2_17 : Nat) : Int) then
 (rdI .i64 u2_8[(0 + ((Int.toNat u2_0) * 1))]?).bind fun x16 =>
 cond (decide (x16 < u2_16))
 (if 0 ≤ u2_0 ∧ u2_0 < ((u2_19 : Nat) : Int) then
 (rdI .i64 u2_10[(0 + ((Int.toNat u2_0) * 1))]?).bind fun x17 =>
 cond (!(x17 == (0 : Int)))
 (some (D.tup [(D.agg [(D.list 0 (some 0) [])]), (D.v (.int .i64 (21 : Int)))]))
 (if 0 ≤ u2_0 ∧ u2_0 < ((u2_21 : Nat) : Int) then
 if 1 = 1 ∧ (0 + ((Int.toNat u2_0) * 1)) < u2_11 then
 cond (decide (u2_0 > (0 : Int)))
 (if 0 ≤ u2_0 ∧ u2_0 < ((u2_13 : Nat) : Int) then
 (rdI .i64 u2_15[(((Int.toNat u2_0) * 20) + 0)]?).bind fun x18 =>
 if 0 ≤ x18 ∧ x18 < ((u2_19 : Nat) : Int) then
 (rdI .i64 u2_10[(0 + ((Int.toNat x18) * 1))]?).bind fun x19 =>
 if 0 ≤ x18 ∧ x18 < ((u2_19 : Nat) : Int) then
 if 1 = 1 ∧ (0 + ((Int.toNat x18) * 1)) < u2_9 then
 Z1e m m u2_0 x17 0 u2_21 u2_22 ((u2_21 : Nat) : Int) (0 : Int) u2_1 u2_2 u2_3 u2_4 u2_5 u2_6 u2_7 u2_8 u2_9 (List.set u2_10 (0 + ((Int.toNat x18) * 1)) (D.v (.int .i64 (IntKind.wrap .i64 (x19 - (1 : Int)))))) u2_11 (List.set u2_12 (0 + ((Int.toNat u2_0) * 1)) (D.v (.bool true))) u2_13 u2_14 u2_15 u2_16 u2_17 u2_18 u2_19 u2_20 0 []
 else none
 else none
 else none
 else none)
 (Z1e m m u2_0 x17 0 u2_21 u2_22 ((u2_21 : Nat) : Int) (0 : Int) u2_1 u2_2 u2_3 u2_4 u2_5 u2_6 u2_7 u2_8 u2_9 u2_10 u2_11 (List.set u2_12 (0 + ((Int.toNat u2_0) * 1)) (D.v (.bool true))) u2_13 u2_14 u2_15 u2_16 u2_17 u2_18 u2_19 u2_20 0 [])
 else none
 else none)
 else none)
 (some (D.tup [(D.agg [(D.list 0 (some 0) [])]), (D.v (.int .i64 (21 : Int)))]))
 else none)
 (some (D.tup [(D.agg [(D.list 0 (some 0) [])]), (D.v (.int .i64 (21 : Int)))]))
 else none) := (cutK_eq m _).trans (by kernel_rfl)
theorem Zf6 (m n0 : Nat) (a0_0n : Nat) (a0_0c : Option Nat) (a0_0 : List D) (a1 : Int) (a2 : Int) (y0_0 : Nat) (y0_1 : Option Nat) (y0_2 : List D) (y0_3 : Int) (y0_4 : Int) (y0_5 : Nat) (y0_6 : Option Nat) (y0_7 : List D) (y0_8 : Nat) (y0_9 : List D) (y0_10 : List D) (y0_11 : List D) (y0_12 : Int) (y0_13 : Nat) : Z2f m (n0 + 1) a0_0n a0_0c a0_0 a1 a2 y0_0 y0_1 y0_2 y0_3 y0_4 y0_5 y0_6 y0_7 y0_8 y0_9 y0_10 y0_11 y0_12 y0_13 =
 (cond (decide (y0_4 < y0_3))
 (if 0 ≤ y0_4 ∧ y0_4 < ((y0_0 : Nat) : Int) then
 if (((Int.toNat y0_4) * 20) + 20) ≤ (List.length y0_2) then
 if (List.length ((List.drop ((Int.toNat y0_4) * 20) y0_2).take 20)) = 20 then
 cond (decide (y0_4 > (0 : Int)))
 ((rdI .i64 ((List.drop ((Int.toNat y0_4) * 20) y0_2).take 20)[0]?).bind fun x11 =>
 if 0 ≤ x11 ∧ x11 < ((y0_13 : Nat) : Int) then
 (rdI .i64 y0_9[(0 + ((Int.toNat x11) * 1))]?).bind fun x12 =>
 if 0 ≤ y0_4 ∧ y0_4 < ((y0_13 : Nat) : Int) then
 if 1 = 1 ∧ (0 + ((Int.toNat y0_4) * 1)) < y0_8 then
 (rdI .i64 ((List.drop ((Int.toNat y0_4) * 20) y0_2).take 20)[0]?).bind fun x13 =>
 if 0 ≤ x13 ∧ x13 < ((y0_13 : Nat) : Int) then
 (rdI .i64 y0_10[(0 + ((Int.toNat x13) * 1))]?).bind fun x14 =>
 if 0 ≤ x13 ∧ x13 < ((y0_13 : Nat) : Int) then
 if 1 = 1 ∧ (0 + ((Int.toNat x13) * 1)) < y0_8 then
 Z2f m n0 a0_0n a0_0c a0_0 a1 a2 y0_0 y0_1 y0_2 y0_3 (IntKind.wrap .i64 (y0_4 + (1 : Int))) y0_5 y0_6 y0_7 y0_8 (List.set y0_9 (0 + ((Int.toNat y0_4) * 1)) (D.v (.int .i64 (IntKind.wrap .i64 (x12 + (1 : Int)))))) (List.set y0_10 (0 + ((Int.toNat x13) * 1)) (D.v (.int .i64 (IntKind.wrap .i64 (x14 + (1 : Int)))))) y0_11 y0_12 y0_13
 else none
 else none
 else none
 else none
 else none
 else none)
 (Z2f m n0 a0_0n a0_0c a0_0 a1 a2 y0_0 y0_1 y0_2 y0_3 (IntKind.wrap .i64 (y0_4 + (1 : Int))) y0_5 y0_6 y0_7 y0_8 y0_9 y0_10 y0_11 y0_12 y0_13)
 else none
 else none
 else none)
 (cond (decide (a2 < (0 : Int)))
 (some (D.tup [(D.agg [(D.list 0 (some 0) [])]), (D.v (.int .i64 (19 : Int)))]))
 (cond (decide (a2 ≥ ((y0_5 : Nat) : Int)))
 (some (D.tup [(D.agg [(D.list 0 (some 0) [])]), (D.v (.int .i64 (19 : Int)))]))
 (Zbs m a2 y0_5 y0_6 y0_7 y0_0 y0_1 y0_2 y0_8 y0_9 y0_8 y0_10 y0_8 y0_11 y0_0 y0_1 y0_2 y0_12 y0_13 y0_13 y0_13 y0_13 y0_13 y0_13)))) := by kernel_rfl
theorem Zeu (m : Nat) (a0_0n : Nat) (a0_0c : Option Nat) (a0_0 : List D) (a1 : Int) (a2 : Int) (u1_0 : Int) (u1_1 : Nat) (u1_2 : Option Nat) (u1_3 : List D) (u1_4 : Nat) (u1_5 : Option Nat) (u1_6 : List D) : Z6h m a0_0n a0_0c a0_0 a1 a2 u1_0 u1_1 u1_2 u1_3 u1_4 u1_5 u1_6 =
 (if 0 ≤ ((u1_4 : Nat) : Int) ∧ ((u1_4 : Nat) : Int) ≤ ((u1_4 : Nat) : Int) ∧ fitsRow (Int.toNat ((u1_4 : Nat) : Int)) 8 then
 if 0 ≤ ((u1_4 : Nat) : Int) ∧ ((u1_4 : Nat) : Int) ≤ ((u1_4 : Nat) : Int) ∧ fitsRow (Int.toNat ((u1_4 : Nat) : Int)) 8 then
 if 0 ≤ ((u1_4 : Nat) : Int) ∧ ((u1_4 : Nat) : Int) ≤ ((u1_4 : Nat) : Int) ∧ fitsRow (Int.toNat ((u1_4 : Nat) : Int)) 1 then
 Z2f m m a0_0n a0_0c a0_0 a1 a2 u1_4 u1_5 u1_6 ((u1_4 : Nat) : Int) (0 : Int) u1_1 u1_2 u1_3 ((Int.toNat ((u1_4 : Nat) : Int)) * 1) (List.flatten (List.replicate (Int.toNat ((u1_4 : Nat) : Int)) [zI])) (List.flatten (List.replicate (Int.toNat ((u1_4 : Nat) : Int)) [zI])) (List.flatten (List.replicate (Int.toNat ((u1_4 : Nat) : Int)) [(D.v (.bool false))])) u1_0 (Int.toNat ((u1_4 : Nat) : Int))
 else none
 else none
 else none) := (cutK_eq m _).trans (by kernel_rfl)
noncomputable def Zev (m : Nat) (a0_0n : Nat) (a0_0c : Option Nat) (a0_0 : List D) (a1 : Int) (a2 : Int) : Option D :=
 (Z1x [(D.agg [(D.list a0_0n a0_0c a0_0)])]).bind fun d1 =>
 (rdI .i64 (some d1)).bind fun x2 =>
 cond (x2 != (0 : Int))
 (cond (x2 != (0 : Int))
 (some (D.tup [(D.agg [(D.list 0 (some 0) [])]), (D.v (.int .i64 x2))]))
 (cond (decide (a2 < (0 : Int)))
 (some (D.tup [(D.agg [(D.list 0 (some 0) [])]), (D.v (.int .i64 (19 : Int)))]))
 (cond (decide (a2 ≥ ((a0_0n : Nat) : Int)))
 (some (D.tup [(D.agg [(D.list 0 (some 0) [])]), (D.v (.int .i64 (19 : Int)))]))
 (Zqk m a2 a0_0n a0_0c a0_0 a0_0n a0_0c a0_0))))
 (cond (decide (a1 < (0 : Int)))
 (some (D.tup [(D.agg [(D.list 0 (some 0) [])]), (D.v (.int .i64 (1 : Int)))]))
 (cond (decide (a1 > (64 : Int)))
 (some (D.tup [(D.agg [(D.list 0 (some 0) [])]), (D.v (.int .i64 (1 : Int)))]))
 (Z6h m a0_0n a0_0c a0_0 a1 a2 a1 a0_0n a0_0c a0_0 a0_0n a0_0c a0_0)))
theorem Zql (m : Nat) (a0_0n : Nat) (a0_0c : Option Nat) (a0_0 : List D) (a1 : Int) (a2 : Int) : funD Tryz.prog Zg m 4 Zy Tryz.f23 [(D.agg [(D.list a0_0n a0_0c a0_0)]), (D.v (.int .i64 a1)), (D.v (.int .i64 a2))] = Zev m a0_0n a0_0c a0_0 a1 a2 := by kernel_rfl
theorem Zsc : Enters Tryz.prog 23 := ⟨Tryz.f23, Tryz.func23, by kernel_rfl, by kernel_rfl⟩
theorem Zsd {ds : List D} {d : D} (h : funD Tryz.prog Zg M 4 Zy Tryz.f23 ds = some d) : DataSem Tryz.prog 23 ds d := data_sound (H := Zg) (SpOk.cons Ziv (SpOk.cons Z7y SpOk.nil)) mixed (InlOk.cons Tryz.func64 Za1 (InlOk.cons Tryz.func67 Z57 (InlOk.cons Tryz.func70 Zck (InlOk.cons Tryz.func71 Z3c InlOk.nil)))) Tryz.func23 Zsc h
noncomputable def Zj : List D → Option D
  | [.agg [.list a0_0n a0_0c a0_0], .v (.int .i64 a1), .v (.int .i64 a2)] => Zev M a0_0n a0_0c a0_0 a1 a2
  | _ => none
theorem Zm9 : ∀ ds d, Zj ds = some d → DataSem Tryz.prog 23 ds d := by
  intro ds d h
  unfold Zj at h
  split at h
  · exact Zsd ((Zql M _ _ _ _ _).trans h)
  · cases h

-- ('str', '"vidimus/prunes.Prune"')
def Z1k : FnH := ⟨[], []⟩
def Z2k : FnH := ⟨[(9, ⟨(bm 481036337408 72), [], (some 5)⟩)], [(6, ⟨(bm 6 72), [], (some 1)⟩)]⟩
def Z20 : FnH := ⟨[(1, ⟨(bm 19 21), [], (some 0)⟩)], [(2, ⟨(bm 19 21), [], (some 0)⟩)]⟩
def Zd3 : FnH := ⟨[], []⟩
def Z3n : FnH := ⟨[(3, ⟨(bm 14349 34), [(3, 1)], (some 2)⟩)], []⟩
def Zb6 : FnH := ⟨[], []⟩
noncomputable def Zd : Hints := ⟨[(50, Z1l), (60, Z1x)], [(64, Tryz.f64, Z2k), (66, Tryz.f66, Z20), (67, Tryz.f67, Zd3), (70, Tryz.f70, Z3n), (71, Tryz.f71, Zb6)], []⟩
noncomputable def Z6x (m : Nat) (a0_0n : Nat) (a0_0c : Option Nat) (a0_0 : List D) (a1 : Int) (u0_0 : Int) (u0_1 : Nat) (u0_2 : Option Nat) (u0_3 : List D) (u0_4 : Nat) (u0_5 : Option Nat) (u0_6 : List D) : Option D :=
 cutK m (codeK Tryz.prog Zd.sp ⟨2, [], true, []⟩ (inlK Tryz.prog Zd m 3) m Z2k (subc [1, 1, 1] (bodyOf Tryz.f64)) ⟨[.junk, (AV.d (D.v (.int .i64 u0_0))), (AV.ptr 2 0), .junk, .junk, .junk, .junk, .junk, .junk, .junk, .junk, .junk, .junk, .junk, .junk, .junk, .junk, .junk, .junk, .junk, .junk, .junk, .junk, .junk, .junk, .junk, .junk, .junk, .junk, .junk, .junk, .junk, .junk, .junk, .junk, .junk, .junk, .junk, .junk, .junk, .junk, .junk, .junk, .junk, .junk, .junk, .junk, .junk, .junk, .junk, .junk, .junk, .junk, .junk, .junk, .junk, .junk, .junk, .junk, .junk, .junk, .junk, .junk, .junk, .junk, .junk, .junk, .junk, .junk, .junk, .junk, .junk], [(Blk.d 1 [(D.list u0_1 u0_2 u0_3)]), (Blk.d 1 [(D.list 0 (some 0) [])]), (Blk.d 1 [(D.list u0_4 u0_5 u0_6)])]⟩
  (contK Tryz.prog Zd.sp ⟨2, [], true, []⟩ (inlK Tryz.prog Zd m 3) m Z2k (endK Tryz.prog Tryz.f64 (fun v L => opsK Tryz.prog Zd.sp ⟨0, [], false, []⟩ [] (inlK Tryz.prog Zd m 4) (regOps (subc [1, 0] (bodyOf Tryz.f20))) (List.drop 3 (Array.toList (regOps (subc [1, 0] (bodyOf Tryz.f20))))) ⟨setSl [(AV.d (D.agg [(D.list a0_0n a0_0c a0_0)])), (AV.d (D.v (.int .i64 a1))), (AV.ptr 0 0), .junk, (AV.ptr 1 0), (AV.d zI), .junk, .junk, .junk, (AV.d (D.agg [(D.list a0_0n a0_0c a0_0)])), (AV.d (D.v (.int .i64 a1))), .junk, .junk, .junk, .junk, .junk, .junk, .junk, .junk, .junk, .junk, .junk, .junk, .junk] (some 11) v, L⟩ (fun st => contK Tryz.prog Zd.sp ⟨0, [], false, []⟩ (inlK Tryz.prog Zd m 4) m Z1k (endK Tryz.prog Tryz.f20 (fun v L => viewK L 8 v some)) [.code (subc [1, 1] (bodyOf Tryz.f20))] .normal st))) []))
noncomputable def Z2l (m n0 : Nat) (a0_0n : Nat) (a0_0c : Option Nat) (a0_0 : List D) (a1 : Int) (y0_0 : Nat) (y0_1 : Option Nat) (y0_2 : List D) (y0_3 : Int) (y0_4 : Int) (y0_5 : Nat) (y0_6 : Option Nat) (y0_7 : List D) (y0_8 : Nat) (y0_9 : List D) (y0_10 : List D) (y0_11 : List D) (y0_12 : Int) (y0_13 : Nat) : Option D :=
 loopIter (bm 481036337408 72) 2 7 (codeK Tryz.prog Zd.sp ⟨2, [], true, []⟩ (inlK Tryz.prog Zd m 3) m Z2k (subc [1, 1, 1, 1, 1, 0, 1, 0, 0] (bodyOf Tryz.f64))) n0 ⟨[.junk, .junk, .junk, .junk, .junk, .junk, .junk, .junk, (AV.ptr 6 0), .junk, .junk, .junk, .junk, .junk, .junk, .junk, .junk, .junk, .junk, .junk, .junk, .junk, .junk, .junk, .junk, .junk, .junk, .junk, .junk, .junk, .junk, .junk, .junk, .junk, .junk, .junk, (AV.d (D.list y0_0 y0_1 y0_2)), (AV.d (D.v (.int .i64 y0_3))), (AV.d (D.v (.int .i64 y0_4))), .junk, .junk, .junk, .junk, .junk, .junk, .junk, .junk, .junk, .junk, .junk, .junk, .junk, .junk, .junk, .junk, .junk, .junk, .junk, .junk, .junk, .junk, .junk, .junk, .junk, .junk, .junk, .junk, .junk, .junk, .junk, .junk, .junk], [(Blk.d 1 [(D.list y0_5 y0_6 y0_7)]), (Blk.d 1 [(D.list 0 (some 0) [])]), (Blk.d 1 [(D.list y0_0 y0_1 y0_2)]), (Blk.d y0_8 y0_9), (Blk.d y0_8 y0_10), (Blk.d y0_8 y0_11), (Blk.a 5 [(AV.d (D.list y0_0 y0_1 y0_2)), (AV.d (D.v (.int .i64 y0_12))), (AV.sl 3 0 y0_13 (some y0_13) 1), (AV.sl 4 0 y0_13 (some y0_13) 1), (AV.sl 5 0 y0_13 (some y0_13) 1)])]⟩
  (contK Tryz.prog Zd.sp ⟨2, [], true, []⟩ (inlK Tryz.prog Zd m 3) m Z2k (endK Tryz.prog Tryz.f64 (fun v L => opsK Tryz.prog Zd.sp ⟨0, [], false, []⟩ [] (inlK Tryz.prog Zd m 4) (regOps (subc [1, 0] (bodyOf Tryz.f20))) (List.drop 3 (Array.toList (regOps (subc [1, 0] (bodyOf Tryz.f20))))) ⟨setSl [(AV.d (D.agg [(D.list a0_0n a0_0c a0_0)])), (AV.d (D.v (.int .i64 a1))), (AV.ptr 0 0), .junk, (AV.ptr 1 0), (AV.d zI), .junk, .junk, .junk, (AV.d (D.agg [(D.list a0_0n a0_0c a0_0)])), (AV.d (D.v (.int .i64 a1))), .junk, .junk, .junk, .junk, .junk, .junk, .junk, .junk, .junk, .junk, .junk, .junk, .junk] (some 11) v, L⟩ (fun st => contK Tryz.prog Zd.sp ⟨0, [], false, []⟩ (inlK Tryz.prog Zd m 4) m Z1k (endK Tryz.prog Tryz.f20 (fun v L => viewK L 8 v some)) [.code (subc [1, 1] (bodyOf Tryz.f20))] .normal st))) [.block 0, .code (subc [1, 1, 1, 1, 1, 1] (bodyOf Tryz.f64))])
noncomputable def Z21 (m n0 : Nat) (a0_0n : Nat) (a0_0c : Option Nat) (a0_0 : List D) (a1 : Int) (y1_0 : Int) (y1_1 : Nat) (y1_2 : Option Nat) (y1_3 : List D) (y1_4 : Nat) (y1_5 : Option Nat) (y1_6 : List D) (y1_7 : Nat) (y1_8 : List D) (y1_9 : Nat) (y1_10 : List D) (y1_11 : Nat) (y1_12 : List D) (y1_13 : Nat) (y1_14 : Option Nat) (y1_15 : List D) (y1_16 : Int) (y1_17 : Nat) (y1_18 : Nat) (y1_19 : Nat) (y1_20 : Nat) (y1_21 : Nat) (y1_22 : Nat) : Option D :=
 loopIter (bm 19 21) 7 7 (codeK Tryz.prog Zd.sp ⟨7, [2, 3, 4, 5], true, []⟩ (inlK Tryz.prog Zd m 3) m Z20 (subc [1, 0, 0] (bodyOf Tryz.f66))) n0 ⟨[(AV.ptr 6 0), (AV.bnd 67 [(AV.ptr 6 0)]), .junk, .junk, (AV.d (D.v (.int .i64 y1_0))), .junk, .junk, .junk, .junk, .junk, .junk, .junk, .junk, .junk, .junk, .junk, .junk, .junk, .junk, .junk, .junk], [(Blk.d 1 [(D.list y1_1 y1_2 y1_3)]), (Blk.d 1 [(D.list 0 (some 0) [])]), (Blk.d 1 [(D.list y1_4 y1_5 y1_6)]), (Blk.d y1_7 y1_8), (Blk.d y1_9 y1_10), (Blk.d y1_11 y1_12), (Blk.a 5 [(AV.d (D.list y1_13 y1_14 y1_15)), (AV.d (D.v (.int .i64 y1_16))), (AV.sl 3 0 y1_17 (some y1_18) 1), (AV.sl 4 0 y1_19 (some y1_20) 1), (AV.sl 5 0 y1_21 (some y1_22) 1)])]⟩
  (contK Tryz.prog Zd.sp ⟨7, [2, 3, 4, 5], true, []⟩ (inlK Tryz.prog Zd m 3) m Z20 (endK Tryz.prog Tryz.f66 (fun v L => opsK Tryz.prog Zd.sp ⟨0, [], false, []⟩ [] (inlK Tryz.prog Zd m 4) (regOps (subc [1, 1, 1, 0] (bodyOf Tryz.f20))) (List.drop 4 (Array.toList (regOps (subc [1, 1, 1, 0] (bodyOf Tryz.f20))))) ⟨setSl [(AV.d (D.agg [(D.list a0_0n a0_0c a0_0)])), (AV.d (D.v (.int .i64 a1))), (AV.ptr 0 0), .junk, (AV.ptr 1 0), (AV.d zI), (AV.ptr 6 0), (AV.d zI), (AV.tup [(AV.ptr 6 0), (AV.d zI)]), (AV.d (D.agg [(D.list a0_0n a0_0c a0_0)])), (AV.d (D.v (.int .i64 a1))), (AV.tup [(AV.ptr 6 0), (AV.d zI)]), (AV.ptr 6 0), (AV.d zI), (AV.d zI), (AV.d (D.v (.bool false))), .junk, .junk, (AV.ptr 6 0), (AV.ptr 6 0), (AV.bnd 67 [(AV.ptr 6 0)]), .junk, .junk, .junk] (some 21) v, L⟩ (fun st => contK Tryz.prog Zd.sp ⟨0, [], false, []⟩ (inlK Tryz.prog Zd m 4) m Z1k (endK Tryz.prog Tryz.f20 (fun v L => viewK L 8 v some)) [.code (subc [1, 1, 1, 1] (bodyOf Tryz.f20))] .normal st))) [.block 0])
noncomputable def Z16 (m n0 : Nat) (a0_0n : Nat) (a0_0c : Option Nat) (a0_0 : List D) (a1 : Int) (u1_0 : Int) (u1_1 : Nat) (u1_2 : Option Nat) (u1_3 : List D) (u1_4 : Nat) (u1_5 : Option Nat) (u1_6 : List D) (u1_7 : Nat) (u1_8 : List D) (u1_9 : Nat) (u1_10 : List D) (u1_11 : Nat) (u1_12 : List D) (u1_13 : Nat) (u1_14 : Option Nat) (u1_15 : List D) (u1_16 : Int) (u1_17 : Nat) (u1_18 : Nat) (u1_19 : Nat) (u1_20 : Nat) (u1_21 : Nat) (u1_22 : Nat) : Option D :=
 cutK m (codeK Tryz.prog Zd.sp ⟨7, [2, 3, 4, 5], true, []⟩ (inlK Tryz.prog Zd m 3) m Z20 (subc [1, 0, 0, 1, 1] (bodyOf Tryz.f66)) ⟨[(AV.ptr 6 0), (AV.bnd 67 [(AV.ptr 6 0)]), .junk, .junk, (AV.d (D.v (.int .i64 u1_0))), .junk, .junk, .junk, .junk, .junk, .junk, .junk, .junk, .junk, .junk, .junk, .junk, .junk, .junk, .junk, .junk], [(Blk.d 1 [(D.list u1_1 u1_2 u1_3)]), (Blk.d 1 [(D.list 0 (some 0) [])]), (Blk.d 1 [(D.list u1_4 u1_5 u1_6)]), (Blk.d u1_7 u1_8), (Blk.d u1_9 u1_10), (Blk.d u1_11 u1_12), (Blk.a 5 [(AV.d (D.list u1_13 u1_14 u1_15)), (AV.d (D.v (.int .i64 u1_16))), (AV.sl 3 0 u1_17 (some u1_18) 1), (AV.sl 4 0 u1_19 (some u1_20) 1), (AV.sl 5 0 u1_21 (some u1_22) 1)])]⟩
  (contK Tryz.prog Zd.sp ⟨7, [2, 3, 4, 5], true, []⟩ (inlK Tryz.prog Zd m 3) m Z20 (endK Tryz.prog Tryz.f66 (fun v L => opsK Tryz.prog Zd.sp ⟨0, [], false, []⟩ [] (inlK Tryz.prog Zd m 4) (regOps (subc [1, 1, 1, 0] (bodyOf Tryz.f20))) (List.drop 4 (Array.toList (regOps (subc [1, 1, 1, 0] (bodyOf Tryz.f20))))) ⟨setSl [(AV.d (D.agg [(D.list a0_0n a0_0c a0_0)])), (AV.d (D.v (.int .i64 a1))), (AV.ptr 0 0), .junk, (AV.ptr 1 0), (AV.d zI), (AV.ptr 6 0), (AV.d zI), (AV.tup [(AV.ptr 6 0), (AV.d zI)]), (AV.d (D.agg [(D.list a0_0n a0_0c a0_0)])), (AV.d (D.v (.int .i64 a1))), (AV.tup [(AV.ptr 6 0), (AV.d zI)]), (AV.ptr 6 0), (AV.d zI), (AV.d zI), (AV.d (D.v (.bool false))), .junk, .junk, (AV.ptr 6 0), (AV.ptr 6 0), (AV.bnd 67 [(AV.ptr 6 0)]), .junk, .junk, .junk] (some 21) v, L⟩ (fun st => contK Tryz.prog Zd.sp ⟨0, [], false, []⟩ (inlK Tryz.prog Zd m 4) m Z1k (endK Tryz.prog Tryz.f20 (fun v L => viewK L 8 v some)) [.code (subc [1, 1, 1, 1] (bodyOf Tryz.f20))] .normal st))) [.loop (bm 19 21) 7 (subc [1, 0, 0] (bodyOf Tryz.f66)) n0, .block 0]))
theorem Zd4 (m n0 : Nat) (a0_0n : Nat) (a0_0c : Option Nat) (a0_0 : List D) (a1 : Int) (u1_0 : Int) (u1_1 : Nat) (u1_2 : Option Nat) (u1_3 : List D) (u1_4 : Nat) (u1_5 : Option Nat) (u1_6 : List D) (u1_7 : Nat) (u1_8 : List D) (u1_9 : Nat) (u1_10 : List D) (u1_11 : Nat) (u1_12 : List D) (u1_13 : Nat) (u1_14 : Option Nat) (u1_15 : List D) (u1_16 : Int) (u1_17 : Nat) (u1_18 : Nat) (u1_19 : Nat) (u1_20 : Nat) (u1_21 : Nat) (u1_22 : Nat) : Z16 m n0 a0_0n a0_0c a0_0 a1 u1_0 u1_1 u1_2 u1_3 u1_4 u1_5 u1_6 u1_7 u1_8 u1_9 u1_10 u1_11 u1_12 u1_13 u1_14 u1_15 u1_16 u1_17 u1_18 u1_19 u1_20 u1_21 u1_22 =
 (Z21 m n0 a0_0n a0_0c a0_0 a1 (IntKind.wrap .i64 (u1_0 - (1 : Int))) u1_1 u1_2 u1_3 u1_4 u1_5 u1_6 u1_7 u1_8 u1_9 u1_10 u1_11 u1_12 u1_13 u1_14 u1_15 u1_16 u1_17 u1_18 u1_19 u1_20 u1_21 u1_22) := (cutK_eq m _).trans (by kernel_rfl)
noncomputable def Z1h (m n0 : Nat) (a0_0n : Nat) (a0_0c : Option Nat) (a0_0 : List D) (a1 : Int) (y2_0 : Nat) (y2_1 : Nat) (y2_2 : Nat) (y2_3 : Int) (y2_4 : Int) (y2_5 : Nat) (y2_6 : Option Nat) (y2_7 : List D) (y2_8 : Nat) (y2_9 : Option Nat) (y2_10 : List D) (y2_11 : Nat) (y2_12 : List D) (y2_13 : Nat) (y2_14 : List D) (y2_15 : Nat) (y2_16 : List D) (y2_17 : Nat) (y2_18 : Option Nat) (y2_19 : List D) (y2_20 : Int) (y2_21 : Nat) (y2_22 : Nat) (y2_23 : Nat) (y2_24 : Nat) (y2_25 : Nat) (y2_26 : List D) : Option D :=
 loopIter (bm 14349 34) 7 9 (codeK Tryz.prog Zd.sp ⟨7, [2, 3, 4, 5], true, []⟩ (inlK Tryz.prog Zd m 3) m Z3n (subc [1, 1, 0, 1, 0, 0] (bodyOf Tryz.f70))) n0 ⟨[(AV.ptr 6 0), .junk, (AV.ptr 7 0), (AV.sl 8 0 y2_0 none 1), .junk, .junk, .junk, .junk, .junk, .junk, .junk, (AV.sl 5 0 y2_1 (some y2_2) 1), (AV.d (D.v (.int .i64 y2_3))), (AV.d (D.v (.int .i64 y2_4))), .junk, .junk, .junk, .junk, .junk, .junk, .junk, .junk, .junk, .junk, .junk, .junk, .junk, .junk, .junk, .junk, .junk, .junk, .junk, .junk], [(Blk.d 1 [(D.list y2_5 y2_6 y2_7)]), (Blk.d 1 [(D.list 0 (some 0) [])]), (Blk.d 1 [(D.list y2_8 y2_9 y2_10)]), (Blk.d y2_11 y2_12), (Blk.d y2_13 y2_14), (Blk.d y2_15 y2_16), (Blk.a 5 [(AV.d (D.list y2_17 y2_18 y2_19)), (AV.d (D.v (.int .i64 y2_20))), (AV.sl 3 0 y2_21 (some y2_22) 1), (AV.sl 4 0 y2_23 (some y2_24) 1), (AV.sl 5 0 y2_1 (some y2_2) 1)]), (Blk.d 1 [(D.list 0 (some 0) [])]), (Blk.d y2_25 y2_26)]⟩
  (contK Tryz.prog Zd.sp ⟨7, [2, 3, 4, 5], true, []⟩ (inlK Tryz.prog Zd m 3) m Z3n (endK Tryz.prog Tryz.f70 (fun v L => opsK Tryz.prog Zd.sp ⟨0, [], false, []⟩ [] (inlK Tryz.prog Zd m 4) (regOps (subc [1, 1, 1, 1, 0] (bodyOf Tryz.f20))) (List.drop 2 (Array.toList (regOps (subc [1, 1, 1, 1, 0] (bodyOf Tryz.f20))))) ⟨setSl [(AV.d (D.agg [(D.list a0_0n a0_0c a0_0)])), (AV.d (D.v (.int .i64 a1))), (AV.ptr 0 0), .junk, (AV.ptr 1 0), (AV.d zI), (AV.ptr 6 0), (AV.d zI), (AV.tup [(AV.ptr 6 0), (AV.d zI)]), (AV.d (D.agg [(D.list a0_0n a0_0c a0_0)])), (AV.d (D.v (.int .i64 a1))), (AV.tup [(AV.ptr 6 0), (AV.d zI)]), (AV.ptr 6 0), (AV.d zI), (AV.d zI), (AV.d (D.v (.bool false))), .junk, .junk, (AV.ptr 6 0), (AV.ptr 6 0), (AV.bnd 67 [(AV.ptr 6 0)]), (AV.d (D.tup [])), (AV.ptr 6 0), .junk] (some 23) v, L⟩ (fun st => contK Tryz.prog Zd.sp ⟨0, [], false, []⟩ (inlK Tryz.prog Zd m 4) m Z1k (endK Tryz.prog Tryz.f20 (fun v L => viewK L 8 v some)) [.code (subc [1, 1, 1, 1, 1] (bodyOf Tryz.f20))] .normal st))) [.block 0, .code (subc [1, 1, 1] (bodyOf Tryz.f70))])
theorem Zd5 (m n0 : Nat) (a0_0n : Nat) (a0_0c : Option Nat) (a0_0 : List D) (a1 : Int) (y2_0 : Nat) (y2_1 : Nat) (y2_2 : Nat) (y2_3 : Int) (y2_4 : Int) (y2_5 : Nat) (y2_6 : Option Nat) (y2_7 : List D) (y2_8 : Nat) (y2_9 : Option Nat) (y2_10 : List D) (y2_11 : Nat) (y2_12 : List D) (y2_13 : Nat) (y2_14 : List D) (y2_15 : Nat) (y2_16 : List D) (y2_17 : Nat) (y2_18 : Option Nat) (y2_19 : List D) (y2_20 : Int) (y2_21 : Nat) (y2_22 : Nat) (y2_23 : Nat) (y2_24 : Nat) (y2_25 : Nat) (y2_26 : List D) : Z1h m (n0 + 1) a0_0n a0_0c a0_0 a1 y2_0 y2_1 y2_2 y2_3 y2_4 y2_5 y2_6 y2_7 y2_8 y2_9 y2_10 y2_11 y2_12 y2_13 y2_14 y2_15 y2_16 y2_17 y2_18 y2_19 y2_20 y2_21 y2_22 y2_23 y2_24 y2_25 y2_26 =
 (cond (decide (y2_4 < y2_3))
 (if 0 ≤ y2_4 ∧ y2_4 < ((y2_1 : Nat) : Int) then
 (rdB y2_16[(0 + ((Int.toNat y2_4) * 1))]?).bind fun b32 =>
 cond b32
 (if ownB ⟨7, [2, 3, 4, 5], true, []⟩ 8 = true ∧ y2_25 = (y2_0 * 1) ∧ fitsRow (y2_0 + 1) 8 ∧ 1 = 1 then
 Z1h m n0 a0_0n a0_0c a0_0 a1 (y2_0 + 1) y2_1 y2_2 y2_3 (IntKind.wrap .i64 (y2_4 + (1 : Int))) y2_5 y2_6 y2_7 y2_8 y2_9 y2_10 y2_11 y2_12 y2_13 y2_14 y2_15 y2_16 y2_17 y2_18 y2_19 y2_20 y2_21 y2_22 y2_23 y2_24 ((y2_0 + 1) * 1) (y2_26 ++ [(D.v (.int .i64 y2_4))])
 else none)
 (Z1h m n0 a0_0n a0_0c a0_0 a1 y2_0 y2_1 y2_2 y2_3 (IntKind.wrap .i64 (y2_4 + (1 : Int))) y2_5 y2_6 y2_7 y2_8 y2_9 y2_10 y2_11 y2_12 y2_13 y2_14 y2_15 y2_16 y2_17 y2_18 y2_19 y2_20 y2_21 y2_22 y2_23 y2_24 y2_25 y2_26)
 else none)
 (if (0 + (y2_0 * 1)) ≤ y2_25 then
 (Z1l [(D.agg [(D.list y2_17 y2_18 y2_19)]), (D.list y2_0 none (cutL y2_25 y2_26 0 (y2_0 * 1)))]).bind fun d33 =>
 (rdT d33).bind fun r34 =>
 if List.length r34 = 2 then
 (rdA r34[0]?).bind fun c35 =>
 (rdI .i64 r34[1]?).bind fun x36 =>
 if (0 + (y2_0 * 1)) ≤ y2_25 then
 if (0 + (y2_0 * 1)) ≤ y2_25 then
 if (List.length c35) = 1 then
 if (List.length c35) = 1 then
 if (List.length c35) = 1 then
 some (D.tup [(D.agg c35), zI])
 else none
 else none
 else none
 else none
 else none
 else none
 else none)) := by kernel_rfl
theorem Zdr (m n0 : Nat) (a0_0n : Nat) (a0_0c : Option Nat) (a0_0 : List D) (a1 : Int) (y1_0 : Int) (y1_1 : Nat) (y1_2 : Option Nat) (y1_3 : List D) (y1_4 : Nat) (y1_5 : Option Nat) (y1_6 : List D) (y1_7 : Nat) (y1_8 : List D) (y1_9 : Nat) (y1_10 : List D) (y1_11 : Nat) (y1_12 : List D) (y1_13 : Nat) (y1_14 : Option Nat) (y1_15 : List D) (y1_16 : Int) (y1_17 : Nat) (y1_18 : Nat) (y1_19 : Nat) (y1_20 : Nat) (y1_21 : Nat) (y1_22 : Nat) : Z21 m (n0 + 1) a0_0n a0_0c a0_0 a1 y1_0 y1_1 y1_2 y1_3 y1_4 y1_5 y1_6 y1_7 y1_8 y1_9 y1_10 y1_11 y1_12 y1_13 y1_14 y1_15 y1_16 y1_17 y1_18 y1_19 y1_20 y1_21 y1_22 =
 (cond (decide (y1_0 ≥ (0 : Int)))
 (if 0 ≤ y1_0 ∧ y1_0 < ((y1_21 : Nat) : Int) then
 (rdB y1_12[(0 + ((Int.toNat y1_0) * 1))]?).bind fun b25 =>
 cond (!b25)
 (if 0 ≤ y1_0 ∧ y1_0 < ((y1_17 : Nat) : Int) then
 (rdI .i64 y1_8[(0 + ((Int.toNat y1_0) * 1))]?).bind fun x26 =>
 cond (decide (x26 < y1_16))
 (if 0 ≤ y1_0 ∧ y1_0 < ((y1_19 : Nat) : Int) then
 (rdI .i64 y1_10[(0 + ((Int.toNat y1_0) * 1))]?).bind fun x27 =>
 cond (x27 == (0 : Int))
 (if 0 ≤ y1_0 ∧ y1_0 < ((y1_21 : Nat) : Int) then
 if 1 = 1 ∧ (0 + ((Int.toNat y1_0) * 1)) < y1_11 then
 cond (decide (y1_0 > (0 : Int)))
 (if 0 ≤ y1_0 ∧ y1_0 < ((y1_13 : Nat) : Int) then
 (rdI .i64 y1_15[(((Int.toNat y1_0) * 20) + 0)]?).bind fun x28 =>
 if 0 ≤ x28 ∧ x28 < ((y1_19 : Nat) : Int) then
 (rdI .i64 y1_10[(0 + ((Int.toNat x28) * 1))]?).bind fun x29 =>
 if 0 ≤ x28 ∧ x28 < ((y1_19 : Nat) : Int) then
 if 1 = 1 ∧ (0 + ((Int.toNat x28) * 1)) < y1_9 then
 Z16 m n0 a0_0n a0_0c a0_0 a1 y1_0 y1_1 y1_2 y1_3 y1_4 y1_5 y1_6 y1_7 y1_8 y1_9 (List.set y1_10 (0 + ((Int.toNat x28) * 1)) (D.v (.int .i64 (IntKind.wrap .i64 (x29 - (1 : Int)))))) y1_11 (List.set y1_12 (0 + ((Int.toNat y1_0) * 1)) (D.v (.bool true))) y1_13 y1_14 y1_15 y1_16 y1_17 y1_18 y1_19 y1_20 y1_21 y1_22
 else none
 else none
 else none
 else none)
 (Z16 m n0 a0_0n a0_0c a0_0 a1 y1_0 y1_1 y1_2 y1_3 y1_4 y1_5 y1_6 y1_7 y1_8 y1_9 y1_10 y1_11 (List.set y1_12 (0 + ((Int.toNat y1_0) * 1)) (D.v (.bool true))) y1_13 y1_14 y1_15 y1_16 y1_17 y1_18 y1_19 y1_20 y1_21 y1_22)
 else none
 else none)
 (Z16 m n0 a0_0n a0_0c a0_0 a1 y1_0 y1_1 y1_2 y1_3 y1_4 y1_5 y1_6 y1_7 y1_8 y1_9 y1_10 y1_11 y1_12 y1_13 y1_14 y1_15 y1_16 y1_17 y1_18 y1_19 y1_20 y1_21 y1_22)
 else none)
 (Z16 m n0 a0_0n a0_0c a0_0 a1 y1_0 y1_1 y1_2 y1_3 y1_4 y1_5 y1_6 y1_7 y1_8 y1_9 y1_10 y1_11 y1_12 y1_13 y1_14 y1_15 y1_16 y1_17 y1_18 y1_19 y1_20 y1_21 y1_22)
 else none)
 (Z16 m n0 a0_0n a0_0c a0_0 a1 y1_0 y1_1 y1_2 y1_3 y1_4 y1_5 y1_6 y1_7 y1_8 y1_9 y1_10 y1_11 y1_12 y1_13 y1_14 y1_15 y1_16 y1_17 y1_18 y1_19 y1_20 y1_21 y1_22)
 else none)
 (Z1h m m a0_0n a0_0c a0_0 a1 0 y1_21 y1_22 ((y1_21 : Nat) : Int) (0 : Int) y1_1 y1_2 y1_3 y1_4 y1_5 y1_6 y1_7 y1_8 y1_9 y1_10 y1_11 y1_12 y1_13 y1_14 y1_15 y1_16 y1_17 y1_18 y1_19 y1_20 0 [])) := by kernel_rfl
theorem Zfn (m n0 : Nat) (a0_0n : Nat) (a0_0c : Option Nat) (a0_0 : List D) (a1 : Int) (y0_0 : Nat) (y0_1 : Option Nat) (y0_2 : List D) (y0_3 : Int) (y0_4 : Int) (y0_5 : Nat) (y0_6 : Option Nat) (y0_7 : List D) (y0_8 : Nat) (y0_9 : List D) (y0_10 : List D) (y0_11 : List D) (y0_12 : Int) (y0_13 : Nat) : Z2l m (n0 + 1) a0_0n a0_0c a0_0 a1 y0_0 y0_1 y0_2 y0_3 y0_4 y0_5 y0_6 y0_7 y0_8 y0_9 y0_10 y0_11 y0_12 y0_13 =
 (cond (decide (y0_4 < y0_3))
 (if 0 ≤ y0_4 ∧ y0_4 < ((y0_0 : Nat) : Int) then
 if (((Int.toNat y0_4) * 20) + 20) ≤ (List.length y0_2) then
 if (List.length ((List.drop ((Int.toNat y0_4) * 20) y0_2).take 20)) = 20 then
 cond (decide (y0_4 > (0 : Int)))
 ((rdI .i64 ((List.drop ((Int.toNat y0_4) * 20) y0_2).take 20)[0]?).bind fun x11 =>
 if 0 ≤ x11 ∧ x11 < ((y0_13 : Nat) : Int) then
 (rdI .i64 y0_9[(0 + ((Int.toNat x11) * 1))]?).bind fun x12 =>
 if 0 ≤ y0_4 ∧ y0_4 < ((y0_13 : Nat) : Int) then
 if 1 = 1 ∧ (0 + ((Int.toNat y0_4) * 1)) < y0_8 then
 (rdI .i64 ((List.drop ((Int.toNat y0_4) * 20) y0_2).take 20)[0]?).bind fun x13 =>
 if 0 ≤ x13 ∧ x13 < ((y0_13 : Nat) : Int) then
 (rdI .i64 y0_10[(0 + ((Int.toNat x13) * 1))]?).bind fun x14 =>
 if 0 ≤ x13 ∧ x13 < ((y0_13 : Nat) : Int) then
 if 1 = 1 ∧ (0 + ((Int.toNat x13) * 1)) < y0_8 then
 Z2l m n0 a0_0n a0_0c a0_0 a1 y0_0 y0_1 y0_2 y0_3 (IntKind.wrap .i64 (y0_4 + (1 : Int))) y0_5 y0_6 y0_7 y0_8 (List.set y0_9 (0 + ((Int.toNat y0_4) * 1)) (D.v (.int .i64 (IntKind.wrap .i64 (x12 + (1 : Int)))))) (List.set y0_10 (0 + ((Int.toNat x13) * 1)) (D.v (.int .i64 (IntKind.wrap .i64 (x14 + (1 : Int)))))) y0_11 y0_12 y0_13
 else none
 else none
 else none
 else none
 else none
 else none)
 (Z2l m n0 a0_0n a0_0c a0_0 a1 y0_0 y0_1 y0_2 y0_3 (IntKind.wrap .i64 (y0_4 + (1 : Int))) y0_5 y0_6 y0_7 y0_8 y0_9 y0_10 y0_11 y0_12 y0_13)
 else none
 else none
 else none)
 (Z21 m m a0_0n a0_0c a0_0 a1 (IntKind.wrap .i64 (((y0_13 : Nat) : Int) - (1 : Int))) y0_5 y0_6 y0_7 y0_0 y0_1 y0_2 y0_8 y0_9 y0_8 y0_10 y0_8 y0_11 y0_0 y0_1 y0_2 y0_12 y0_13 y0_13 y0_13 y0_13 y0_13 y0_13)) := by kernel_rfl
theorem Zf7 (m : Nat) (a0_0n : Nat) (a0_0c : Option Nat) (a0_0 : List D) (a1 : Int) (u0_0 : Int) (u0_1 : Nat) (u0_2 : Option Nat) (u0_3 : List D) (u0_4 : Nat) (u0_5 : Option Nat) (u0_6 : List D) : Z6x m a0_0n a0_0c a0_0 a1 u0_0 u0_1 u0_2 u0_3 u0_4 u0_5 u0_6 =
 (if 0 ≤ ((u0_4 : Nat) : Int) ∧ ((u0_4 : Nat) : Int) ≤ ((u0_4 : Nat) : Int) ∧ fitsRow (Int.toNat ((u0_4 : Nat) : Int)) 8 then
 if 0 ≤ ((u0_4 : Nat) : Int) ∧ ((u0_4 : Nat) : Int) ≤ ((u0_4 : Nat) : Int) ∧ fitsRow (Int.toNat ((u0_4 : Nat) : Int)) 8 then
 if 0 ≤ ((u0_4 : Nat) : Int) ∧ ((u0_4 : Nat) : Int) ≤ ((u0_4 : Nat) : Int) ∧ fitsRow (Int.toNat ((u0_4 : Nat) : Int)) 1 then
 Z2l m m a0_0n a0_0c a0_0 a1 u0_4 u0_5 u0_6 ((u0_4 : Nat) : Int) (0 : Int) u0_1 u0_2 u0_3 ((Int.toNat ((u0_4 : Nat) : Int)) * 1) (List.flatten (List.replicate (Int.toNat ((u0_4 : Nat) : Int)) [zI])) (List.flatten (List.replicate (Int.toNat ((u0_4 : Nat) : Int)) [zI])) (List.flatten (List.replicate (Int.toNat ((u0_4 : Nat) : Int)) [(D.v (.bool false))])) u0_0 (Int.toNat ((u0_4 : Nat) : Int))
 else none
 else none
 else none) := (cutK_eq m _).trans (by kernel_rfl)
noncomputable def Zfy (m : Nat) (a0_0n : Nat) (a0_0c : Option Nat) (a0_0 : List D) (a1 : Int) : Option D :=
 (Z1x [(D.agg [(D.list a0_0n a0_0c a0_0)])]).bind fun d1 =>
 (rdI .i64 (some d1)).bind fun x2 =>
 cond (x2 != (0 : Int))
 (cond (x2 != (0 : Int))
 (some (D.tup [(D.agg [(D.list 0 (some 0) [])]), (D.v (.int .i64 x2))]))
 (none))
 (cond (decide (a1 < (0 : Int)))
 (some (D.tup [(D.agg [(D.list 0 (some 0) [])]), (D.v (.int .i64 (1 : Int)))]))
 (cond (decide (a1 > (64 : Int)))
 (some (D.tup [(D.agg [(D.list 0 (some 0) [])]), (D.v (.int .i64 (1 : Int)))]))
 (Z6x m a0_0n a0_0c a0_0 a1 a1 a0_0n a0_0c a0_0 a0_0n a0_0c a0_0)))
theorem Zrc (m : Nat) (a0_0n : Nat) (a0_0c : Option Nat) (a0_0 : List D) (a1 : Int) : funD Tryz.prog Zd m 4 Z1k Tryz.f20 [(D.agg [(D.list a0_0n a0_0c a0_0)]), (D.v (.int .i64 a1))] = Zfy m a0_0n a0_0c a0_0 a1 := by kernel_rfl
theorem Zt9 : Enters Tryz.prog 20 := ⟨Tryz.f20, Tryz.func20, by kernel_rfl, by kernel_rfl⟩
theorem Zta {ds : List D} {d : D} (h : funD Tryz.prog Zd M 4 Z1k Tryz.f20 ds = some d) : DataSem Tryz.prog 20 ds d := data_sound (H := Zd) (SpOk.cons Ziv (SpOk.cons Z7y SpOk.nil)) mixed (InlOk.cons Tryz.func64 Za1 (InlOk.cons Tryz.func66 Zj7 (InlOk.cons Tryz.func67 Z57 (InlOk.cons Tryz.func70 Zck (InlOk.cons Tryz.func71 Z3c InlOk.nil))))) Tryz.func20 Zt9 h
noncomputable def Zq : List D → Option D
  | [.agg [.list a0_0n a0_0c a0_0], .v (.int .i64 a1)] => Zfy M a0_0n a0_0c a0_0 a1
  | _ => none
theorem Znp : ∀ ds d, Zq ds = some d → DataSem Tryz.prog 20 ds d := by
  intro ds d h
  unfold Zq at h
  split at h
  · exact Zta ((Zrc M _ _ _ _).trans h)
  · cases h

-- ('str', '"vidimus/prunes.PruneBy"')
def Zk : FnH := ⟨[(100000, ⟨(bm 2628 57), [], (some 7)⟩)], []⟩
def Z2b : FnH := ⟨[(9, ⟨(bm 481036337408 72), [], (some 5)⟩)], [(6, ⟨(bm 6 72), [], (some 1)⟩)]⟩
def Z1q : FnH := ⟨[(3, ⟨(bm 1545 23), [(3, 1)], (some 1)⟩)], []⟩
def Zbt : FnH := ⟨[], []⟩
def Z1r : FnH := ⟨[(3, ⟨(bm 14349 34), [(3, 1)], (some 2)⟩)], []⟩
def Za0 : FnH := ⟨[], []⟩
noncomputable def Z8 : Hints := ⟨[(50, Z1l), (60, Z1x), (69, Z2j)], [(64, Tryz.f64, Z2b), (65, Tryz.f65, Z1q), (67, Tryz.f67, Zbt), (70, Tryz.f70, Z1r), (71, Tryz.f71, Za0)], []⟩
noncomputable def Z5n (m : Nat) (a0_0n : Nat) (a0_0c : Option Nat) (a0_0 : List D) (a1 : Int) (a2n : Nat) (a2c : Option Nat) (a2 : List D) (u0_0 : Int) (u0_1 : Nat) (u0_2 : Option Nat) (u0_3 : List D) (u0_4 : Nat) (u0_5 : Option Nat) (u0_6 : List D) : Option D :=
 cutK m (codeK Tryz.prog Z8.sp ⟨2, [], true, []⟩ (inlK Tryz.prog Z8 m 3) m Z2b (subc [1, 1, 1] (bodyOf Tryz.f64)) ⟨[.junk, (AV.d (D.v (.int .i64 u0_0))), (AV.ptr 2 0), .junk, .junk, .junk, .junk, .junk, .junk, .junk, .junk, .junk, .junk, .junk, .junk, .junk, .junk, .junk, .junk, .junk, .junk, .junk, .junk, .junk, .junk, .junk, .junk, .junk, .junk, .junk, .junk, .junk, .junk, .junk, .junk, .junk, .junk, .junk, .junk, .junk, .junk, .junk, .junk, .junk, .junk, .junk, .junk, .junk, .junk, .junk, .junk, .junk, .junk, .junk, .junk, .junk, .junk, .junk, .junk, .junk, .junk, .junk, .junk, .junk, .junk, .junk, .junk, .junk, .junk, .junk, .junk, .junk], [(Blk.d 1 [(D.list u0_1 u0_2 u0_3)]), (Blk.d 1 [(D.list 0 (some 0) [])]), (Blk.d 1 [(D.list u0_4 u0_5 u0_6)])]⟩
  (contK Tryz.prog Z8.sp ⟨2, [], true, []⟩ (inlK Tryz.prog Z8 m 3) m Z2b (endK Tryz.prog Tryz.f64 (fun v L => opsK Tryz.prog Z8.sp ⟨0, [], false, []⟩ [] (inlK Tryz.prog Z8 m 4) (regOps (subc [1, 0, 0] (bodyOf Tryz.f21))) (List.drop 3 (Array.toList (regOps (subc [1, 0, 0] (bodyOf Tryz.f21))))) ⟨setSl [(AV.d (D.agg [(D.list a0_0n a0_0c a0_0)])), (AV.d (D.v (.int .i64 a1))), (AV.d (D.list a2n a2c a2)), (AV.ptr 0 0), .junk, .junk, (AV.ptr 1 0), (AV.d zI), (AV.d zI), .junk, .junk, .junk, .junk, .junk, .junk, (AV.d (D.agg [(D.list a0_0n a0_0c a0_0)])), (AV.d (D.v (.int .i64 a1))), .junk, .junk, .junk, .junk, .junk, .junk, .junk, .junk, .junk, .junk, .junk, .junk, .junk, .junk, .junk, .junk, .junk, .junk, .junk, .junk, .junk, .junk, .junk, .junk, .junk, .junk, .junk, .junk, .junk, .junk, .junk, .junk, .junk, .junk, .junk, .junk, .junk, .junk, .junk, .junk] (some 17) v, L⟩ (fun st => contK Tryz.prog Z8.sp ⟨0, [], false, []⟩ (inlK Tryz.prog Z8 m 4) m Zk (endK Tryz.prog Tryz.f21 (fun v L => viewK L 8 v some)) [.code (subc [1, 0, 1] (bodyOf Tryz.f21)), .scope (subc [1, 0] (bodyOf Tryz.f21)) m] .normal st))) []))
noncomputable def Z2c (m n0 : Nat) (a0_0n : Nat) (a0_0c : Option Nat) (a0_0 : List D) (a1 : Int) (a2n : Nat) (a2c : Option Nat) (a2 : List D) (y0_0 : Nat) (y0_1 : Option Nat) (y0_2 : List D) (y0_3 : Int) (y0_4 : Int) (y0_5 : Nat) (y0_6 : Option Nat) (y0_7 : List D) (y0_8 : Nat) (y0_9 : List D) (y0_10 : List D) (y0_11 : List D) (y0_12 : Int) (y0_13 : Nat) : Option D :=
 loopIter (bm 481036337408 72) 2 7 (codeK Tryz.prog Z8.sp ⟨2, [], true, []⟩ (inlK Tryz.prog Z8 m 3) m Z2b (subc [1, 1, 1, 1, 1, 0, 1, 0, 0] (bodyOf Tryz.f64))) n0 ⟨[.junk, .junk, .junk, .junk, .junk, .junk, .junk, .junk, (AV.ptr 6 0), .junk, .junk, .junk, .junk, .junk, .junk, .junk, .junk, .junk, .junk, .junk, .junk, .junk, .junk, .junk, .junk, .junk, .junk, .junk, .junk, .junk, .junk, .junk, .junk, .junk, .junk, .junk, (AV.d (D.list y0_0 y0_1 y0_2)), (AV.d (D.v (.int .i64 y0_3))), (AV.d (D.v (.int .i64 y0_4))), .junk, .junk, .junk, .junk, .junk, .junk, .junk, .junk, .junk, .junk, .junk, .junk, .junk, .junk, .junk, .junk, .junk, .junk, .junk, .junk, .junk, .junk, .junk, .junk, .junk, .junk, .junk, .junk, .junk, .junk, .junk, .junk, .junk], [(Blk.d 1 [(D.list y0_5 y0_6 y0_7)]), (Blk.d 1 [(D.list 0 (some 0) [])]), (Blk.d 1 [(D.list y0_0 y0_1 y0_2)]), (Blk.d y0_8 y0_9), (Blk.d y0_8 y0_10), (Blk.d y0_8 y0_11), (Blk.a 5 [(AV.d (D.list y0_0 y0_1 y0_2)), (AV.d (D.v (.int .i64 y0_12))), (AV.sl 3 0 y0_13 (some y0_13) 1), (AV.sl 4 0 y0_13 (some y0_13) 1), (AV.sl 5 0 y0_13 (some y0_13) 1)])]⟩
  (contK Tryz.prog Z8.sp ⟨2, [], true, []⟩ (inlK Tryz.prog Z8 m 3) m Z2b (endK Tryz.prog Tryz.f64 (fun v L => opsK Tryz.prog Z8.sp ⟨0, [], false, []⟩ [] (inlK Tryz.prog Z8 m 4) (regOps (subc [1, 0, 0] (bodyOf Tryz.f21))) (List.drop 3 (Array.toList (regOps (subc [1, 0, 0] (bodyOf Tryz.f21))))) ⟨setSl [(AV.d (D.agg [(D.list a0_0n a0_0c a0_0)])), (AV.d (D.v (.int .i64 a1))), (AV.d (D.list a2n a2c a2)), (AV.ptr 0 0), .junk, .junk, (AV.ptr 1 0), (AV.d zI), (AV.d zI), .junk, .junk, .junk, .junk, .junk, .junk, (AV.d (D.agg [(D.list a0_0n a0_0c a0_0)])), (AV.d (D.v (.int .i64 a1))), .junk, .junk, .junk, .junk, .junk, .junk, .junk, .junk, .junk, .junk, .junk, .junk, .junk, .junk, .junk, .junk, .junk, .junk, .junk, .junk, .junk, .junk, .junk, .junk, .junk, .junk, .junk, .junk, .junk, .junk, .junk, .junk, .junk, .junk, .junk, .junk, .junk, .junk, .junk, .junk] (some 17) v, L⟩ (fun st => contK Tryz.prog Z8.sp ⟨0, [], false, []⟩ (inlK Tryz.prog Z8 m 4) m Zk (endK Tryz.prog Tryz.f21 (fun v L => viewK L 8 v some)) [.code (subc [1, 0, 1] (bodyOf Tryz.f21)), .scope (subc [1, 0] (bodyOf Tryz.f21)) m] .normal st))) [.block 0, .code (subc [1, 1, 1, 1, 1, 1] (bodyOf Tryz.f64))])
noncomputable def Zr (m n0 : Nat) (a0_0n : Nat) (a0_0c : Option Nat) (a0_0 : List D) (a1 : Int) (a2n : Nat) (a2c : Option Nat) (a2 : List D) (y1_0 : Nat) (y1_1 : Int) (y1_2 : Int) (y1_3 : Nat) (y1_4 : Option Nat) (y1_5 : List D) (y1_6 : Nat) (y1_7 : Option Nat) (y1_8 : List D) (y1_9 : Nat) (y1_10 : List D) (y1_11 : List D) (y1_12 : List D) (y1_13 : Int) (y1_14 : Nat) (y1_15 : Nat) (y1_16 : List D) : Option D :=
 loopIter (bm 1545 23) 7 8 (codeK Tryz.prog Z8.sp ⟨7, [2, 3, 4, 5], true, []⟩ (inlK Tryz.prog Z8 m 3) m Z1q (subc [1, 1, 0, 1, 0, 0] (bodyOf Tryz.f65))) n0 ⟨[(AV.ptr 6 0), .junk, .junk, (AV.sl 7 0 y1_0 none 1), .junk, .junk, .junk, .junk, .junk, (AV.d (D.v (.int .i64 y1_1))), (AV.d (D.v (.int .i64 y1_2))), .junk, .junk, .junk, .junk, .junk, .junk, .junk, .junk, .junk, .junk, .junk, .junk], [(Blk.d 1 [(D.list y1_3 y1_4 y1_5)]), (Blk.d 1 [(D.list 0 (some 0) [])]), (Blk.d 1 [(D.list y1_6 y1_7 y1_8)]), (Blk.d y1_9 y1_10), (Blk.d y1_9 y1_11), (Blk.d y1_9 y1_12), (Blk.a 5 [(AV.d (D.list y1_6 y1_7 y1_8)), (AV.d (D.v (.int .i64 y1_13))), (AV.sl 3 0 y1_14 (some y1_14) 1), (AV.sl 4 0 y1_14 (some y1_14) 1), (AV.sl 5 0 y1_14 (some y1_14) 1)]), (Blk.d y1_15 y1_16)]⟩
  (contK Tryz.prog Z8.sp ⟨7, [2, 3, 4, 5], true, []⟩ (inlK Tryz.prog Z8 m 3) m Z1q (endK Tryz.prog Tryz.f65 (fun v L => opsK Tryz.prog Z8.sp ⟨0, [], false, []⟩ [] (inlK Tryz.prog Z8 m 4) (regOps (subc [1, 0, 1, 1, 1, 1, 0] (bodyOf Tryz.f21))) (List.drop 2 (Array.toList (regOps (subc [1, 0, 1, 1, 1, 1, 0] (bodyOf Tryz.f21))))) ⟨setSl [(AV.d (D.agg [(D.list a0_0n a0_0c a0_0)])), (AV.d (D.v (.int .i64 a1))), (AV.d (D.list a2n a2c a2)), (AV.ptr 0 0), .junk, .junk, (AV.ptr 1 0), (AV.d zI), (AV.d zI), (AV.ptr 6 0), (AV.d zI), (AV.d zI), .junk, .junk, (AV.tup [(AV.ptr 6 0), (AV.d zI)]), (AV.d (D.agg [(D.list a0_0n a0_0c a0_0)])), (AV.d (D.v (.int .i64 a1))), (AV.tup [(AV.ptr 6 0), (AV.d zI)]), (AV.ptr 6 0), (AV.d zI), (AV.d zI), (AV.d (D.v (.bool false))), .junk, .junk, (AV.ptr 6 0), .junk, .junk, .junk, .junk, .junk, .junk, .junk, .junk, .junk, .junk, .junk, .junk, .junk, .junk, .junk, .junk, .junk, .junk, .junk, .junk, .junk, .junk, .junk, .junk, .junk, .junk, .junk, .junk, .junk, .junk, .junk, .junk] (some 25) v, L⟩ (fun st => contK Tryz.prog Z8.sp ⟨0, [], false, []⟩ (inlK Tryz.prog Z8 m 4) m Zk (endK Tryz.prog Tryz.f21 (fun v L => viewK L 8 v some)) [.code (subc [1, 0, 1, 1, 1, 1, 1] (bodyOf Tryz.f21)), .scope (subc [1, 0] (bodyOf Tryz.f21)) m] .normal st))) [.block 0, .code (subc [1, 1, 1] (bodyOf Tryz.f65))])
noncomputable def Za (m n0 : Nat) (y2_0 : Nat) (y2_1 : Option Nat) (y2_2 : List D) (y2_3 : Int) (y2_4 : Nat) (y2_5 : Option Nat) (y2_6 : List D) (y2_7 : Nat) (y2_8 : Option Nat) (y2_9 : List D) (y2_10 : Nat) (y2_11 : List D) (y2_12 : Nat) (y2_13 : List D) (y2_14 : Nat) (y2_15 : List D) (y2_16 : Nat) (y2_17 : Option Nat) (y2_18 : List D) (y2_19 : Int) (y2_20 : Nat) (y2_21 : Nat) (y2_22 : Nat) (y2_23 : Nat) (y2_24 : Nat) (y2_25 : Nat) : Option D :=
 scopeAt ⟨0, [], false, []⟩ Zk (subc [1, 0] (bodyOf Tryz.f21)) (fun l => codeF Tryz.prog Z8.sp ⟨0, [], false, []⟩ (inlK Tryz.prog Z8 m 4) m Zk (subc [1, 0] (bodyOf Tryz.f21)) (some l)) (contK Tryz.prog Z8.sp ⟨0, [], false, []⟩ (inlK Tryz.prog Z8 m 4) m Zk (endK Tryz.prog Tryz.f21 (fun v L => viewK L 8 v some)) []) n0 0 ⟨[.junk, .junk, (AV.d (D.list y2_0 y2_1 y2_2)), .junk, .junk, .junk, (AV.ptr 1 0), .junk, .junk, (AV.ptr 6 0), .junk, (AV.d (D.v (.int .i64 y2_3))), .junk, .junk, .junk, .junk, .junk, .junk, .junk, .junk, .junk, .junk, .junk, .junk, .junk, .junk, .junk, .junk, .junk, .junk, .junk, .junk, .junk, .junk, .junk, .junk, .junk, .junk, .junk, .junk, .junk, .junk, .junk, .junk, .junk, .junk, .junk, .junk, .junk, .junk, .junk, .junk, .junk, .junk, .junk, .junk, .junk], [(Blk.d 1 [(D.list y2_4 y2_5 y2_6)]), (Blk.d 1 [(D.list 0 (some 0) [])]), (Blk.d 1 [(D.list y2_7 y2_8 y2_9)]), (Blk.d y2_10 y2_11), (Blk.d y2_12 y2_13), (Blk.d y2_14 y2_15), (Blk.a 5 [(AV.d (D.list y2_16 y2_17 y2_18)), (AV.d (D.v (.int .i64 y2_19))), (AV.sl 3 0 y2_20 (some y2_21) 1), (AV.sl 4 0 y2_22 (some y2_23) 1), (AV.sl 5 0 y2_24 (some y2_25) 1)])]⟩
noncomputable def Zz (m n0 n1 : Nat) (y2_0 : Nat) (y2_1 : Option Nat) (y2_2 : List D) (y2_3 : Int) (y3_0 : Nat) (y3_1 : Int) (y3_2 : Int) (y3_3 : Nat) (y3_4 : Option Nat) (y3_5 : List D) (y3_6 : Nat) (y3_7 : Option Nat) (y3_8 : List D) (y3_9 : Nat) (y3_10 : List D) (y3_11 : Nat) (y3_12 : List D) (y3_13 : Nat) (y3_14 : List D) (y3_15 : Nat) (y3_16 : Option Nat) (y3_17 : List D) (y3_18 : Int) (y3_19 : Nat) (y3_20 : Nat) (y3_21 : Nat) (y3_22 : Nat) (y3_23 : Nat) (y3_24 : Nat) (y3_25 : Nat) (y3_26 : List D) : Option D :=
 loopIter (bm 1545 23) 7 8 (codeK Tryz.prog Z8.sp ⟨7, [0, 2, 3, 4, 5], true, []⟩ (inlK Tryz.prog Z8 m 3) m Z1q (subc [1, 1, 0, 1, 0, 0] (bodyOf Tryz.f65))) n1 ⟨[(AV.ptr 6 0), .junk, .junk, (AV.sl 7 0 y3_0 none 1), .junk, .junk, .junk, .junk, .junk, (AV.d (D.v (.int .i64 y3_1))), (AV.d (D.v (.int .i64 y3_2))), .junk, .junk, .junk, .junk, .junk, .junk, .junk, .junk, .junk, .junk, .junk, .junk], [(Blk.d 1 [(D.list y3_3 y3_4 y3_5)]), (Blk.d 1 [(D.list 0 (some 0) [])]), (Blk.d 1 [(D.list y3_6 y3_7 y3_8)]), (Blk.d y3_9 y3_10), (Blk.d y3_11 y3_12), (Blk.d y3_13 y3_14), (Blk.a 5 [(AV.d (D.list y3_15 y3_16 y3_17)), (AV.d (D.v (.int .i64 y3_18))), (AV.sl 3 0 y3_19 (some y3_20) 1), (AV.sl 4 0 y3_21 (some y3_22) 1), (AV.sl 5 0 y3_23 (some y3_24) 1)]), (Blk.d y3_25 y3_26)]⟩
  (contK Tryz.prog Z8.sp ⟨7, [0, 2, 3, 4, 5], true, []⟩ (inlK Tryz.prog Z8 m 3) m Z1q (endK Tryz.prog Tryz.f65 (fun v L => opsK Tryz.prog Z8.sp ⟨0, [], false, []⟩ [] (inlK Tryz.prog Z8 m 4) (regOps (subc [1, 0, 1, 1, 1, 1, 0] (bodyOf Tryz.f21))) (List.drop 2 (Array.toList (regOps (subc [1, 0, 1, 1, 1, 1, 0] (bodyOf Tryz.f21))))) ⟨setSl [.junk, .junk, (AV.d (D.list y2_0 y2_1 y2_2)), .junk, .junk, .junk, (AV.ptr 1 0), .junk, .junk, (AV.ptr 6 0), .junk, (AV.d (D.v (.int .i64 y2_3))), .junk, .junk, .junk, .junk, .junk, .junk, .junk, .junk, .junk, .junk, .junk, .junk, (AV.ptr 6 0), .junk, .junk, .junk, .junk, .junk, .junk, .junk, .junk, .junk, .junk, .junk, .junk, .junk, .junk, .junk, .junk, .junk, .junk, .junk, .junk, .junk, .junk, .junk, .junk, .junk, .junk, .junk, .junk, .junk, .junk, .junk, .junk] (some 25) v, L⟩ (fun st => contK Tryz.prog Z8.sp ⟨0, [], false, []⟩ (inlK Tryz.prog Z8 m 4) m Zk (endK Tryz.prog Tryz.f21 (fun v L => viewK L 8 v some)) [.code (subc [1, 0, 1, 1, 1, 1, 1] (bodyOf Tryz.f21)), .scope (subc [1, 0] (bodyOf Tryz.f21)) n0] .normal st))) [.block 0, .code (subc [1, 1, 1] (bodyOf Tryz.f65))])
noncomputable def Z1b (m n0 n1 : Nat) (y2_0 : Nat) (y2_1 : Option Nat) (y2_2 : List D) (y2_3 : Int) (q96 : Sl) (y4_0 : Nat) (y4_1 : Nat) (y4_2 : Nat) (y4_3 : Int) (y4_4 : Int) (y4_5 : Nat) (y4_6 : Option Nat) (y4_7 : List D) (y4_8 : Nat) (y4_9 : Option Nat) (y4_10 : List D) (y4_11 : Nat) (y4_12 : List D) (y4_13 : Nat) (y4_14 : List D) (y4_15 : Nat) (y4_16 : List D) (y4_17 : Nat) (y4_18 : Option Nat) (y4_19 : List D) (y4_20 : Int) (y4_21 : Nat) (y4_22 : Nat) (y4_23 : Nat) (y4_24 : Nat) (y4_25 : Nat) (y4_26 : List D) : Option D :=
 loopIter (bm 14349 34) 8 10 (codeK Tryz.prog Z8.sp ⟨8, [0, 2, 3, 4, 5], true, []⟩ (inlK Tryz.prog Z8 m 3) m Z1r (subc [1, 1, 0, 1, 0, 0] (bodyOf Tryz.f70))) n1 ⟨[(AV.ptr 6 0), .junk, (AV.ptr 8 0), (AV.sl 9 0 y4_0 none 1), .junk, .junk, .junk, .junk, .junk, .junk, .junk, (AV.sl 5 0 y4_1 (some y4_2) 1), (AV.d (D.v (.int .i64 y4_3))), (AV.d (D.v (.int .i64 y4_4))), .junk, .junk, .junk, .junk, .junk, .junk, .junk, .junk, .junk, .junk, .junk, .junk, .junk, .junk, .junk, .junk, .junk, .junk, .junk, .junk], [(Blk.d 1 [(D.list y4_5 y4_6 y4_7)]), (Blk.d 1 [(D.list 0 (some 0) [])]), (Blk.d 1 [(D.list y4_8 y4_9 y4_10)]), (Blk.d y4_11 y4_12), (Blk.d y4_13 y4_14), (Blk.d y4_15 y4_16), (Blk.a 5 [(AV.d (D.list y4_17 y4_18 y4_19)), (AV.d (D.v (.int .i64 y4_20))), (AV.sl 3 0 y4_21 (some y4_22) 1), (AV.sl 4 0 y4_23 (some y4_24) 1), (AV.sl 5 0 y4_1 (some y4_2) 1)]), Blk.dead, (Blk.d 1 [(D.list 0 (some 0) [])]), (Blk.d y4_25 y4_26)]⟩
  (contK Tryz.prog Z8.sp ⟨8, [0, 2, 3, 4, 5], true, []⟩ (inlK Tryz.prog Z8 m 3) m Z1r (endK Tryz.prog Tryz.f70 (fun v L => opsK Tryz.prog Z8.sp ⟨0, [], false, []⟩ [] (inlK Tryz.prog Z8 m 4) (regOps (subc [1, 0, 1, 1, 1, 1, 1, 1, 0] (bodyOf Tryz.f21))) (List.drop 2 (Array.toList (regOps (subc [1, 0, 1, 1, 1, 1, 1, 1, 0] (bodyOf Tryz.f21))))) ⟨setSl [.junk, .junk, (AV.d (D.list y2_0 y2_1 y2_2)), .junk, .junk, .junk, (AV.ptr 1 0), .junk, .junk, (AV.ptr 6 0), .junk, (AV.d (D.v (.int .i64 y2_3))), (AV.d (D.list q96.n q96.cap q96.cs)), .junk, .junk, .junk, .junk, .junk, .junk, .junk, .junk, .junk, .junk, .junk, (AV.ptr 6 0), (AV.d (D.list q96.n q96.cap q96.cs)), (AV.d (D.list q96.n q96.cap q96.cs)), (AV.d (D.v (.int .i64 ((q96.n : Nat) : Int)))), (AV.d (D.v (.bool false))), .junk, .junk, .junk, .junk, .junk, .junk, .junk, .junk, .junk, .junk, .junk, .junk, .junk, .junk, .junk, .junk, .junk, .junk, .junk, .junk, .junk, .junk, .junk, .junk, .junk, (AV.ptr 6 0), .junk, .junk] (some 55) v, L⟩ (fun st => contK Tryz.prog Z8.sp ⟨0, [], false, []⟩ (inlK Tryz.prog Z8 m 4) m Zk (endK Tryz.prog Tryz.f21 (fun v L => viewK L 8 v some)) [.code (subc [1, 0, 1, 1, 1, 1, 1, 1, 1] (bodyOf Tryz.f21)), .scope (subc [1, 0] (bodyOf Tryz.f21)) n0] .normal st))) [.block 0, .code (subc [1, 1, 1] (bodyOf Tryz.f70))])
theorem Zbu (m n0 n1 : Nat) (y2_0 : Nat) (y2_1 : Option Nat) (y2_2 : List D) (y2_3 : Int) (q96 : Sl) (y4_0 : Nat) (y4_1 : Nat) (y4_2 : Nat) (y4_3 : Int) (y4_4 : Int) (y4_5 : Nat) (y4_6 : Option Nat) (y4_7 : List D) (y4_8 : Nat) (y4_9 : Option Nat) (y4_10 : List D) (y4_11 : Nat) (y4_12 : List D) (y4_13 : Nat) (y4_14 : List D) (y4_15 : Nat) (y4_16 : List D) (y4_17 : Nat) (y4_18 : Option Nat) (y4_19 : List D) (y4_20 : Int) (y4_21 : Nat) (y4_22 : Nat) (y4_23 : Nat) (y4_24 : Nat) (y4_25 : Nat) (y4_26 : List D) : Z1b m n0 (n1 + 1) y2_0 y2_1 y2_2 y2_3 q96 y4_0 y4_1 y4_2 y4_3 y4_4 y4_5 y4_6 y4_7 y4_8 y4_9 y4_10 y4_11 y4_12 y4_13 y4_14 y4_15 y4_16 y4_17 y4_18 y4_19 y4_20 y4_21 y4_22 y4_23 y4_24 y4_25 y4_26 =
 (cond (decide (y4_4 < y4_3))
 (if 0 ≤ y4_4 ∧ y4_4 < ((y4_1 : Nat) : Int) then
 (rdB y4_16[(0 + ((Int.toNat y4_4) * 1))]?).bind fun b109 =>
 cond b109
 (if ownB ⟨8, [0, 2, 3, 4, 5], true, []⟩ 9 = true ∧ y4_25 = (y4_0 * 1) ∧ fitsRow (y4_0 + 1) 8 ∧ 1 = 1 then
 Z1b m n0 n1 y2_0 y2_1 y2_2 y2_3 q96 (y4_0 + 1) y4_1 y4_2 y4_3 (IntKind.wrap .i64 (y4_4 + (1 : Int))) y4_5 y4_6 y4_7 y4_8 y4_9 y4_10 y4_11 y4_12 y4_13 y4_14 y4_15 y4_16 y4_17 y4_18 y4_19 y4_20 y4_21 y4_22 y4_23 y4_24 ((y4_0 + 1) * 1) (y4_26 ++ [(D.v (.int .i64 y4_4))])
 else none)
 (Z1b m n0 n1 y2_0 y2_1 y2_2 y2_3 q96 y4_0 y4_1 y4_2 y4_3 (IntKind.wrap .i64 (y4_4 + (1 : Int))) y4_5 y4_6 y4_7 y4_8 y4_9 y4_10 y4_11 y4_12 y4_13 y4_14 y4_15 y4_16 y4_17 y4_18 y4_19 y4_20 y4_21 y4_22 y4_23 y4_24 y4_25 y4_26)
 else none)
 (if (0 + (y4_0 * 1)) ≤ y4_25 then
 (Z1l [(D.agg [(D.list y4_17 y4_18 y4_19)]), (D.list y4_0 none (cutL y4_25 y4_26 0 (y4_0 * 1)))]).bind fun d110 =>
 (rdT d110).bind fun r111 =>
 if List.length r111 = 2 then
 (rdA r111[0]?).bind fun c112 =>
 (rdI .i64 r111[1]?).bind fun x113 =>
 if (0 + (y4_0 * 1)) ≤ y4_25 then
 if (0 + (y4_0 * 1)) ≤ y4_25 then
 if (List.length c112) = 1 then
 if (List.length c112) = 1 then
 if (List.length c112) = 1 then
 some (D.tup [(D.agg c112), (D.v (.int .i64 y2_3)), zI])
 else none
 else none
 else none
 else none
 else none
 else none
 else none)) := by kernel_rfl
theorem Zam (m n0 n1 : Nat) (y2_0 : Nat) (y2_1 : Option Nat) (y2_2 : List D) (y2_3 : Int) (y3_0 : Nat) (y3_1 : Int) (y3_2 : Int) (y3_3 : Nat) (y3_4 : Option Nat) (y3_5 : List D) (y3_6 : Nat) (y3_7 : Option Nat) (y3_8 : List D) (y3_9 : Nat) (y3_10 : List D) (y3_11 : Nat) (y3_12 : List D) (y3_13 : Nat) (y3_14 : List D) (y3_15 : Nat) (y3_16 : Option Nat) (y3_17 : List D) (y3_18 : Int) (y3_19 : Nat) (y3_20 : Nat) (y3_21 : Nat) (y3_22 : Nat) (y3_23 : Nat) (y3_24 : Nat) (y3_25 : Nat) (y3_26 : List D) : Zz m n0 (n1 + 1) y2_0 y2_1 y2_2 y2_3 y3_0 y3_1 y3_2 y3_3 y3_4 y3_5 y3_6 y3_7 y3_8 y3_9 y3_10 y3_11 y3_12 y3_13 y3_14 y3_15 y3_16 y3_17 y3_18 y3_19 y3_20 y3_21 y3_22 y3_23 y3_24 y3_25 y3_26 =
 (cond (decide (y3_2 < y3_1))
 (if 0 ≤ y3_2 ∧ y3_2 < ((y3_23 : Nat) : Int) then
 (rdB y3_14[(0 + ((Int.toNat y3_2) * 1))]?).bind fun b92 =>
 cond (!b92)
 (if 0 ≤ y3_2 ∧ y3_2 < ((y3_19 : Nat) : Int) then
 (rdI .i64 y3_10[(0 + ((Int.toNat y3_2) * 1))]?).bind fun x93 =>
 cond (decide (x93 < y3_18))
 (if 0 ≤ y3_2 ∧ y3_2 < ((y3_21 : Nat) : Int) then
 (rdI .i64 y3_12[(0 + ((Int.toNat y3_2) * 1))]?).bind fun x94 =>
 cond (x94 == (0 : Int))
 (if ownB ⟨7, [0, 2, 3, 4, 5], true, []⟩ 7 = true ∧ y3_25 = (y3_0 * 1) ∧ fitsRow (y3_0 + 1) 8 ∧ 1 = 1 then
 Zz m n0 n1 y2_0 y2_1 y2_2 y2_3 (y3_0 + 1) y3_1 (IntKind.wrap .i64 (y3_2 + (1 : Int))) y3_3 y3_4 y3_5 y3_6 y3_7 y3_8 y3_9 y3_10 y3_11 y3_12 y3_13 y3_14 y3_15 y3_16 y3_17 y3_18 y3_19 y3_20 y3_21 y3_22 y3_23 y3_24 ((y3_0 + 1) * 1) (y3_26 ++ [(D.v (.int .i64 y3_2))])
 else none)
 (Zz m n0 n1 y2_0 y2_1 y2_2 y2_3 y3_0 y3_1 (IntKind.wrap .i64 (y3_2 + (1 : Int))) y3_3 y3_4 y3_5 y3_6 y3_7 y3_8 y3_9 y3_10 y3_11 y3_12 y3_13 y3_14 y3_15 y3_16 y3_17 y3_18 y3_19 y3_20 y3_21 y3_22 y3_23 y3_24 y3_25 y3_26)
 else none)
 (Zz m n0 n1 y2_0 y2_1 y2_2 y2_3 y3_0 y3_1 (IntKind.wrap .i64 (y3_2 + (1 : Int))) y3_3 y3_4 y3_5 y3_6 y3_7 y3_8 y3_9 y3_10 y3_11 y3_12 y3_13 y3_14 y3_15 y3_16 y3_17 y3_18 y3_19 y3_20 y3_21 y3_22 y3_23 y3_24 y3_25 y3_26)
 else none)
 (Zz m n0 n1 y2_0 y2_1 y2_2 y2_3 y3_0 y3_1 (IntKind.wrap .i64 (y3_2 + (1 : Int))) y3_3 y3_4 y3_5 y3_6 y3_7 y3_8 y3_9 y3_10 y3_11 y3_12 y3_13 y3_14 y3_15 y3_16 y3_17 y3_18 y3_19 y3_20 y3_21 y3_22 y3_23 y3_24 y3_25 y3_26)
 else none)
 (if (0 + (y3_0 * 1)) ≤ y3_25 then
 (Z2j [(D.list y3_0 none (cutL y3_25 y3_26 0 (y3_0 * 1)))]).bind fun d95 =>
 (rdL (some d95)).bind fun q96 =>
 if (0 + (y3_0 * 1)) ≤ y3_25 then
 if (0 + (y3_0 * 1)) ≤ y3_25 then
 cond (decide (((q96.n : Nat) : Int) > (0 : Int)))
 (cond (decide (y2_3 < ((y2_0 : Nat) : Int)))
 (if 0 ≤ y2_3 ∧ y2_3 < ((y2_0 : Nat) : Int) then
 (rdI .i64 y2_2[((Int.toNat y2_3) * 1)]?).bind fun x97 =>
 if ((q96.n : Nat) : Int) = 0 then none else
 cond (decide ((Int.tmod x97 ((q96.n : Nat) : Int)) < (0 : Int)))
 (if 0 ≤ (IntKind.wrap .i64 ((Int.tmod x97 ((q96.n : Nat) : Int)) + ((q96.n : Nat) : Int))) ∧ (IntKind.wrap .i64 ((Int.tmod x97 ((q96.n : Nat) : Int)) + ((q96.n : Nat) : Int))) < ((q96.n : Nat) : Int) then
 (rdI .i64 q96.cs[((Int.toNat (IntKind.wrap .i64 ((Int.tmod x97 ((q96.n : Nat) : Int)) + ((q96.n : Nat) : Int)))) * 1)]?).bind fun x98 =>
 if 0 ≤ x98 ∧ x98 < ((y3_23 : Nat) : Int) then
 if 1 = 1 ∧ (0 + ((Int.toNat x98) * 1)) < y3_13 then
 cond (decide (x98 > (0 : Int)))
 (if 0 ≤ x98 ∧ x98 < ((y3_15 : Nat) : Int) then
 (rdI .i64 y3_17[(((Int.toNat x98) * 20) + 0)]?).bind fun x99 =>
 if 0 ≤ x99 ∧ x99 < ((y3_21 : Nat) : Int) then
 (rdI .i64 y3_12[(0 + ((Int.toNat x99) * 1))]?).bind fun x100 =>
 if 0 ≤ x99 ∧ x99 < ((y3_21 : Nat) : Int) then
 if 1 = 1 ∧ (0 + ((Int.toNat x99) * 1)) < y3_11 then
 Za m n0 y2_0 y2_1 y2_2 (IntKind.wrap .i64 (y2_3 + (1 : Int))) y3_3 y3_4 y3_5 y3_6 y3_7 y3_8 y3_9 y3_10 y3_11 (List.set y3_12 (0 + ((Int.toNat x99) * 1)) (D.v (.int .i64 (IntKind.wrap .i64 (x100 - (1 : Int)))))) y3_13 (List.set y3_14 (0 + ((Int.toNat x98) * 1)) (D.v (.bool true))) y3_15 y3_16 y3_17 y3_18 y3_19 y3_20 y3_21 y3_22 y3_23 y3_24
 else none
 else none
 else none
 else none)
 (Za m n0 y2_0 y2_1 y2_2 (IntKind.wrap .i64 (y2_3 + (1 : Int))) y3_3 y3_4 y3_5 y3_6 y3_7 y3_8 y3_9 y3_10 y3_11 y3_12 y3_13 (List.set y3_14 (0 + ((Int.toNat x98) * 1)) (D.v (.bool true))) y3_15 y3_16 y3_17 y3_18 y3_19 y3_20 y3_21 y3_22 y3_23 y3_24)
 else none
 else none
 else none)
 (if 0 ≤ (Int.tmod x97 ((q96.n : Nat) : Int)) ∧ (Int.tmod x97 ((q96.n : Nat) : Int)) < ((q96.n : Nat) : Int) then
 (rdI .i64 q96.cs[((Int.toNat (Int.tmod x97 ((q96.n : Nat) : Int))) * 1)]?).bind fun x101 =>
 if 0 ≤ x101 ∧ x101 < ((y3_23 : Nat) : Int) then
 if 1 = 1 ∧ (0 + ((Int.toNat x101) * 1)) < y3_13 then
 cond (decide (x101 > (0 : Int)))
 (if 0 ≤ x101 ∧ x101 < ((y3_15 : Nat) : Int) then
 (rdI .i64 y3_17[(((Int.toNat x101) * 20) + 0)]?).bind fun x102 =>
 if 0 ≤ x102 ∧ x102 < ((y3_21 : Nat) : Int) then
 (rdI .i64 y3_12[(0 + ((Int.toNat x102) * 1))]?).bind fun x103 =>
 if 0 ≤ x102 ∧ x102 < ((y3_21 : Nat) : Int) then
 if 1 = 1 ∧ (0 + ((Int.toNat x102) * 1)) < y3_11 then
 Za m n0 y2_0 y2_1 y2_2 (IntKind.wrap .i64 (y2_3 + (1 : Int))) y3_3 y3_4 y3_5 y3_6 y3_7 y3_8 y3_9 y3_10 y3_11 (List.set y3_12 (0 + ((Int.toNat x102) * 1)) (D.v (.int .i64 (IntKind.wrap .i64 (x103 - (1 : Int)))))) y3_13 (List.set y3_14 (0 + ((Int.toNat x101) * 1)) (D.v (.bool true))) y3_15 y3_16 y3_17 y3_18 y3_19 y3_20 y3_21 y3_22 y3_23 y3_24
 else none
 else none
 else none
 else none)
 (Za m n0 y2_0 y2_1 y2_2 (IntKind.wrap .i64 (y2_3 + (1 : Int))) y3_3 y3_4 y3_5 y3_6 y3_7 y3_8 y3_9 y3_10 y3_11 y3_12 y3_13 (List.set y3_14 (0 + ((Int.toNat x101) * 1)) (D.v (.bool true))) y3_15 y3_16 y3_17 y3_18 y3_19 y3_20 y3_21 y3_22 y3_23 y3_24)
 else none
 else none
 else none)
 else none)
 (if 0 ≤ (0 : Int) ∧ (0 : Int) < ((q96.n : Nat) : Int) then
 (rdI .i64 q96.cs[0]?).bind fun x104 =>
 if 0 ≤ x104 ∧ x104 < ((y3_23 : Nat) : Int) then
 if 1 = 1 ∧ (0 + ((Int.toNat x104) * 1)) < y3_13 then
 cond (decide (x104 > (0 : Int)))
 (if 0 ≤ x104 ∧ x104 < ((y3_15 : Nat) : Int) then
 (rdI .i64 y3_17[(((Int.toNat x104) * 20) + 0)]?).bind fun x105 =>
 if 0 ≤ x105 ∧ x105 < ((y3_21 : Nat) : Int) then
 (rdI .i64 y3_12[(0 + ((Int.toNat x105) * 1))]?).bind fun x106 =>
 if 0 ≤ x105 ∧ x105 < ((y3_21 : Nat) : Int) then
 if 1 = 1 ∧ (0 + ((Int.toNat x105) * 1)) < y3_11 then
 Za m n0 y2_0 y2_1 y2_2 (IntKind.wrap .i64 (y2_3 + (1 : Int))) y3_3 y3_4 y3_5 y3_6 y3_7 y3_8 y3_9 y3_10 y3_11 (List.set y3_12 (0 + ((Int.toNat x105) * 1)) (D.v (.int .i64 (IntKind.wrap .i64 (x106 - (1 : Int)))))) y3_13 (List.set y3_14 (0 + ((Int.toNat x104) * 1)) (D.v (.bool true))) y3_15 y3_16 y3_17 y3_18 y3_19 y3_20 y3_21 y3_22 y3_23 y3_24
 else none
 else none
 else none
 else none)
 (Za m n0 y2_0 y2_1 y2_2 (IntKind.wrap .i64 (y2_3 + (1 : Int))) y3_3 y3_4 y3_5 y3_6 y3_7 y3_8 y3_9 y3_10 y3_11 y3_12 y3_13 (List.set y3_14 (0 + ((Int.toNat x104) * 1)) (D.v (.bool true))) y3_15 y3_16 y3_17 y3_18 y3_19 y3_20 y3_21 y3_22 y3_23 y3_24)
 else none
 else none
 else none))
 (Z1b m n0 m y2_0 y2_1 y2_2 y2_3 q96 0 y3_23 y3_24 ((y3_23 : Nat) : Int) (0 : Int) y3_3 y3_4 y3_5 y3_6 y3_7 y3_8 y3_9 y3_10 y3_11 y3_12 y3_13 y3_14 y3_15 y3_16 y3_17 y3_18 y3_19 y3_20 y3_21 y3_22 0 [])
 else none
 else none
 else none)) := by kernel_rfl
theorem Zki (m n0 : Nat) (y2_0 : Nat) (y2_1 : Option Nat) (y2_2 : List D) (y2_3 : Int) (y2_4 : Nat) (y2_5 : Option Nat) (y2_6 : List D) (y2_7 : Nat) (y2_8 : Option Nat) (y2_9 : List D) (y2_10 : Nat) (y2_11 : List D) (y2_12 : Nat) (y2_13 : List D) (y2_14 : Nat) (y2_15 : List D) (y2_16 : Nat) (y2_17 : Option Nat) (y2_18 : List D) (y2_19 : Int) (y2_20 : Nat) (y2_21 : Nat) (y2_22 : Nat) (y2_23 : Nat) (y2_24 : Nat) (y2_25 : Nat) : Za m (n0 + 1) y2_0 y2_1 y2_2 y2_3 y2_4 y2_5 y2_6 y2_7 y2_8 y2_9 y2_10 y2_11 y2_12 y2_13 y2_14 y2_15 y2_16 y2_17 y2_18 y2_19 y2_20 y2_21 y2_22 y2_23 y2_24 y2_25 =
 (Zz m n0 m y2_0 y2_1 y2_2 y2_3 0 ((y2_24 : Nat) : Int) (0 : Int) y2_4 y2_5 y2_6 y2_7 y2_8 y2_9 y2_10 y2_11 y2_12 y2_13 y2_14 y2_15 y2_16 y2_17 y2_18 y2_19 y2_20 y2_21 y2_22 y2_23 y2_24 y2_25 0 []) := by kernel_rfl
noncomputable def Z19 (m n0 : Nat) (a0_0n : Nat) (a0_0c : Option Nat) (a0_0 : List D) (a1 : Int) (a2n : Nat) (a2c : Option Nat) (a2 : List D) (q25 : Sl) (y5_0 : Nat) (y5_1 : Nat) (y5_2 : Int) (y5_3 : Int) (y5_4 : Nat) (y5_5 : Option Nat) (y5_6 : List D) (y5_7 : Nat) (y5_8 : Option Nat) (y5_9 : List D) (y5_10 : Nat) (y5_11 : List D) (y5_12 : List D) (y5_13 : List D) (y5_14 : Int) (y5_15 : Nat) (y5_16 : List D) : Option D :=
 loopIter (bm 14349 34) 8 10 (codeK Tryz.prog Z8.sp ⟨8, [2, 3, 4, 5], true, []⟩ (inlK Tryz.prog Z8 m 3) m Z1r (subc [1, 1, 0, 1, 0, 0] (bodyOf Tryz.f70))) n0 ⟨[(AV.ptr 6 0), .junk, (AV.ptr 8 0), (AV.sl 9 0 y5_0 none 1), .junk, .junk, .junk, .junk, .junk, .junk, .junk, (AV.sl 5 0 y5_1 (some y5_1) 1), (AV.d (D.v (.int .i64 y5_2))), (AV.d (D.v (.int .i64 y5_3))), .junk, .junk, .junk, .junk, .junk, .junk, .junk, .junk, .junk, .junk, .junk, .junk, .junk, .junk, .junk, .junk, .junk, .junk, .junk, .junk], [(Blk.d 1 [(D.list y5_4 y5_5 y5_6)]), (Blk.d 1 [(D.list 0 (some 0) [])]), (Blk.d 1 [(D.list y5_7 y5_8 y5_9)]), (Blk.d y5_10 y5_11), (Blk.d y5_10 y5_12), (Blk.d y5_10 y5_13), (Blk.a 5 [(AV.d (D.list y5_7 y5_8 y5_9)), (AV.d (D.v (.int .i64 y5_14))), (AV.sl 3 0 y5_1 (some y5_1) 1), (AV.sl 4 0 y5_1 (some y5_1) 1), (AV.sl 5 0 y5_1 (some y5_1) 1)]), Blk.dead, (Blk.d 1 [(D.list 0 (some 0) [])]), (Blk.d y5_15 y5_16)]⟩
  (contK Tryz.prog Z8.sp ⟨8, [2, 3, 4, 5], true, []⟩ (inlK Tryz.prog Z8 m 3) m Z1r (endK Tryz.prog Tryz.f70 (fun v L => opsK Tryz.prog Z8.sp ⟨0, [], false, []⟩ [] (inlK Tryz.prog Z8 m 4) (regOps (subc [1, 0, 1, 1, 1, 1, 1, 1, 0] (bodyOf Tryz.f21))) (List.drop 2 (Array.toList (regOps (subc [1, 0, 1, 1, 1, 1, 1, 1, 0] (bodyOf Tryz.f21))))) ⟨setSl [(AV.d (D.agg [(D.list a0_0n a0_0c a0_0)])), (AV.d (D.v (.int .i64 a1))), (AV.d (D.list a2n a2c a2)), (AV.ptr 0 0), .junk, .junk, (AV.ptr 1 0), (AV.d zI), (AV.d zI), (AV.ptr 6 0), (AV.d zI), (AV.d zI), (AV.d (D.list q25.n q25.cap q25.cs)), .junk, (AV.tup [(AV.ptr 6 0), (AV.d zI)]), (AV.d (D.agg [(D.list a0_0n a0_0c a0_0)])), (AV.d (D.v (.int .i64 a1))), (AV.tup [(AV.ptr 6 0), (AV.d zI)]), (AV.ptr 6 0), (AV.d zI), (AV.d zI), (AV.d (D.v (.bool false))), .junk, .junk, (AV.ptr 6 0), (AV.d (D.list q25.n q25.cap q25.cs)), (AV.d (D.list q25.n q25.cap q25.cs)), (AV.d (D.v (.int .i64 ((q25.n : Nat) : Int)))), (AV.d (D.v (.bool false))), .junk, .junk, .junk, .junk, .junk, .junk, .junk, .junk, .junk, .junk, .junk, .junk, .junk, .junk, .junk, .junk, .junk, .junk, .junk, .junk, .junk, .junk, .junk, .junk, .junk, (AV.ptr 6 0), .junk, .junk] (some 55) v, L⟩ (fun st => contK Tryz.prog Z8.sp ⟨0, [], false, []⟩ (inlK Tryz.prog Z8 m 4) m Zk (endK Tryz.prog Tryz.f21 (fun v L => viewK L 8 v some)) [.code (subc [1, 0, 1, 1, 1, 1, 1, 1, 1] (bodyOf Tryz.f21)), .scope (subc [1, 0] (bodyOf Tryz.f21)) m] .normal st))) [.block 0, .code (subc [1, 1, 1] (bodyOf Tryz.f70))])
theorem Zan (m n0 : Nat) (a0_0n : Nat) (a0_0c : Option Nat) (a0_0 : List D) (a1 : Int) (a2n : Nat) (a2c : Option Nat) (a2 : List D) (q25 : Sl) (y5_0 : Nat) (y5_1 : Nat) (y5_2 : Int) (y5_3 : Int) (y5_4 : Nat) (y5_5 : Option Nat) (y5_6 : List D) (y5_7 : Nat) (y5_8 : Option Nat) (y5_9 : List D) (y5_10 : Nat) (y5_11 : List D) (y5_12 : List D) (y5_13 : List D) (y5_14 : Int) (y5_15 : Nat) (y5_16 : List D) : Z19 m (n0 + 1) a0_0n a0_0c a0_0 a1 a2n a2c a2 q25 y5_0 y5_1 y5_2 y5_3 y5_4 y5_5 y5_6 y5_7 y5_8 y5_9 y5_10 y5_11 y5_12 y5_13 y5_14 y5_15 y5_16 =
 (cond (decide (y5_3 < y5_2))
 (if 0 ≤ y5_3 ∧ y5_3 < ((y5_1 : Nat) : Int) then
 (rdB y5_13[(0 + ((Int.toNat y5_3) * 1))]?).bind fun b402 =>
 cond b402
 (if ownB ⟨8, [2, 3, 4, 5], true, []⟩ 9 = true ∧ y5_15 = (y5_0 * 1) ∧ fitsRow (y5_0 + 1) 8 ∧ 1 = 1 then
 Z19 m n0 a0_0n a0_0c a0_0 a1 a2n a2c a2 q25 (y5_0 + 1) y5_1 y5_2 (IntKind.wrap .i64 (y5_3 + (1 : Int))) y5_4 y5_5 y5_6 y5_7 y5_8 y5_9 y5_10 y5_11 y5_12 y5_13 y5_14 ((y5_0 + 1) * 1) (y5_16 ++ [(D.v (.int .i64 y5_3))])
 else none)
 (Z19 m n0 a0_0n a0_0c a0_0 a1 a2n a2c a2 q25 y5_0 y5_1 y5_2 (IntKind.wrap .i64 (y5_3 + (1 : Int))) y5_4 y5_5 y5_6 y5_7 y5_8 y5_9 y5_10 y5_11 y5_12 y5_13 y5_14 y5_15 y5_16)
 else none)
 (if (0 + (y5_0 * 1)) ≤ y5_15 then
 (Z1l [(D.agg [(D.list y5_7 y5_8 y5_9)]), (D.list y5_0 none (cutL y5_15 y5_16 0 (y5_0 * 1)))]).bind fun d403 =>
 (rdT d403).bind fun r404 =>
 if List.length r404 = 2 then
 (rdA r404[0]?).bind fun c405 =>
 (rdI .i64 r404[1]?).bind fun x406 =>
 if (0 + (y5_0 * 1)) ≤ y5_15 then
 if (0 + (y5_0 * 1)) ≤ y5_15 then
 if (List.length c405) = 1 then
 if (List.length c405) = 1 then
 if (List.length c405) = 1 then
 some (D.tup [(D.agg c405), zI, zI])
 else none
 else none
 else none
 else none
 else none
 else none
 else none)) := by kernel_rfl
theorem Zbv (m n0 : Nat) (a0_0n : Nat) (a0_0c : Option Nat) (a0_0 : List D) (a1 : Int) (a2n : Nat) (a2c : Option Nat) (a2 : List D) (y1_0 : Nat) (y1_1 : Int) (y1_2 : Int) (y1_3 : Nat) (y1_4 : Option Nat) (y1_5 : List D) (y1_6 : Nat) (y1_7 : Option Nat) (y1_8 : List D) (y1_9 : Nat) (y1_10 : List D) (y1_11 : List D) (y1_12 : List D) (y1_13 : Int) (y1_14 : Nat) (y1_15 : Nat) (y1_16 : List D) : Zr m (n0 + 1) a0_0n a0_0c a0_0 a1 a2n a2c a2 y1_0 y1_1 y1_2 y1_3 y1_4 y1_5 y1_6 y1_7 y1_8 y1_9 y1_10 y1_11 y1_12 y1_13 y1_14 y1_15 y1_16 =
 (cond (decide (y1_2 < y1_1))
 (if 0 ≤ y1_2 ∧ y1_2 < ((y1_14 : Nat) : Int) then
 (rdB y1_12[(0 + ((Int.toNat y1_2) * 1))]?).bind fun b21 =>
 cond (!b21)
 (if 0 ≤ y1_2 ∧ y1_2 < ((y1_14 : Nat) : Int) then
 (rdI .i64 y1_10[(0 + ((Int.toNat y1_2) * 1))]?).bind fun x22 =>
 cond (decide (x22 < y1_13))
 (if 0 ≤ y1_2 ∧ y1_2 < ((y1_14 : Nat) : Int) then
 (rdI .i64 y1_11[(0 + ((Int.toNat y1_2) * 1))]?).bind fun x23 =>
 cond (x23 == (0 : Int))
 (if ownB ⟨7, [2, 3, 4, 5], true, []⟩ 7 = true ∧ y1_15 = (y1_0 * 1) ∧ fitsRow (y1_0 + 1) 8 ∧ 1 = 1 then
 Zr m n0 a0_0n a0_0c a0_0 a1 a2n a2c a2 (y1_0 + 1) y1_1 (IntKind.wrap .i64 (y1_2 + (1 : Int))) y1_3 y1_4 y1_5 y1_6 y1_7 y1_8 y1_9 y1_10 y1_11 y1_12 y1_13 y1_14 ((y1_0 + 1) * 1) (y1_16 ++ [(D.v (.int .i64 y1_2))])
 else none)
 (Zr m n0 a0_0n a0_0c a0_0 a1 a2n a2c a2 y1_0 y1_1 (IntKind.wrap .i64 (y1_2 + (1 : Int))) y1_3 y1_4 y1_5 y1_6 y1_7 y1_8 y1_9 y1_10 y1_11 y1_12 y1_13 y1_14 y1_15 y1_16)
 else none)
 (Zr m n0 a0_0n a0_0c a0_0 a1 a2n a2c a2 y1_0 y1_1 (IntKind.wrap .i64 (y1_2 + (1 : Int))) y1_3 y1_4 y1_5 y1_6 y1_7 y1_8 y1_9 y1_10 y1_11 y1_12 y1_13 y1_14 y1_15 y1_16)
 else none)
 (Zr m n0 a0_0n a0_0c a0_0 a1 a2n a2c a2 y1_0 y1_1 (IntKind.wrap .i64 (y1_2 + (1 : Int))) y1_3 y1_4 y1_5 y1_6 y1_7 y1_8 y1_9 y1_10 y1_11 y1_12 y1_13 y1_14 y1_15 y1_16)
 else none)
 (if (0 + (y1_0 * 1)) ≤ y1_15 then
 (Z2j [(D.list y1_0 none (cutL y1_15 y1_16 0 (y1_0 * 1)))]).bind fun d24 =>
 (rdL (some d24)).bind fun q25 =>
 if (0 + (y1_0 * 1)) ≤ y1_15 then
 if (0 + (y1_0 * 1)) ≤ y1_15 then
 cond (decide (((q25.n : Nat) : Int) > (0 : Int)))
 (cond (decide ((0 : Int) < ((a2n : Nat) : Int)))
 (if 0 ≤ (0 : Int) ∧ (0 : Int) < ((a2n : Nat) : Int) then
 (rdI .i64 a2[0]?).bind fun x26 =>
 if ((q25.n : Nat) : Int) = 0 then none else
 cond (decide ((Int.tmod x26 ((q25.n : Nat) : Int)) < (0 : Int)))
 (if 0 ≤ (IntKind.wrap .i64 ((Int.tmod x26 ((q25.n : Nat) : Int)) + ((q25.n : Nat) : Int))) ∧ (IntKind.wrap .i64 ((Int.tmod x26 ((q25.n : Nat) : Int)) + ((q25.n : Nat) : Int))) < ((q25.n : Nat) : Int) then
 (rdI .i64 q25.cs[((Int.toNat (IntKind.wrap .i64 ((Int.tmod x26 ((q25.n : Nat) : Int)) + ((q25.n : Nat) : Int)))) * 1)]?).bind fun x27 =>
 if 0 ≤ x27 ∧ x27 < ((y1_14 : Nat) : Int) then
 if 1 = 1 ∧ (0 + ((Int.toNat x27) * 1)) < y1_9 then
 cond (decide (x27 > (0 : Int)))
 (if 0 ≤ x27 ∧ x27 < ((y1_6 : Nat) : Int) then
 (rdI .i64 y1_8[(((Int.toNat x27) * 20) + 0)]?).bind fun x28 =>
 if 0 ≤ x28 ∧ x28 < ((y1_14 : Nat) : Int) then
 (rdI .i64 y1_11[(0 + ((Int.toNat x28) * 1))]?).bind fun x29 =>
 if 0 ≤ x28 ∧ x28 < ((y1_14 : Nat) : Int) then
 if 1 = 1 ∧ (0 + ((Int.toNat x28) * 1)) < y1_9 then
 Za m m a2n a2c a2 (1 : Int) y1_3 y1_4 y1_5 y1_6 y1_7 y1_8 y1_9 y1_10 y1_9 (List.set y1_11 (0 + ((Int.toNat x28) * 1)) (D.v (.int .i64 (IntKind.wrap .i64 (x29 - (1 : Int)))))) y1_9 (List.set y1_12 (0 + ((Int.toNat x27) * 1)) (D.v (.bool true))) y1_6 y1_7 y1_8 y1_13 y1_14 y1_14 y1_14 y1_14 y1_14 y1_14
 else none
 else none
 else none
 else none)
 (Za m m a2n a2c a2 (1 : Int) y1_3 y1_4 y1_5 y1_6 y1_7 y1_8 y1_9 y1_10 y1_9 y1_11 y1_9 (List.set y1_12 (0 + ((Int.toNat x27) * 1)) (D.v (.bool true))) y1_6 y1_7 y1_8 y1_13 y1_14 y1_14 y1_14 y1_14 y1_14 y1_14)
 else none
 else none
 else none)
 (if 0 ≤ (Int.tmod x26 ((q25.n : Nat) : Int)) ∧ (Int.tmod x26 ((q25.n : Nat) : Int)) < ((q25.n : Nat) : Int) then
 (rdI .i64 q25.cs[((Int.toNat (Int.tmod x26 ((q25.n : Nat) : Int))) * 1)]?).bind fun x170 =>
 if 0 ≤ x170 ∧ x170 < ((y1_14 : Nat) : Int) then
 if 1 = 1 ∧ (0 + ((Int.toNat x170) * 1)) < y1_9 then
 cond (decide (x170 > (0 : Int)))
 (if 0 ≤ x170 ∧ x170 < ((y1_6 : Nat) : Int) then
 (rdI .i64 y1_8[(((Int.toNat x170) * 20) + 0)]?).bind fun x171 =>
 if 0 ≤ x171 ∧ x171 < ((y1_14 : Nat) : Int) then
 (rdI .i64 y1_11[(0 + ((Int.toNat x171) * 1))]?).bind fun x172 =>
 if 0 ≤ x171 ∧ x171 < ((y1_14 : Nat) : Int) then
 if 1 = 1 ∧ (0 + ((Int.toNat x171) * 1)) < y1_9 then
 Za m m a2n a2c a2 (1 : Int) y1_3 y1_4 y1_5 y1_6 y1_7 y1_8 y1_9 y1_10 y1_9 (List.set y1_11 (0 + ((Int.toNat x171) * 1)) (D.v (.int .i64 (IntKind.wrap .i64 (x172 - (1 : Int)))))) y1_9 (List.set y1_12 (0 + ((Int.toNat x170) * 1)) (D.v (.bool true))) y1_6 y1_7 y1_8 y1_13 y1_14 y1_14 y1_14 y1_14 y1_14 y1_14
 else none
 else none
 else none
 else none)
 (Za m m a2n a2c a2 (1 : Int) y1_3 y1_4 y1_5 y1_6 y1_7 y1_8 y1_9 y1_10 y1_9 y1_11 y1_9 (List.set y1_12 (0 + ((Int.toNat x170) * 1)) (D.v (.bool true))) y1_6 y1_7 y1_8 y1_13 y1_14 y1_14 y1_14 y1_14 y1_14 y1_14)
 else none
 else none
 else none)
 else none)
 (if 0 ≤ (0 : Int) ∧ (0 : Int) < ((q25.n : Nat) : Int) then
 (rdI .i64 q25.cs[0]?).bind fun x285 =>
 if 0 ≤ x285 ∧ x285 < ((y1_14 : Nat) : Int) then
 if 1 = 1 ∧ (0 + ((Int.toNat x285) * 1)) < y1_9 then
 cond (decide (x285 > (0 : Int)))
 (if 0 ≤ x285 ∧ x285 < ((y1_6 : Nat) : Int) then
 (rdI .i64 y1_8[(((Int.toNat x285) * 20) + 0)]?).bind fun x286 =>
 if 0 ≤ x286 ∧ x286 < ((y1_14 : Nat) : Int) then
 (rdI .i64 y1_11[(0 + ((Int.toNat x286) * 1))]?).bind fun x287 =>
 if 0 ≤ x286 ∧ x286 < ((y1_14 : Nat) : Int) then
 if 1 = 1 ∧ (0 + ((Int.toNat x286) * 1)) < y1_9 then
 Za m m a2n a2c a2 (1 : Int) y1_3 y1_4 y1_5 y1_6 y1_7 y1_8 y1_9 y1_10 y1_9 (List.set y1_11 (0 + ((Int.toNat x286) * 1)) (D.v (.int .i64 (IntKind.wrap .i64 (x287 - (1 : Int)))))) y1_9 (List.set y1_12 (0 + ((Int.toNat x285) * 1)) (D.v (.bool true))) y1_6 y1_7 y1_8 y1_13 y1_14 y1_14 y1_14 y1_14 y1_14 y1_14
 else none
 else none
 else none
 else none)
 (Za m m a2n a2c a2 (1 : Int) y1_3 y1_4 y1_5 y1_6 y1_7 y1_8 y1_9 y1_10 y1_9 y1_11 y1_9 (List.set y1_12 (0 + ((Int.toNat x285) * 1)) (D.v (.bool true))) y1_6 y1_7 y1_8 y1_13 y1_14 y1_14 y1_14 y1_14 y1_14 y1_14)
 else none
 else none
 else none))
 (Z19 m m a0_0n a0_0c a0_0 a1 a2n a2c a2 q25 0 y1_14 ((y1_14 : Nat) : Int) (0 : Int) y1_3 y1_4 y1_5 y1_6 y1_7 y1_8 y1_9 y1_10 y1_11 y1_12 y1_13 0 [])
 else none
 else none
 else none)) := by kernel_rfl
theorem Zew (m n0 : Nat) (a0_0n : Nat) (a0_0c : Option Nat) (a0_0 : List D) (a1 : Int) (a2n : Nat) (a2c : Option Nat) (a2 : List D) (y0_0 : Nat) (y0_1 : Option Nat) (y0_2 : List D) (y0_3 : Int) (y0_4 : Int) (y0_5 : Nat) (y0_6 : Option Nat) (y0_7 : List D) (y0_8 : Nat) (y0_9 : List D) (y0_10 : List D) (y0_11 : List D) (y0_12 : Int) (y0_13 : Nat) : Z2c m (n0 + 1) a0_0n a0_0c a0_0 a1 a2n a2c a2 y0_0 y0_1 y0_2 y0_3 y0_4 y0_5 y0_6 y0_7 y0_8 y0_9 y0_10 y0_11 y0_12 y0_13 =
 (cond (decide (y0_4 < y0_3))
 (if 0 ≤ y0_4 ∧ y0_4 < ((y0_0 : Nat) : Int) then
 if (((Int.toNat y0_4) * 20) + 20) ≤ (List.length y0_2) then
 if (List.length ((List.drop ((Int.toNat y0_4) * 20) y0_2).take 20)) = 20 then
 cond (decide (y0_4 > (0 : Int)))
 ((rdI .i64 ((List.drop ((Int.toNat y0_4) * 20) y0_2).take 20)[0]?).bind fun x11 =>
 if 0 ≤ x11 ∧ x11 < ((y0_13 : Nat) : Int) then
 (rdI .i64 y0_9[(0 + ((Int.toNat x11) * 1))]?).bind fun x12 =>
 if 0 ≤ y0_4 ∧ y0_4 < ((y0_13 : Nat) : Int) then
 if 1 = 1 ∧ (0 + ((Int.toNat y0_4) * 1)) < y0_8 then
 (rdI .i64 ((List.drop ((Int.toNat y0_4) * 20) y0_2).take 20)[0]?).bind fun x13 =>
 if 0 ≤ x13 ∧ x13 < ((y0_13 : Nat) : Int) then
 (rdI .i64 y0_10[(0 + ((Int.toNat x13) * 1))]?).bind fun x14 =>
 if 0 ≤ x13 ∧ x13 < ((y0_13 : Nat) : Int) then
 if 1 = 1 ∧ (0 + ((Int.toNat x13) * 1)) < y0_8 then
 Z2c m n0 a0_0n a0_0c a0_0 a1 a2n a2c a2 y0_0 y0_1 y0_2 y0_3 (IntKind.wrap .i64 (y0_4 + (1 : Int))) y0_5 y0_6 y0_7 y0_8 (List.set y0_9 (0 + ((Int.toNat y0_4) * 1)) (D.v (.int .i64 (IntKind.wrap .i64 (x12 + (1 : Int)))))) (List.set y0_10 (0 + ((Int.toNat x13) * 1)) (D.v (.int .i64 (IntKind.wrap .i64 (x14 + (1 : Int)))))) y0_11 y0_12 y0_13
 else none
 else none
 else none
 else none
 else none
 else none)
 (Z2c m n0 a0_0n a0_0c a0_0 a1 a2n a2c a2 y0_0 y0_1 y0_2 y0_3 (IntKind.wrap .i64 (y0_4 + (1 : Int))) y0_5 y0_6 y0_7 y0_8 y0_9 y0_10 y0_11 y0_12 y0_13)
 else none
 else none
 else none)
 (Zr m m a0_0n a0_0c a0_0 a1 a2n a2c a2 0 ((y0_13 : Nat) : Int) (0 : Int) y0_5 y0_6 y0_7 y0_0 y0_1 y0_2 y0_8 y0_9 y0_10 y0_11 y0_12 y0_13 0 [])) := by kernel_rfl
theorem Zds (m : Nat) (a0_0n : Nat) (a0_0c : Option Nat) (a0_0 : List D) (a1 : Int) (a2n : Nat) (a2c : Option Nat) (a2 : List D) (u0_0 : Int) (u0_1 : Nat) (u0_2 : Option Nat) (u0_3 : List D) (u0_4 : Nat) (u0_5 : Option Nat) (u0_6 : List D) : Z5n m a0_0n a0_0c a0_0 a1 a2n a2c a2 u0_0 u0_1 u0_2 u0_3 u0_4 u0_5 u0_6 =
 (if 0 ≤ ((u0_4 : Nat) : Int) ∧ ((u0_4 : Nat) : Int) ≤ ((u0_4 : Nat) : Int) ∧ fitsRow (Int.toNat ((u0_4 : Nat) : Int)) 8 then
 if 0 ≤ ((u0_4 : Nat) : Int) ∧ ((u0_4 : Nat) : Int) ≤ ((u0_4 : Nat) : Int) ∧ fitsRow (Int.toNat ((u0_4 : Nat) : Int)) 8 then
 if 0 ≤ ((u0_4 : Nat) : Int) ∧ ((u0_4 : Nat) : Int) ≤ ((u0_4 : Nat) : Int) ∧ fitsRow (Int.toNat ((u0_4 : Nat) : Int)) 1 then
 Z2c m m a0_0n a0_0c a0_0 a1 a2n a2c a2 u0_4 u0_5 u0_6 ((u0_4 : Nat) : Int) (0 : Int) u0_1 u0_2 u0_3 ((Int.toNat ((u0_4 : Nat) : Int)) * 1) (List.flatten (List.replicate (Int.toNat ((u0_4 : Nat) : Int)) [zI])) (List.flatten (List.replicate (Int.toNat ((u0_4 : Nat) : Int)) [zI])) (List.flatten (List.replicate (Int.toNat ((u0_4 : Nat) : Int)) [(D.v (.bool false))])) u0_0 (Int.toNat ((u0_4 : Nat) : Int))
 else none
 else none
 else none) := (cutK_eq m _).trans (by kernel_rfl)
noncomputable def Zcj (m : Nat) (a0_0n : Nat) (a0_0c : Option Nat) (a0_0 : List D) (a1 : Int) (a2n : Nat) (a2c : Option Nat) (a2 : List D) : Option D :=
 (Z1x [(D.agg [(D.list a0_0n a0_0c a0_0)])]).bind fun d1 =>
 (rdI .i64 (some d1)).bind fun x2 =>
 cond (x2 != (0 : Int))
 (cond (x2 != (0 : Int))
 (some (D.tup [(D.agg [(D.list 0 (some 0) [])]), zI, (D.v (.int .i64 x2))]))
 (none))
 (cond (decide (a1 < (0 : Int)))
 (some (D.tup [(D.agg [(D.list 0 (some 0) [])]), zI, (D.v (.int .i64 (1 : Int)))]))
 (cond (decide (a1 > (64 : Int)))
 (some (D.tup [(D.agg [(D.list 0 (some 0) [])]), zI, (D.v (.int .i64 (1 : Int)))]))
 (Z5n m a0_0n a0_0c a0_0 a1 a2n a2c a2 a1 a0_0n a0_0c a0_0 a0_0n a0_0c a0_0)))
theorem Zpe (m : Nat) (a0_0n : Nat) (a0_0c : Option Nat) (a0_0 : List D) (a1 : Int) (a2n : Nat) (a2c : Option Nat) (a2 : List D) : funD Tryz.prog Z8 m 4 Zk Tryz.f21 [(D.agg [(D.list a0_0n a0_0c a0_0)]), (D.v (.int .i64 a1)), (D.list a2n a2c a2)] = Zcj m a0_0n a0_0c a0_0 a1 a2n a2c a2 := by kernel_rfl
theorem Zrd : Enters Tryz.prog 21 := ⟨Tryz.f21, Tryz.func21, by kernel_rfl, by kernel_rfl⟩
theorem Zre {ds : List D} {d : D} (h : funD Tryz.prog Z8 M 4 Zk Tryz.f21 ds = some d) : DataSem Tryz.prog 21 ds d := data_sound (H := Z8) (SpOk.cons Ziv (SpOk.cons Z7y (SpOk.cons Ziw SpOk.nil))) mixed (InlOk.cons Tryz.func64 Za1 (InlOk.cons Tryz.func65 Zi6 (InlOk.cons Tryz.func67 Z57 (InlOk.cons Tryz.func70 Zck (InlOk.cons Tryz.func71 Z3c InlOk.nil))))) Tryz.func21 Zrd h
noncomputable def Zm : List D → Option D
  | [.agg [.list a0_0n a0_0c a0_0], .v (.int .i64 a1), .list a2n a2c a2] => Zcj M a0_0n a0_0c a0_0 a1 a2n a2c a2
  | _ => none
theorem Zl2 : ∀ ds d, Zm ds = some d → DataSem Tryz.prog 21 ds d := by
  intro ds d h
  unfold Zm at h
  split at h
  · exact Zre ((Zpe M _ _ _ _ _ _ _).trans h)
  · cases h

-- ('str', '"vidimus/prunes.Stays"')
def Zt : FnH := ⟨[(7, ⟨(bm 304 32), [], none⟩)], [(9, ⟨(bm 256 32), [], (some 10)⟩)]⟩
def Z2m : FnH := ⟨[(9, ⟨(bm 481036337408 72), [], (some 5)⟩)], [(6, ⟨(bm 6 72), [], (some 1)⟩)]⟩
def Z22 : FnH := ⟨[(1, ⟨(bm 19 21), [], (some 0)⟩)], [(2, ⟨(bm 19 21), [], (some 0)⟩)]⟩
def Zd6 : FnH := ⟨[], []⟩
def Zex : FnH := ⟨[], []⟩
def Z3b : FnH := ⟨[(1, ⟨(bm 1793 24), [(1006000, 1)], (some 1)⟩)], []⟩
def Zb7 : FnH := ⟨[], []⟩
noncomputable def Zc : Hints := ⟨[(60, Z1x), (69, Z2j)], [(64, Tryz.f64, Z2m), (66, Tryz.f66, Z22), (67, Tryz.f67, Zd6), (68, Tryz.f68, Zex), (105, Tryz.f105, Z3b), (71, Tryz.f71, Zb7)], []⟩
noncomputable def Z6y (m : Nat) (a0_0n : Nat) (a0_0c : Option Nat) (a0_0 : List D) (a1 : Int) (u0_0 : Int) (u0_1 : Nat) (u0_2 : Option Nat) (u0_3 : List D) (u0_4 : Nat) (u0_5 : Option Nat) (u0_6 : List D) : Option D :=
 cutK m (codeK Tryz.prog Zc.sp ⟨1, [], true, []⟩ (inlK Tryz.prog Zc m 3) m Z2m (subc [1, 1, 1] (bodyOf Tryz.f64)) ⟨[.junk, (AV.d (D.v (.int .i64 u0_0))), (AV.ptr 1 0), .junk, .junk, .junk, .junk, .junk, .junk, .junk, .junk, .junk, .junk, .junk, .junk, .junk, .junk, .junk, .junk, .junk, .junk, .junk, .junk, .junk, .junk, .junk, .junk, .junk, .junk, .junk, .junk, .junk, .junk, .junk, .junk, .junk, .junk, .junk, .junk, .junk, .junk, .junk, .junk, .junk, .junk, .junk, .junk, .junk, .junk, .junk, .junk, .junk, .junk, .junk, .junk, .junk, .junk, .junk, .junk, .junk, .junk, .junk, .junk, .junk, .junk, .junk, .junk, .junk, .junk, .junk, .junk, .junk], [(Blk.d 1 [(D.list u0_1 u0_2 u0_3)]), (Blk.d 1 [(D.list u0_4 u0_5 u0_6)])]⟩
  (contK Tryz.prog Zc.sp ⟨1, [], true, []⟩ (inlK Tryz.prog Zc m 3) m Z2m (endK Tryz.prog Tryz.f64 (fun v L => opsK Tryz.prog Zc.sp ⟨0, [], false, []⟩ [] (inlK Tryz.prog Zc m 4) (regOps (subc [1, 0] (bodyOf Tryz.f19))) (List.drop 3 (Array.toList (regOps (subc [1, 0] (bodyOf Tryz.f19))))) ⟨setSl [(AV.d (D.agg [(D.list a0_0n a0_0c a0_0)])), (AV.d (D.v (.int .i64 a1))), (AV.ptr 0 0), .junk, (AV.d (D.list 0 (some 0) [])), (AV.d zI), .junk, .junk, .junk, .junk, .junk, (AV.d (D.agg [(D.list a0_0n a0_0c a0_0)])), (AV.d (D.v (.int .i64 a1))), .junk, .junk, .junk, .junk, .junk, .junk, .junk, .junk, .junk, .junk, .junk, .junk, .junk, .junk, .junk, .junk, .junk, .junk, .junk] (some 13) v, L⟩ (fun st => contK Tryz.prog Zc.sp ⟨0, [], false, []⟩ (inlK Tryz.prog Zc m 4) m Zt (endK Tryz.prog Tryz.f19 (fun v L => viewK L 8 v some)) [.code (subc [1, 1] (bodyOf Tryz.f19))] .normal st))) []))
noncomputable def Z2n (m n0 : Nat) (a0_0n : Nat) (a0_0c : Option Nat) (a0_0 : List D) (a1 : Int) (y0_0 : Nat) (y0_1 : Option Nat) (y0_2 : List D) (y0_3 : Int) (y0_4 : Int) (y0_5 : Nat) (y0_6 : Option Nat) (y0_7 : List D) (y0_8 : Nat) (y0_9 : List D) (y0_10 : List D) (y0_11 : List D) (y0_12 : Int) (y0_13 : Nat) : Option D :=
 loopIter (bm 481036337408 72) 1 6 (codeK Tryz.prog Zc.sp ⟨1, [], true, []⟩ (inlK Tryz.prog Zc m 3) m Z2m (subc [1, 1, 1, 1, 1, 0, 1, 0, 0] (bodyOf Tryz.f64))) n0 ⟨[.junk, .junk, .junk, .junk, .junk, .junk, .junk, .junk, (AV.ptr 5 0), .junk, .junk, .junk, .junk, .junk, .junk, .junk, .junk, .junk, .junk, .junk, .junk, .junk, .junk, .junk, .junk, .junk, .junk, .junk, .junk, .junk, .junk, .junk, .junk, .junk, .junk, .junk, (AV.d (D.list y0_0 y0_1 y0_2)), (AV.d (D.v (.int .i64 y0_3))), (AV.d (D.v (.int .i64 y0_4))), .junk, .junk, .junk, .junk, .junk, .junk, .junk, .junk, .junk, .junk, .junk, .junk, .junk, .junk, .junk, .junk, .junk, .junk, .junk, .junk, .junk, .junk, .junk, .junk, .junk, .junk, .junk, .junk, .junk, .junk, .junk, .junk, .junk], [(Blk.d 1 [(D.list y0_5 y0_6 y0_7)]), (Blk.d 1 [(D.list y0_0 y0_1 y0_2)]), (Blk.d y0_8 y0_9), (Blk.d y0_8 y0_10), (Blk.d y0_8 y0_11), (Blk.a 5 [(AV.d (D.list y0_0 y0_1 y0_2)), (AV.d (D.v (.int .i64 y0_12))), (AV.sl 2 0 y0_13 (some y0_13) 1), (AV.sl 3 0 y0_13 (some y0_13) 1), (AV.sl 4 0 y0_13 (some y0_13) 1)])]⟩
  (contK Tryz.prog Zc.sp ⟨1, [], true, []⟩ (inlK Tryz.prog Zc m 3) m Z2m (endK Tryz.prog Tryz.f64 (fun v L => opsK Tryz.prog Zc.sp ⟨0, [], false, []⟩ [] (inlK Tryz.prog Zc m 4) (regOps (subc [1, 0] (bodyOf Tryz.f19))) (List.drop 3 (Array.toList (regOps (subc [1, 0] (bodyOf Tryz.f19))))) ⟨setSl [(AV.d (D.agg [(D.list a0_0n a0_0c a0_0)])), (AV.d (D.v (.int .i64 a1))), (AV.ptr 0 0), .junk, (AV.d (D.list 0 (some 0) [])), (AV.d zI), .junk, .junk, .junk, .junk, .junk, (AV.d (D.agg [(D.list a0_0n a0_0c a0_0)])), (AV.d (D.v (.int .i64 a1))), .junk, .junk, .junk, .junk, .junk, .junk, .junk, .junk, .junk, .junk, .junk, .junk, .junk, .junk, .junk, .junk, .junk, .junk, .junk] (some 13) v, L⟩ (fun st => contK Tryz.prog Zc.sp ⟨0, [], false, []⟩ (inlK Tryz.prog Zc m 4) m Zt (endK Tryz.prog Tryz.f19 (fun v L => viewK L 8 v some)) [.code (subc [1, 1] (bodyOf Tryz.f19))] .normal st))) [.block 0, .code (subc [1, 1, 1, 1, 1, 1] (bodyOf Tryz.f64))])
noncomputable def Z23 (m n0 : Nat) (a0_0n : Nat) (a0_0c : Option Nat) (a0_0 : List D) (a1 : Int) (y1_0 : Int) (y1_1 : Nat) (y1_2 : Option Nat) (y1_3 : List D) (y1_4 : Nat) (y1_5 : Option Nat) (y1_6 : List D) (y1_7 : Nat) (y1_8 : List D) (y1_9 : Nat) (y1_10 : List D) (y1_11 : Nat) (y1_12 : List D) (y1_13 : Nat) (y1_14 : Option Nat) (y1_15 : List D) (y1_16 : Int) (y1_17 : Nat) (y1_18 : Nat) (y1_19 : Nat) (y1_20 : Nat) (y1_21 : Nat) (y1_22 : Nat) : Option D :=
 loopIter (bm 19 21) 6 6 (codeK Tryz.prog Zc.sp ⟨6, [1, 2, 3, 4], true, []⟩ (inlK Tryz.prog Zc m 3) m Z22 (subc [1, 0, 0] (bodyOf Tryz.f66))) n0 ⟨[(AV.ptr 5 0), (AV.bnd 67 [(AV.ptr 5 0)]), .junk, .junk, (AV.d (D.v (.int .i64 y1_0))), .junk, .junk, .junk, .junk, .junk, .junk, .junk, .junk, .junk, .junk, .junk, .junk, .junk, .junk, .junk, .junk], [(Blk.d 1 [(D.list y1_1 y1_2 y1_3)]), (Blk.d 1 [(D.list y1_4 y1_5 y1_6)]), (Blk.d y1_7 y1_8), (Blk.d y1_9 y1_10), (Blk.d y1_11 y1_12), (Blk.a 5 [(AV.d (D.list y1_13 y1_14 y1_15)), (AV.d (D.v (.int .i64 y1_16))), (AV.sl 2 0 y1_17 (some y1_18) 1), (AV.sl 3 0 y1_19 (some y1_20) 1), (AV.sl 4 0 y1_21 (some y1_22) 1)])]⟩
  (contK Tryz.prog Zc.sp ⟨6, [1, 2, 3, 4], true, []⟩ (inlK Tryz.prog Zc m 3) m Z22 (endK Tryz.prog Tryz.f66 (fun v L => opsK Tryz.prog Zc.sp ⟨0, [], false, []⟩ [] (inlK Tryz.prog Zc m 4) (regOps (subc [1, 1, 1, 0] (bodyOf Tryz.f19))) (List.drop 4 (Array.toList (regOps (subc [1, 1, 1, 0] (bodyOf Tryz.f19))))) ⟨setSl [(AV.d (D.agg [(D.list a0_0n a0_0c a0_0)])), (AV.d (D.v (.int .i64 a1))), (AV.ptr 0 0), .junk, (AV.d (D.list 0 (some 0) [])), (AV.d zI), (AV.ptr 5 0), (AV.d zI), .junk, .junk, (AV.tup [(AV.ptr 5 0), (AV.d zI)]), (AV.d (D.agg [(D.list a0_0n a0_0c a0_0)])), (AV.d (D.v (.int .i64 a1))), (AV.tup [(AV.ptr 5 0), (AV.d zI)]), (AV.ptr 5 0), (AV.d zI), (AV.d zI), (AV.d (D.v (.bool false))), .junk, (AV.ptr 5 0), (AV.ptr 5 0), (AV.bnd 67 [(AV.ptr 5 0)]), .junk, .junk, .junk, .junk, .junk, .junk, .junk, .junk, .junk, .junk] (some 22) v, L⟩ (fun st => contK Tryz.prog Zc.sp ⟨0, [], false, []⟩ (inlK Tryz.prog Zc m 4) m Zt (endK Tryz.prog Tryz.f19 (fun v L => viewK L 8 v some)) [.code (subc [1, 1, 1, 1] (bodyOf Tryz.f19))] .normal st))) [.block 0])
noncomputable def Z17 (m n0 : Nat) (a0_0n : Nat) (a0_0c : Option Nat) (a0_0 : List D) (a1 : Int) (u1_0 : Int) (u1_1 : Nat) (u1_2 : Option Nat) (u1_3 : List D) (u1_4 : Nat) (u1_5 : Option Nat) (u1_6 : List D) (u1_7 : Nat) (u1_8 : List D) (u1_9 : Nat) (u1_10 : List D) (u1_11 : Nat) (u1_12 : List D) (u1_13 : Nat) (u1_14 : Option Nat) (u1_15 : List D) (u1_16 : Int) (u1_17 : Nat) (u1_18 : Nat) (u1_19 : Nat) (u1_20 : Nat) (u1_21 : Nat) (u1_22 : Nat) : Option D :=
 cutK m (codeK Tryz.prog Zc.sp ⟨6, [1, 2, 3, 4], true, []⟩ (inlK Tryz.prog Zc m 3) m Z22 (subc [1, 0, 0, 1, 1] (bodyOf Tryz.f66)) ⟨[(AV.ptr 5 0), (AV.bnd 67 [(AV.ptr 5 0)]), .junk, .junk, (AV.d (D.v (.int .i64 u1_0))), .junk, .junk, .junk, .junk, .junk, .junk, .junk, .junk, .junk, .junk, .junk, .junk, .junk, .junk, .junk, .junk], [(Blk.d 1 [(D.list u1_1 u1_2 u1_3)]), (Blk.d 1 [(D.list u1_4 u1_5 u1_6)]), (Blk.d u1_7 u1_8), (Blk.d u1_9 u1_10), (Blk.d u1_11 u1_12), (Blk.a 5 [(AV.d (D.list u1_13 u1_14 u1_15)), (AV.d (D.v (.int .i64 u1_16))), (AV.sl 2 0 u1_17 (some u1_18) 1), (AV.sl 3 0 u1_19 (some u1_20) 1), (AV.sl 4 0 u1_21 (some u1_22) 1)])]⟩
  (contK Tryz.prog Zc.sp ⟨6, [1, 2, 3, 4], true, []⟩ (inlK Tryz.prog Zc m 3) m Z22 (endK Tryz.prog Tryz.f66 (fun v L => opsK Tryz.prog Zc.sp ⟨0, [], false, []⟩ [] (inlK Tryz.prog Zc m 4) (regOps (subc [1, 1, 1, 0] (bodyOf Tryz.f19))) (List.drop 4 (Array.toList (regOps (subc [1, 1, 1, 0] (bodyOf Tryz.f19))))) ⟨setSl [(AV.d (D.agg [(D.list a0_0n a0_0c a0_0)])), (AV.d (D.v (.int .i64 a1))), (AV.ptr 0 0), .junk, (AV.d (D.list 0 (some 0) [])), (AV.d zI), (AV.ptr 5 0), (AV.d zI), .junk, .junk, (AV.tup [(AV.ptr 5 0), (AV.d zI)]), (AV.d (D.agg [(D.list a0_0n a0_0c a0_0)])), (AV.d (D.v (.int .i64 a1))), (AV.tup [(AV.ptr 5 0), (AV.d zI)]), (AV.ptr 5 0), (AV.d zI), (AV.d zI), (AV.d (D.v (.bool false))), .junk, (AV.ptr 5 0), (AV.ptr 5 0), (AV.bnd 67 [(AV.ptr 5 0)]), .junk, .junk, .junk, .junk, .junk, .junk, .junk, .junk, .junk, .junk] (some 22) v, L⟩ (fun st => contK Tryz.prog Zc.sp ⟨0, [], false, []⟩ (inlK Tryz.prog Zc m 4) m Zt (endK Tryz.prog Tryz.f19 (fun v L => viewK L 8 v some)) [.code (subc [1, 1, 1, 1] (bodyOf Tryz.f19))] .normal st))) [.loop (bm 19 21) 6 (subc [1, 0, 0] (bodyOf Tryz.f66)) n0, .block 0]))
theorem Zd7 (m n0 : Nat) (a0_0n : Nat) (a0_0c : Option Nat) (a0_0 : List D) (a1 : Int) (u1_0 : Int) (u1_1 : Nat) (u1_2 : Option Nat) (u1_3 : List D) (u1_4 : Nat) (u1_5 : Option Nat) (u1_6 : List D) (u1_7 : Nat) (u1_8 : List D) (u1_9 : Nat) (u1_10 : List D) (u1_11 : Nat) (u1_12 : List D) (u1_13 : Nat) (u1_14 : Option Nat) (u1_15 : List D) (u1_16 : Int) (u1_17 : Nat) (u1_18 : Nat) (u1_19 : Nat) (u1_20 : Nat) (u1_21 : Nat) (u1_22 : Nat) : Z17 m n0 a0_0n a0_0c a0_0 a1 u1_0 u1_1 u1_2 u1_3 u1_4 u1_5 u1_6 u1_7 u1_8 u1_9 u1_10 u1_11 u1_12 u1_13 u1_14 u1_15 u1_16 u1_17 u1_18 u1_19 u1_20 u1_21 u1_22 =
 (Z23 m n0 a0_0n a0_0c a0_0 a1 (IntKind.wrap .i64 (u1_0 - (1 : Int))) u1_1 u1_2 u1_3 u1_4 u1_5 u1_6 u1_7 u1_8 u1_9 u1_10 u1_11 u1_12 u1_13 u1_14 u1_15 u1_16 u1_17 u1_18 u1_19 u1_20 u1_21 u1_22) := (cutK_eq m _).trans (by kernel_rfl)
noncomputable def Z1c (m n0 : Nat) (y2_0 : Nat) (y2_1 : Nat) (y2_2 : Int) (y2_3 : Int) (y2_4 : Nat) (y2_5 : Option Nat) (y2_6 : List D) (y2_7 : Nat) (y2_8 : Option Nat) (y2_9 : List D) (y2_10 : Nat) (y2_11 : List D) (y2_12 : Nat) (y2_13 : List D) (y2_14 : Nat) (y2_15 : List D) (y2_16 : Nat) (y2_17 : Option Nat) (y2_18 : List D) (y2_19 : Int) (y2_20 : Nat) (y2_21 : Nat) (y2_22 : Nat) (y2_23 : Nat) (y2_24 : Nat) (y2_25 : Nat) (y2_26 : List D) : Option D :=
 loopIter (bm 1793 24) 9 10 (codeK Tryz.prog Zc.sp ⟨9, [0, 1, 2, 3, 4, 6], true, []⟩ (inlK Tryz.prog Zc m 3) m Z3b (subc [1, 0, 0] (bodyOf Tryz.f105))) n0 ⟨[(AV.yld 8), .junk, .junk, .junk, .junk, .junk, .junk, .junk, (AV.sl 4 0 y2_0 (some y2_1) 1), (AV.d (D.v (.int .i64 y2_2))), (AV.d (D.v (.int .i64 y2_3))), .junk, .junk, .junk, .junk, .junk, .junk, .junk, .junk, .junk, .junk, .junk, .junk, .junk], [(Blk.d 1 [(D.list y2_4 y2_5 y2_6)]), (Blk.d 1 [(D.list y2_7 y2_8 y2_9)]), (Blk.d y2_10 y2_11), (Blk.d y2_12 y2_13), (Blk.d y2_14 y2_15), (Blk.a 5 [(AV.d (D.list y2_16 y2_17 y2_18)), (AV.d (D.v (.int .i64 y2_19))), (AV.sl 2 0 y2_20 (some y2_21) 1), (AV.sl 3 0 y2_22 (some y2_23) 1), (AV.sl 4 0 y2_0 (some y2_1) 1)]), (Blk.a 1 [(AV.sl 9 0 y2_24 none 1)]), (Blk.a 1 [(AV.ptr 5 0)]), (Blk.loop 0 none [.junk, .junk, .junk, .junk, (AV.d (D.list 0 (some 0) [])), (AV.d zI), .junk, .junk, (AV.ptr 6 0), .junk, .junk, .junk, .junk, .junk, .junk, .junk, .junk, .junk, .junk, .junk, .junk, .junk, .junk, .junk, .junk, .junk, .junk, .junk, .junk, .junk, .junk, .junk] [25] (subc [1, 1, 1, 1, 1, 0, 1, 0, 0] (bodyOf Tryz.f19)) (subc [1, 1, 1, 1, 1, 0, 1, 0, 1] (bodyOf Tryz.f19)) Zt), (Blk.d y2_25 y2_26)]⟩
  (contK Tryz.prog Zc.sp ⟨9, [0, 1, 2, 3, 4, 6], true, []⟩ (inlK Tryz.prog Zc m 3) m Z3b (endK Tryz.prog Tryz.f105 (endLoopK 8 32 (contK Tryz.prog Zc.sp ⟨0, [], false, []⟩ (inlK Tryz.prog Zc m 4) m Zt (endK Tryz.prog Tryz.f19 (fun v L => viewK L 8 v some)) [.block 0, .code (subc [1, 1, 1, 1, 1, 1] (bodyOf Tryz.f19))]))) [.block 0])
noncomputable def Zl3 (m : Nat) (u2_0 : Nat) (u2_1 : Option Nat) (u2_2 : List D) (u2_3 : Nat) (u2_4 : Option Nat) (u2_5 : List D) (u2_6 : Nat) (u2_7 : List D) (u2_8 : Nat) (u2_9 : List D) (u2_10 : Nat) (u2_11 : List D) (u2_12 : Nat) (u2_13 : Option Nat) (u2_14 : List D) (u2_15 : Int) (u2_16 : Nat) (u2_17 : Nat) (u2_18 : Nat) (u2_19 : Nat) (u2_20 : Nat) (u2_21 : Nat) (u2_22 : Nat) (u2_23 : Int) (u2_24 : Nat) (u2_25 : List D) : Option D :=
 cutK m (codeK Tryz.prog Zc.sp ⟨0, [], false, []⟩ (inlK Tryz.prog Zc m 4) m Zt (subc [1, 1, 1, 1, 1, 1] (bodyOf Tryz.f19)) ⟨[.junk, .junk, .junk, .junk, .junk, .junk, .junk, .junk, (AV.ptr 6 0), .junk, .junk, .junk, .junk, .junk, .junk, .junk, .junk, .junk, .junk, .junk, .junk, .junk, .junk, .junk, .junk, .junk, .junk, .junk, .junk, .junk, .junk, .junk], [(Blk.d 1 [(D.list u2_0 u2_1 u2_2)]), (Blk.d 1 [(D.list u2_3 u2_4 u2_5)]), (Blk.d u2_6 u2_7), (Blk.d u2_8 u2_9), (Blk.d u2_10 u2_11), (Blk.a 5 [(AV.d (D.list u2_12 u2_13 u2_14)), (AV.d (D.v (.int .i64 u2_15))), (AV.sl 2 0 u2_16 (some u2_17) 1), (AV.sl 3 0 u2_18 (some u2_19) 1), (AV.sl 4 0 u2_20 (some u2_21) 1)]), (Blk.a 1 [(AV.sl 9 0 u2_22 none 1)]), (Blk.a 1 [(AV.ptr 5 0)]), (Blk.loop 3 none [.junk, .junk, .junk, .junk, (AV.d (D.list 0 (some 0) [])), (AV.d (D.v (.int .i64 u2_23))), .junk, .junk, (AV.ptr 6 0), .junk, .junk, .junk, .junk, .junk, .junk, .junk, .junk, .junk, .junk, .junk, .junk, .junk, .junk, .junk, .junk, .junk, .junk, .junk, .junk, .junk, .junk, .junk] [25] (subc [1, 1, 1, 1, 1, 0, 1, 0, 0] (bodyOf Tryz.f19)) (subc [1, 1, 1, 1, 1, 0, 1, 0, 1] (bodyOf Tryz.f19)) Zt), (Blk.d u2_24 u2_25)]⟩
  (contK Tryz.prog Zc.sp ⟨0, [], false, []⟩ (inlK Tryz.prog Zc m 4) m Zt (endK Tryz.prog Tryz.f19 (fun v L => viewK L 8 v some)) []))
theorem Zpf (m : Nat) (u2_0 : Nat) (u2_1 : Option Nat) (u2_2 : List D) (u2_3 : Nat) (u2_4 : Option Nat) (u2_5 : List D) (u2_6 : Nat) (u2_7 : List D) (u2_8 : Nat) (u2_9 : List D) (u2_10 : Nat) (u2_11 : List D) (u2_12 : Nat) (u2_13 : Option Nat) (u2_14 : List D) (u2_15 : Int) (u2_16 : Nat) (u2_17 : Nat) (u2_18 : Nat) (u2_19 : Nat) (u2_20 : Nat) (u2_21 : Nat) (u2_22 : Nat) (u2_23 : Int) (u2_24 : Nat) (u2_25 : List D) : Zl3 m u2_0 u2_1 u2_2 u2_3 u2_4 u2_5 u2_6 u2_7 u2_8 u2_9 u2_10 u2_11 u2_12 u2_13 u2_14 u2_15 u2_16 u2_17 u2_18 u2_19 u2_20 u2_21 u2_22 u2_23 u2_24 u2_25 =
 (if (0 + (u2_22 * 1)) ≤ u2_24 then
 (Z2j [(D.list u2_22 none (cutL u2_24 u2_25 0 (u2_22 * 1)))]).bind fun d33 =>
 (rdL (some d33)).bind fun q34 =>
 if (0 + (u2_22 * 1)) ≤ u2_24 then
 some (D.tup [(D.list q34.n q34.cap q34.cs), zI])
 else none
 else none) := (cutK_eq m _).trans (by kernel_rfl)
theorem Zbw (m n0 : Nat) (y2_0 : Nat) (y2_1 : Nat) (y2_2 : Int) (y2_3 : Int) (y2_4 : Nat) (y2_5 : Option Nat) (y2_6 : List D) (y2_7 : Nat) (y2_8 : Option Nat) (y2_9 : List D) (y2_10 : Nat) (y2_11 : List D) (y2_12 : Nat) (y2_13 : List D) (y2_14 : Nat) (y2_15 : List D) (y2_16 : Nat) (y2_17 : Option Nat) (y2_18 : List D) (y2_19 : Int) (y2_20 : Nat) (y2_21 : Nat) (y2_22 : Nat) (y2_23 : Nat) (y2_24 : Nat) (y2_25 : Nat) (y2_26 : List D) : Z1c m (n0 + 1) y2_0 y2_1 y2_2 y2_3 y2_4 y2_5 y2_6 y2_7 y2_8 y2_9 y2_10 y2_11 y2_12 y2_13 y2_14 y2_15 y2_16 y2_17 y2_18 y2_19 y2_20 y2_21 y2_22 y2_23 y2_24 y2_25 y2_26 =
 (cond (decide (y2_3 < y2_2))
 (if 0 ≤ y2_3 ∧ y2_3 < ((y2_0 : Nat) : Int) then
 (rdB y2_15[(0 + ((Int.toNat y2_3) * 1))]?).bind fun b32 =>
 cond (!b32)
 (if ownB ⟨10, [0, 1, 2, 3, 9], true, []⟩ 9 = true ∧ y2_25 = (y2_24 * 1) ∧ fitsRow (y2_24 + 1) 8 ∧ 1 = 1 then
 Z1c m n0 y2_0 y2_1 y2_2 (IntKind.wrap .i64 (y2_3 + (1 : Int))) y2_4 y2_5 y2_6 y2_7 y2_8 y2_9 y2_10 y2_11 y2_12 y2_13 y2_14 y2_15 y2_16 y2_17 y2_18 y2_19 y2_20 y2_21 y2_22 y2_23 (y2_24 + 1) ((y2_24 + 1) * 1) (y2_26 ++ [(D.v (.int .i64 y2_3))])
 else none)
 (Z1c m n0 y2_0 y2_1 y2_2 (IntKind.wrap .i64 (y2_3 + (1 : Int))) y2_4 y2_5 y2_6 y2_7 y2_8 y2_9 y2_10 y2_11 y2_12 y2_13 y2_14 y2_15 y2_16 y2_17 y2_18 y2_19 y2_20 y2_21 y2_22 y2_23 y2_24 y2_25 y2_26)
 else none)
 (Zl3 m y2_4 y2_5 y2_6 y2_7 y2_8 y2_9 y2_10 y2_11 y2_12 y2_13 y2_14 y2_15 y2_16 y2_17 y2_18 y2_19 y2_20 y2_21 y2_22 y2_23 y2_0 y2_1 y2_24 (0 : Int) y2_25 y2_26)) := by kernel_rfl
theorem Zdt (m n0 : Nat) (a0_0n : Nat) (a0_0c : Option Nat) (a0_0 : List D) (a1 : Int) (y1_0 : Int) (y1_1 : Nat) (y1_2 : Option Nat) (y1_3 : List D) (y1_4 : Nat) (y1_5 : Option Nat) (y1_6 : List D) (y1_7 : Nat) (y1_8 : List D) (y1_9 : Nat) (y1_10 : List D) (y1_11 : Nat) (y1_12 : List D) (y1_13 : Nat) (y1_14 : Option Nat) (y1_15 : List D) (y1_16 : Int) (y1_17 : Nat) (y1_18 : Nat) (y1_19 : Nat) (y1_20 : Nat) (y1_21 : Nat) (y1_22 : Nat) : Z23 m (n0 + 1) a0_0n a0_0c a0_0 a1 y1_0 y1_1 y1_2 y1_3 y1_4 y1_5 y1_6 y1_7 y1_8 y1_9 y1_10 y1_11 y1_12 y1_13 y1_14 y1_15 y1_16 y1_17 y1_18 y1_19 y1_20 y1_21 y1_22 =
 (cond (decide (y1_0 ≥ (0 : Int)))
 (if 0 ≤ y1_0 ∧ y1_0 < ((y1_21 : Nat) : Int) then
 (rdB y1_12[(0 + ((Int.toNat y1_0) * 1))]?).bind fun b25 =>
 cond (!b25)
 (if 0 ≤ y1_0 ∧ y1_0 < ((y1_17 : Nat) : Int) then
 (rdI .i64 y1_8[(0 + ((Int.toNat y1_0) * 1))]?).bind fun x26 =>
 cond (decide (x26 < y1_16))
 (if 0 ≤ y1_0 ∧ y1_0 < ((y1_19 : Nat) : Int) then
 (rdI .i64 y1_10[(0 + ((Int.toNat y1_0) * 1))]?).bind fun x27 =>
 cond (x27 == (0 : Int))
 (if 0 ≤ y1_0 ∧ y1_0 < ((y1_21 : Nat) : Int) then
 if 1 = 1 ∧ (0 + ((Int.toNat y1_0) * 1)) < y1_11 then
 cond (decide (y1_0 > (0 : Int)))
 (if 0 ≤ y1_0 ∧ y1_0 < ((y1_13 : Nat) : Int) then
 (rdI .i64 y1_15[(((Int.toNat y1_0) * 20) + 0)]?).bind fun x28 =>
 if 0 ≤ x28 ∧ x28 < ((y1_19 : Nat) : Int) then
 (rdI .i64 y1_10[(0 + ((Int.toNat x28) * 1))]?).bind fun x29 =>
 if 0 ≤ x28 ∧ x28 < ((y1_19 : Nat) : Int) then
 if 1 = 1 ∧ (0 + ((Int.toNat x28) * 1)) < y1_9 then
 Z17 m n0 a0_0n a0_0c a0_0 a1 y1_0 y1_1 y1_2 y1_3 y1_4 y1_5 y1_6 y1_7 y1_8 y1_9 (List.set y1_10 (0 + ((Int.toNat x28) * 1)) (D.v (.int .i64 (IntKind.wrap .i64 (x29 - (1 : Int)))))) y1_11 (List.set y1_12 (0 + ((Int.toNat y1_0) * 1)) (D.v (.bool true))) y1_13 y1_14 y1_15 y1_16 y1_17 y1_18 y1_19 y1_20 y1_21 y1_22
 else none
 else none
 else none
 else none)
 (Z17 m n0 a0_0n a0_0c a0_0 a1 y1_0 y1_1 y1_2 y1_3 y1_4 y1_5 y1_6 y1_7 y1_8 y1_9 y1_10 y1_11 (List.set y1_12 (0 + ((Int.toNat y1_0) * 1)) (D.v (.bool true))) y1_13 y1_14 y1_15 y1_16 y1_17 y1_18 y1_19 y1_20 y1_21 y1_22)
 else none
 else none)
 (Z17 m n0 a0_0n a0_0c a0_0 a1 y1_0 y1_1 y1_2 y1_3 y1_4 y1_5 y1_6 y1_7 y1_8 y1_9 y1_10 y1_11 y1_12 y1_13 y1_14 y1_15 y1_16 y1_17 y1_18 y1_19 y1_20 y1_21 y1_22)
 else none)
 (Z17 m n0 a0_0n a0_0c a0_0 a1 y1_0 y1_1 y1_2 y1_3 y1_4 y1_5 y1_6 y1_7 y1_8 y1_9 y1_10 y1_11 y1_12 y1_13 y1_14 y1_15 y1_16 y1_17 y1_18 y1_19 y1_20 y1_21 y1_22)
 else none)
 (Z17 m n0 a0_0n a0_0c a0_0 a1 y1_0 y1_1 y1_2 y1_3 y1_4 y1_5 y1_6 y1_7 y1_8 y1_9 y1_10 y1_11 y1_12 y1_13 y1_14 y1_15 y1_16 y1_17 y1_18 y1_19 y1_20 y1_21 y1_22)
 else none)
 (Z1c m m y1_21 y1_22 ((y1_21 : Nat) : Int) (0 : Int) y1_1 y1_2 y1_3 y1_4 y1_5 y1_6 y1_7 y1_8 y1_9 y1_10 y1_11 y1_12 y1_13 y1_14 y1_15 y1_16 y1_17 y1_18 y1_19 y1_20 0 0 [])) := by kernel_rfl
theorem Zfo (m n0 : Nat) (a0_0n : Nat) (a0_0c : Option Nat) (a0_0 : List D) (a1 : Int) (y0_0 : Nat) (y0_1 : Option Nat) (y0_2 : List D) (y0_3 : Int) (y0_4 : Int) (y0_5 : Nat) (y0_6 : Option Nat) (y0_7 : List D) (y0_8 : Nat) (y0_9 : List D) (y0_10 : List D) (y0_11 : List D) (y0_12 : Int) (y0_13 : Nat) : Z2n m (n0 + 1) a0_0n a0_0c a0_0 a1 y0_0 y0_1 y0_2 y0_3 y0_4 y0_5 y0_6 y0_7 y0_8 y0_9 y0_10 y0_11 y0_12 y0_13 =
 (cond (decide (y0_4 < y0_3))
 (if 0 ≤ y0_4 ∧ y0_4 < ((y0_0 : Nat) : Int) then
 if (((Int.toNat y0_4) * 20) + 20) ≤ (List.length y0_2) then
 if (List.length ((List.drop ((Int.toNat y0_4) * 20) y0_2).take 20)) = 20 then
 cond (decide (y0_4 > (0 : Int)))
 ((rdI .i64 ((List.drop ((Int.toNat y0_4) * 20) y0_2).take 20)[0]?).bind fun x11 =>
 if 0 ≤ x11 ∧ x11 < ((y0_13 : Nat) : Int) then
 (rdI .i64 y0_9[(0 + ((Int.toNat x11) * 1))]?).bind fun x12 =>
 if 0 ≤ y0_4 ∧ y0_4 < ((y0_13 : Nat) : Int) then
 if 1 = 1 ∧ (0 + ((Int.toNat y0_4) * 1)) < y0_8 then
 (rdI .i64 ((List.drop ((Int.toNat y0_4) * 20) y0_2).take 20)[0]?).bind fun x13 =>
 if 0 ≤ x13 ∧ x13 < ((y0_13 : Nat) : Int) then
 (rdI .i64 y0_10[(0 + ((Int.toNat x13) * 1))]?).bind fun x14 =>
 if 0 ≤ x13 ∧ x13 < ((y0_13 : Nat) : Int) then
 if 1 = 1 ∧ (0 + ((Int.toNat x13) * 1)) < y0_8 then
 Z2n m n0 a0_0n a0_0c a0_0 a1 y0_0 y0_1 y0_2 y0_3 (IntKind.wrap .i64 (y0_4 + (1 : Int))) y0_5 y0_6 y0_7 y0_8 (List.set y0_9 (0 + ((Int.toNat y0_4) * 1)) (D.v (.int .i64 (IntKind.wrap .i64 (x12 + (1 : Int)))))) (List.set y0_10 (0 + ((Int.toNat x13) * 1)) (D.v (.int .i64 (IntKind.wrap .i64 (x14 + (1 : Int)))))) y0_11 y0_12 y0_13
 else none
 else none
 else none
 else none
 else none
 else none)
 (Z2n m n0 a0_0n a0_0c a0_0 a1 y0_0 y0_1 y0_2 y0_3 (IntKind.wrap .i64 (y0_4 + (1 : Int))) y0_5 y0_6 y0_7 y0_8 y0_9 y0_10 y0_11 y0_12 y0_13)
 else none
 else none
 else none)
 (Z23 m m a0_0n a0_0c a0_0 a1 (IntKind.wrap .i64 (((y0_13 : Nat) : Int) - (1 : Int))) y0_5 y0_6 y0_7 y0_0 y0_1 y0_2 y0_8 y0_9 y0_8 y0_10 y0_8 y0_11 y0_0 y0_1 y0_2 y0_12 y0_13 y0_13 y0_13 y0_13 y0_13 y0_13)) := by kernel_rfl
theorem Zf8 (m : Nat) (a0_0n : Nat) (a0_0c : Option Nat) (a0_0 : List D) (a1 : Int) (u0_0 : Int) (u0_1 : Nat) (u0_2 : Option Nat) (u0_3 : List D) (u0_4 : Nat) (u0_5 : Option Nat) (u0_6 : List D) : Z6y m a0_0n a0_0c a0_0 a1 u0_0 u0_1 u0_2 u0_3 u0_4 u0_5 u0_6 =
 (if 0 ≤ ((u0_4 : Nat) : Int) ∧ ((u0_4 : Nat) : Int) ≤ ((u0_4 : Nat) : Int) ∧ fitsRow (Int.toNat ((u0_4 : Nat) : Int)) 8 then
 if 0 ≤ ((u0_4 : Nat) : Int) ∧ ((u0_4 : Nat) : Int) ≤ ((u0_4 : Nat) : Int) ∧ fitsRow (Int.toNat ((u0_4 : Nat) : Int)) 8 then
 if 0 ≤ ((u0_4 : Nat) : Int) ∧ ((u0_4 : Nat) : Int) ≤ ((u0_4 : Nat) : Int) ∧ fitsRow (Int.toNat ((u0_4 : Nat) : Int)) 1 then
 Z2n m m a0_0n a0_0c a0_0 a1 u0_4 u0_5 u0_6 ((u0_4 : Nat) : Int) (0 : Int) u0_1 u0_2 u0_3 ((Int.toNat ((u0_4 : Nat) : Int)) * 1) (List.flatten (List.replicate (Int.toNat ((u0_4 : Nat) : Int)) [zI])) (List.flatten (List.replicate (Int.toNat ((u0_4 : Nat) : Int)) [zI])) (List.flatten (List.replicate (Int.toNat ((u0_4 : Nat) : Int)) [(D.v (.bool false))])) u0_0 (Int.toNat ((u0_4 : Nat) : Int))
 else none
 else none
 else none) := (cutK_eq m _).trans (by kernel_rfl)
noncomputable def Zfz (m : Nat) (a0_0n : Nat) (a0_0c : Option Nat) (a0_0 : List D) (a1 : Int) : Option D :=
 (Z1x [(D.agg [(D.list a0_0n a0_0c a0_0)])]).bind fun d1 =>
 (rdI .i64 (some d1)).bind fun x2 =>
 cond (x2 != (0 : Int))
 (cond (x2 != (0 : Int))
 (some (D.tup [(D.list 0 (some 0) []), (D.v (.int .i64 x2))]))
 (none))
 (cond (decide (a1 < (0 : Int)))
 (some (D.tup [(D.list 0 (some 0) []), (D.v (.int .i64 (1 : Int)))]))
 (cond (decide (a1 > (64 : Int)))
 (some (D.tup [(D.list 0 (some 0) []), (D.v (.int .i64 (1 : Int)))]))
 (Z6y m a0_0n a0_0c a0_0 a1 a1 a0_0n a0_0c a0_0 a0_0n a0_0c a0_0)))
theorem Zrf (m : Nat) (a0_0n : Nat) (a0_0c : Option Nat) (a0_0 : List D) (a1 : Int) : funD Tryz.prog Zc m 4 Zt Tryz.f19 [(D.agg [(D.list a0_0n a0_0c a0_0)]), (D.v (.int .i64 a1))] = Zfz m a0_0n a0_0c a0_0 a1 := by kernel_rfl
theorem Ztb : Enters Tryz.prog 19 := ⟨Tryz.f19, Tryz.func19, by kernel_rfl, by kernel_rfl⟩
theorem Ztc {ds : List D} {d : D} (h : funD Tryz.prog Zc M 4 Zt Tryz.f19 ds = some d) : DataSem Tryz.prog 19 ds d := data_sound (H := Zc) (SpOk.cons Z7y (SpOk.cons Ziw SpOk.nil)) mixed (InlOk.cons Tryz.func64 Za1 (InlOk.cons Tryz.func66 Zj7 (InlOk.cons Tryz.func67 Z57 (InlOk.cons Tryz.func68 Zov (InlOk.cons Tryz.func105 Zmi (InlOk.cons Tryz.func71 Z3c InlOk.nil)))))) Tryz.func19 Ztb h
noncomputable def Zu : List D → Option D
  | [.agg [.list a0_0n a0_0c a0_0], .v (.int .i64 a1)] => Zfz M a0_0n a0_0c a0_0 a1
  | _ => none
theorem Znq : ∀ ds d, Zu ds = some d → DataSem Tryz.prog 19 ds d := by
  intro ds d h
  unfold Zu at h
  split at h
  · exact Ztc ((Zrf M _ _ _ _).trans h)
  · cases h

end Go.Ev
