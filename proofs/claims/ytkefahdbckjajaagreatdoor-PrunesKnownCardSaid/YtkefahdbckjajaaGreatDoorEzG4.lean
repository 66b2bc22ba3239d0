/- Functions of the given program in plain form,printed: each with the proof that it is what the evaluator comes to,and that the program function returns what it says. No conditions. -/
import Derived.Test.YtkefahdbckjajaaGreatDoorEzG3
set_option linter.unusedVariables false
set_option maxRecDepth 100000
namespace Go.Ev
open Go Go.Proofs
def Zby : FnH := ⟨[],[]⟩
noncomputable def Zsx : Hints := ⟨[],[],[]⟩
noncomputable def Zmd (m : Nat) (a0n : Nat) (a0c : Option Nat) (a0 : List D) : Option D :=
 cond ((a0n : Int) == (0 : Int))
 (some (D.list 0 (some 0) []))
 (if 0 ≤ (0 : Int) ∧ (0 : Int) ≤ (a0n : Int) ∧ fitsRow (Int.toNat (a0n : Int)) 8 then
 if (List.length a0) = (a0n * 1) then
 if (0 + a0n) ≤ (Int.toNat (a0n : Int)) then
 (if (0 + ((0 + a0n) * 1)) ≤ ((Int.toNat (a0n : Int)) * 1) ∧ (List.length a0) = (a0n * 1) then
 if (0 + ((0 + a0n) * 1)) ≤ ((Int.toNat (a0n : Int)) * 1) then
 some (D.list (0 + a0n) (some (Int.toNat (a0n : Int))) (cutL ((Int.toNat (a0n : Int)) * 1) (List.take 0 (List.flatten (List.replicate (Int.toNat (a0n : Int)) [zI])) ++ (a0 ++ List.drop (0 + ((0 + a0n) * 1)) (List.flatten (List.replicate (Int.toNat (a0n : Int)) [zI])))) 0 ((0 + a0n) * 1)))
 else none
 else none)
 else
 (if fitsRow (0 + a0n) 8 ∧ (List.length a0) = (a0n * 1) then
 if 0 ≤ ((Int.toNat (a0n : Int)) * 1) then
 if (0 + ((0 + a0n) * 1)) ≤ ((0 + a0n) * 1) then
 some (D.list (0 + a0n) none (cutL ((0 + a0n) * 1) ((cutL ((Int.toNat (a0n : Int)) * 1) (List.flatten (List.replicate (Int.toNat (a0n : Int)) [zI])) 0 0) ++ a0) 0 ((0 + a0n) * 1)))
 else none
 else none
 else none)
 else none
 else none)
theorem Z167 (m : Nat) (a0n : Nat) (a0c : Option Nat) (a0 : List D) : funD Tg Zsx m 4 Zby Tryz.f69 [(D.list a0n a0c a0)] = Zmd m a0n a0c a0 := by kernel_rfl
theorem Z1av : Enters Tg 69 := ⟨Tryz.f69,Tryz.func69,by kernel_rfl,by kernel_rfl⟩
theorem Z1aw {ds : List D} {d : D} (h : funD Tg Zsx M 4 Zby Tryz.f69 ds = some d) : DataSem Tg 69 ds d := Zf (H := Zsx) SpOk.nil mixed InlOk.nil Tryz.func69 Z1av h
noncomputable def Z4f : List D → Option D
 | [.list a0n a0c a0] => Zmd M a0n a0c a0
 | _ => none
theorem Zqt : ∀ ds d,Z4f ds = some d → DataSem Tg 69 ds d := by
 intro ds d h
 unfold Z4f at h
 split at h
 ·exact Z1aw ((Z167 M _ _ _).trans h)
 ·cases h
def Z2r : FnH := ⟨[],[]⟩
def Z35 : FnH := ⟨[(9,⟨(bm 481036337408 72),[],(some 5)⟩)],[(6,⟨(bm 6 72),[],(some 1)⟩)]⟩
def Z5c : FnH := ⟨[(3,⟨(bm 1545 23),[(3,1)],(some 1)⟩)],[]⟩
def Zbz : FnH := ⟨[],[]⟩
noncomputable def Zv : Hints := ⟨[(60,Z3b),(69,Z4f)],[(64,Tryz.f64,Z35),(65,Tryz.f65,Z5c),(71,Tryz.f71,Zbz)],[]⟩
noncomputable def Z8i (m : Nat) (a0_0n : Nat) (a0_0c : Option Nat) (a0_0 : List D) (a1 : Int) (Z2y : Int) (Z4c : Nat) (Z40 : Option Nat) (Z3k : List D) (Z2j : Nat) (Z6i : Option Nat) (Z7k : List D) : Option D :=
 cutK m (codeK Tg Zv.sp ⟨1,[],true,[]⟩ (inlK Tg Zv m 3) m Z35 (subc [1,1,1] (bodyOf Tryz.f64)) ⟨[Jk,(AV.d (D.v (.int .i64 Z2y))),(AV.ptr 1 0),Jk,Jk,Jk,Jk,Jk,Jk,Jk,Jk,Jk,Jk,Jk,Jk,Jk,Jk,Jk,Jk,Jk,Jk,Jk,Jk,Jk,Jk,Jk,Jk,Jk,Jk,Jk,Jk,Jk,Jk,Jk,Jk,Jk,Jk,Jk,Jk,Jk,Jk,Jk,Jk,Jk,Jk,Jk,Jk,Jk,Jk,Jk,Jk,Jk,Jk,Jk,Jk,Jk,Jk,Jk,Jk,Jk,Jk,Jk,Jk,Jk,Jk,Jk,Jk,Jk,Jk,Jk,Jk,Jk],[(Blk.d 1 [(D.list Z4c Z40 Z3k)]),(Blk.d 1 [(D.list Z2j Z6i Z7k)])]⟩
  (contK Tg Zv.sp ⟨1,[],true,[]⟩ (inlK Tg Zv m 3) m Z35 (endK Tg Tryz.f64 (fun v L => opsK Tg Zv.sp ⟨0,[],false,[]⟩ [] (inlK Tg Zv m 4) (regOps (subc [1,0] (bodyOf Tryz.f18))) (List.drop 3 (Array.toList (regOps (subc [1,0] (bodyOf Tryz.f18))))) ⟨setSl [(AV.d (D.agg [(D.list a0_0n a0_0c a0_0)])),(AV.d (D.v (.int .i64 a1))),(AV.ptr 0 0),Jk,(AV.d (D.list 0 (some 0) [])),(AV.d zI),Jk,Jk,Jk,(AV.d (D.agg [(D.list a0_0n a0_0c a0_0)])),(AV.d (D.v (.int .i64 a1))),Jk,Jk,Jk,Jk,Jk,Jk,Jk,Jk] (some 11) v,L⟩ (fun st => contK Tg Zv.sp ⟨0,[],false,[]⟩ (inlK Tg Zv m 4) m Z2r (endK Tg Tryz.f18 (fun v L => viewK L 8 v some)) [.code (subc [1,1] (bodyOf Tryz.f18))] .normal st))) []))
noncomputable def Z36 (m n0 : Nat) (a0_0n : Nat) (a0_0c : Option Nat) (a0_0 : List D) (a1 : Int) (Zz : Nat) (Z13 : Option Nat) (Z18 : List D) (Z1b : Int) (Z14 : Int) (Z1q : Nat) (Z1z : Option Nat) (Z32 : List D) (Z4e : Nat) (Zfw : List D) (Z63 : List D) (Z5u : List D) (Z6o : Int) (Z2o : Nat) : Option D :=
 Z1e (bm 481036337408 72) 1 6 (codeK Tg Zv.sp ⟨1,[],true,[]⟩ (inlK Tg Zv m 3) m Z35 (subc [1,1,1,1,1,0,1,0,0] (bodyOf Tryz.f64))) n0 ⟨[Jk,Jk,Jk,Jk,Jk,Jk,Jk,Jk,(AV.ptr 5 0),Jk,Jk,Jk,Jk,Jk,Jk,Jk,Jk,Jk,Jk,Jk,Jk,Jk,Jk,Jk,Jk,Jk,Jk,Jk,Jk,Jk,Jk,Jk,Jk,Jk,Jk,Jk,(AV.d (D.list Zz Z13 Z18)),(AV.d (D.v (.int .i64 Z1b))),(AV.d (D.v (.int .i64 Z14))),Jk,Jk,Jk,Jk,Jk,Jk,Jk,Jk,Jk,Jk,Jk,Jk,Jk,Jk,Jk,Jk,Jk,Jk,Jk,Jk,Jk,Jk,Jk,Jk,Jk,Jk,Jk,Jk,Jk,Jk,Jk,Jk,Jk],[(Blk.d 1 [(D.list Z1q Z1z Z32)]),(Blk.d 1 [(D.list Zz Z13 Z18)]),(Blk.d Z4e Zfw),(Blk.d Z4e Z63),(Blk.d Z4e Z5u),(Blk.a 5 [(AV.d (D.list Zz Z13 Z18)),(AV.d (D.v (.int .i64 Z6o))),(AV.sl 2 0 Z2o (some Z2o) 1),(AV.sl 3 0 Z2o (some Z2o) 1),(AV.sl 4 0 Z2o (some Z2o) 1)])]⟩
  (contK Tg Zv.sp ⟨1,[],true,[]⟩ (inlK Tg Zv m 3) m Z35 (endK Tg Tryz.f64 (fun v L => opsK Tg Zv.sp ⟨0,[],false,[]⟩ [] (inlK Tg Zv m 4) (regOps (subc [1,0] (bodyOf Tryz.f18))) (List.drop 3 (Array.toList (regOps (subc [1,0] (bodyOf Tryz.f18))))) ⟨setSl [(AV.d (D.agg [(D.list a0_0n a0_0c a0_0)])),(AV.d (D.v (.int .i64 a1))),(AV.ptr 0 0),Jk,(AV.d (D.list 0 (some 0) [])),(AV.d zI),Jk,Jk,Jk,(AV.d (D.agg [(D.list a0_0n a0_0c a0_0)])),(AV.d (D.v (.int .i64 a1))),Jk,Jk,Jk,Jk,Jk,Jk,Jk,Jk] (some 11) v,L⟩ (fun st => contK Tg Zv.sp ⟨0,[],false,[]⟩ (inlK Tg Zv m 4) m Z2r (endK Tg Tryz.f18 (fun v L => viewK L 8 v some)) [.code (subc [1,1] (bodyOf Tryz.f18))] .normal st))) [.block 0,.code (subc [1,1,1,1,1,1] (bodyOf Tryz.f64))])
noncomputable def Z1d (m n0 : Nat) (a0_0n : Nat) (a0_0c : Option Nat) (a0_0 : List D) (a1 : Int) (Z43 : Nat) (Z76 : Int) (Z56 : Int) (Z61 : Nat) (Z5a : Option Nat) (Z5r : List D) (Z4r : Nat) (Z5f : Option Nat) (Z5s : List D) (Z5t : Nat) (Z42 : List D) (Z3z : List D) (Z3l : List D) (Z4o : Int) (Z1t : Nat) (Z4s : Nat) (Z5m : List D) : Option D :=
 Z1e (bm 1545 23) 6 7 (codeK Tg Zv.sp ⟨6,[1,2,3,4],true,[]⟩ (inlK Tg Zv m 3) m Z5c (subc [1,1,0,1,0,0] (bodyOf Tryz.f65))) n0 ⟨[(AV.ptr 5 0),Jk,Jk,(AV.sl 6 0 Z43 none 1),Jk,Jk,Jk,Jk,Jk,(AV.d (D.v (.int .i64 Z76))),(AV.d (D.v (.int .i64 Z56))),Jk,Jk,Jk,Jk,Jk,Jk,Jk,Jk,Jk,Jk,Jk,Jk],[(Blk.d 1 [(D.list Z61 Z5a Z5r)]),(Blk.d 1 [(D.list Z4r Z5f Z5s)]),(Blk.d Z5t Z42),(Blk.d Z5t Z3z),(Blk.d Z5t Z3l),(Blk.a 5 [(AV.d (D.list Z4r Z5f Z5s)),(AV.d (D.v (.int .i64 Z4o))),(AV.sl 2 0 Z1t (some Z1t) 1),(AV.sl 3 0 Z1t (some Z1t) 1),(AV.sl 4 0 Z1t (some Z1t) 1)]),(Blk.d Z4s Z5m)]⟩
  (contK Tg Zv.sp ⟨6,[1,2,3,4],true,[]⟩ (inlK Tg Zv m 3) m Z5c (endK Tg Tryz.f65 (fun v L => opsK Tg Zv.sp ⟨0,[],false,[]⟩ [] (inlK Tg Zv m 4) (regOps (subc [1,1,1,0] (bodyOf Tryz.f18))) (List.drop 2 (Array.toList (regOps (subc [1,1,1,0] (bodyOf Tryz.f18))))) ⟨setSl [(AV.d (D.agg [(D.list a0_0n a0_0c a0_0)])),(AV.d (D.v (.int .i64 a1))),(AV.ptr 0 0),Jk,(AV.d (D.list 0 (some 0) [])),(AV.d zI),(AV.ptr 5 0),(AV.d zI),(AV.tup [(AV.ptr 5 0),(AV.d zI)]),(AV.d (D.agg [(D.list a0_0n a0_0c a0_0)])),(AV.d (D.v (.int .i64 a1))),(AV.tup [(AV.ptr 5 0),(AV.d zI)]),(AV.ptr 5 0),(AV.d zI),(AV.d zI),(AV.d (D.v (.bool false))),Jk,(AV.ptr 5 0),Jk] (some 18) v,L⟩ (fun st => contK Tg Zv.sp ⟨0,[],false,[]⟩ (inlK Tg Zv m 4) m Z2r (endK Tg Tryz.f18 (fun v L => viewK L 8 v some)) [.code (subc [1,1,1,1] (bodyOf Tryz.f18))] .normal st))) [.block 0,.code (subc [1,1,1] (bodyOf Tryz.f65))])
theorem Zev (m n0 : Nat) (a0_0n : Nat) (a0_0c : Option Nat) (a0_0 : List D) (a1 : Int) (Z43 : Nat) (Z76 : Int) (Z56 : Int) (Z61 : Nat) (Z5a : Option Nat) (Z5r : List D) (Z4r : Nat) (Z5f : Option Nat) (Z5s : List D) (Z5t : Nat) (Z42 : List D) (Z3z : List D) (Z3l : List D) (Z4o : Int) (Z1t : Nat) (Z4s : Nat) (Z5m : List D) : Z1d m (n0 + 1) a0_0n a0_0c a0_0 a1 Z43 Z76 Z56 Z61 Z5a Z5r Z4r Z5f Z5s Z5t Z42 Z3z Z3l Z4o Z1t Z4s Z5m =
 (cond (decide (Z56 < Z76))
 (if 0 ≤ Z56 ∧ Z56 < (Z1t : Int) then
 (rdB Z3l[(0 + ((Int.toNat Z56) * 1))]?).bind fun b21 =>
 cond (!b21)
 (if 0 ≤ Z56 ∧ Z56 < (Z1t : Int) then
 (rdI .i64 Z42[(0 + ((Int.toNat Z56) * 1))]?).bind fun x22 =>
 cond (decide (x22 < Z4o))
 (if 0 ≤ Z56 ∧ Z56 < (Z1t : Int) then
 (rdI .i64 Z3z[(0 + ((Int.toNat Z56) * 1))]?).bind fun x23 =>
 cond (x23 == (0 : Int))
 (if ownB ⟨6,[1,2,3,4],true,[]⟩ 6 = true ∧ Z4s = (Z43 * 1) ∧ fitsRow (Z43 + 1) 8 ∧ 1 = 1 then
 Z1d m n0 a0_0n a0_0c a0_0 a1 (Z43 + 1) Z76 (IntKind.wrap .i64 (Z56 + (1 : Int))) Z61 Z5a Z5r Z4r Z5f Z5s Z5t Z42 Z3z Z3l Z4o Z1t ((Z43 + 1) * 1) (Z5m ++ [(D.v (.int .i64 Z56))])
 else none)
 (Z1d m n0 a0_0n a0_0c a0_0 a1 Z43 Z76 (IntKind.wrap .i64 (Z56 + (1 : Int))) Z61 Z5a Z5r Z4r Z5f Z5s Z5t Z42 Z3z Z3l Z4o Z1t Z4s Z5m)
 else none)
 (Z1d m n0 a0_0n a0_0c a0_0 a1 Z43 Z76 (IntKind.wrap .i64 (Z56 + (1 : Int))) Z61 Z5a Z5r Z4r Z5f Z5s Z5t Z42 Z3z Z3l Z4o Z1t Z4s Z5m)
 else none)
 (Z1d m n0 a0_0n a0_0c a0_0 a1 Z43 Z76 (IntKind.wrap .i64 (Z56 + (1 : Int))) Z61 Z5a Z5r Z4r Z5f Z5s Z5t Z42 Z3z Z3l Z4o Z1t Z4s Z5m)
 else none)
 (if (0 + (Z43 * 1)) ≤ Z4s then
 (Z4f [(D.list Z43 none (cutL Z4s Z5m 0 (Z43 * 1)))]).bind fun d24 =>
 (rdL (some d24)).bind fun q25 =>
 if (0 + (Z43 * 1)) ≤ Z4s then
 if (0 + (Z43 * 1)) ≤ Z4s then
 some (D.tup [(D.list q25.n q25.cap q25.cs),zI])
 else none
 else none
 else none)) := by kernel_rfl
theorem Zi2 (m n0 : Nat) (a0_0n : Nat) (a0_0c : Option Nat) (a0_0 : List D) (a1 : Int) (Zz : Nat) (Z13 : Option Nat) (Z18 : List D) (Z1b : Int) (Z14 : Int) (Z1q : Nat) (Z1z : Option Nat) (Z32 : List D) (Z4e : Nat) (Zfw : List D) (Z63 : List D) (Z5u : List D) (Z6o : Int) (Z2o : Nat) : Z36 m (n0 + 1) a0_0n a0_0c a0_0 a1 Zz Z13 Z18 Z1b Z14 Z1q Z1z Z32 Z4e Zfw Z63 Z5u Z6o Z2o =
 (cond (decide (Z14 < Z1b))
 (if 0 ≤ Z14 ∧ Z14 < (Zz : Int) then
 if (((Int.toNat Z14) * 20) + 20) ≤ (List.length Z18) then
 if (List.length ((List.drop ((Int.toNat Z14) * 20) Z18).take 20)) = 20 then
 cond (decide (Z14 > (0 : Int)))
 ((rdI .i64 ((List.drop ((Int.toNat Z14) * 20) Z18).take 20)[0]?).bind fun x11 =>
 if 0 ≤ x11 ∧ x11 < (Z2o : Int) then
 (rdI .i64 Zfw[(0 + ((Int.toNat x11) * 1))]?).bind fun x12 =>
 if 0 ≤ Z14 ∧ Z14 < (Z2o : Int) then
 if 1 = 1 ∧ (0 + ((Int.toNat Z14) * 1)) < Z4e then
 (rdI .i64 ((List.drop ((Int.toNat Z14) * 20) Z18).take 20)[0]?).bind fun x13 =>
 if 0 ≤ x13 ∧ x13 < (Z2o : Int) then
 (rdI .i64 Z63[(0 + ((Int.toNat x13) * 1))]?).bind fun x14 =>
 if 0 ≤ x13 ∧ x13 < (Z2o : Int) then
 if 1 = 1 ∧ (0 + ((Int.toNat x13) * 1)) < Z4e then
 Z36 m n0 a0_0n a0_0c a0_0 a1 Zz Z13 Z18 Z1b (IntKind.wrap .i64 (Z14 + (1 : Int))) Z1q Z1z Z32 Z4e (List.set Zfw (0 + ((Int.toNat Z14) * 1)) (D.v (.int .i64 (IntKind.wrap .i64 (x12 + (1 : Int)))))) (List.set Z63 (0 + ((Int.toNat x13) * 1)) (D.v (.int .i64 (IntKind.wrap .i64 (x14 + (1 : Int)))))) Z5u Z6o Z2o
 else none
 else none
 else none
 else none
 else none
 else none)
 (Z36 m n0 a0_0n a0_0c a0_0 a1 Zz Z13 Z18 Z1b (IntKind.wrap .i64 (Z14 + (1 : Int))) Z1q Z1z Z32 Z4e Zfw Z63 Z5u Z6o Z2o)
 else none
 else none
 else none)
 (Z1d m m a0_0n a0_0c a0_0 a1 0 (Z2o : Int) (0 : Int) Z1q Z1z Z32 Zz Z13 Z18 Z4e Zfw Z63 Z5u Z6o Z2o 0 [])) := by kernel_rfl
theorem Zgz (m : Nat) (a0_0n : Nat) (a0_0c : Option Nat) (a0_0 : List D) (a1 : Int) (Z2y : Int) (Z4c : Nat) (Z40 : Option Nat) (Z3k : List D) (Z2j : Nat) (Z6i : Option Nat) (Z7k : List D) : Z8i m a0_0n a0_0c a0_0 a1 Z2y Z4c Z40 Z3k Z2j Z6i Z7k =
 (if 0 ≤ (Z2j : Int) ∧ (Z2j : Int) ≤ (Z2j : Int) ∧ fitsRow (Int.toNat (Z2j : Int)) 8 then
 if 0 ≤ (Z2j : Int) ∧ (Z2j : Int) ≤ (Z2j : Int) ∧ fitsRow (Int.toNat (Z2j : Int)) 8 then
 if 0 ≤ (Z2j : Int) ∧ (Z2j : Int) ≤ (Z2j : Int) ∧ fitsRow (Int.toNat (Z2j : Int)) 1 then
 Z36 m m a0_0n a0_0c a0_0 a1 Z2j Z6i Z7k (Z2j : Int) (0 : Int) Z4c Z40 Z3k ((Int.toNat (Z2j : Int)) * 1) (List.flatten (List.replicate (Int.toNat (Z2j : Int)) [zI])) (List.flatten (List.replicate (Int.toNat (Z2j : Int)) [zI])) (List.flatten (List.replicate (Int.toNat (Z2j : Int)) [(D.v (.bool false))])) Z2y (Int.toNat (Z2j : Int))
 else none
 else none
 else none) := (Z1y m _).trans (by kernel_rfl)
noncomputable def Zct (m : Nat) (a0_0n : Nat) (a0_0c : Option Nat) (a0_0 : List D) (a1 : Int) : Option D :=
 (Z3b [(D.agg [(D.list a0_0n a0_0c a0_0)])]).bind fun d1 =>
 (rdI .i64 (some d1)).bind fun x2 =>
 cond (x2 != (0 : Int))
 (cond (x2 != (0 : Int))
 (some (D.tup [(D.list 0 (some 0) []),(D.v (.int .i64 x2))]))
 (none))
 (cond (decide (a1 < (0 : Int)))
 (some (D.tup [(D.list 0 (some 0) []),(D.v (.int .i64 (1 : Int)))]))
 (cond (decide (a1 > (64 : Int)))
 (some (D.tup [(D.list 0 (some 0) []),(D.v (.int .i64 (1 : Int)))]))
 (Z8i m a0_0n a0_0c a0_0 a1 a1 a0_0n a0_0c a0_0 a0_0n a0_0c a0_0)))
theorem Zyr (m : Nat) (a0_0n : Nat) (a0_0c : Option Nat) (a0_0 : List D) (a1 : Int) : funD Tg Zv m 4 Z2r Tryz.f18 [(D.agg [(D.list a0_0n a0_0c a0_0)]),(D.v (.int .i64 a1))] = Zct m a0_0n a0_0c a0_0 a1 := by kernel_rfl
theorem Z11y : Enters Tg 18 := ⟨Tryz.f18,Tryz.func18,by kernel_rfl,by kernel_rfl⟩
theorem Z11z {ds : List D} {d : D} (h : funD Tg Zv M 4 Z2r Tryz.f18 ds = some d) : DataSem Tg 18 ds d := Zf (H := Zv) (SpOk.cons Zc3 (SpOk.cons Zqt SpOk.nil)) mixed (InlOk.cons Tryz.func64 Ze9 (InlOk.cons Tryz.func65 Zpz (InlOk.cons Tryz.func71 Z5o InlOk.nil))) Tryz.func18 Z11y h
noncomputable def Zk : List D → Option D
 | [.agg [.list a0_0n a0_0c a0_0],.v (.int .i64 a1)] => Zct M a0_0n a0_0c a0_0 a1
 | _ => none
theorem Zi3 : ∀ ds d,Zk ds = some d → DataSem Tg 18 ds d := by
 intro ds d h
 unfold Zk at h
 split at h
 ·exact Z11z ((Zyr M _ _ _ _).trans h)
 ·cases h
def Z1k : FnH := ⟨[],[(6,⟨(bm 324 40),[],(some 7)⟩)]⟩
def Z44 : FnH := ⟨[(9,⟨(bm 481036337408 72),[],(some 5)⟩)],[(6,⟨(bm 6 72),[],(some 1)⟩)]⟩
def Zh0 : FnH := ⟨[],[]⟩
def Z5v : FnH := ⟨[(3,⟨(bm 14349 34),[(3,1)],(some 2)⟩)],[]⟩
def Zew : FnH := ⟨[],[]⟩
noncomputable def Zr : Hints := ⟨[(50,Z2q),(60,Z3b)],[(64,Tryz.f64,Z44),(67,Tryz.f67,Zh0),(70,Tryz.f70,Z5v),(71,Tryz.f71,Zew)],[]⟩
noncomputable def Z147 (m : Nat) (Z2y : Int) (Z4c : Nat) (Z40 : Option Nat) (Z3k : List D) (Z2j : Nat) (Z6i : Option Nat) (Z7k : List D) : Option D :=
 cutK m (codeK Tg Zr.sp ⟨0,[],false,[]⟩ (inlK Tg Zr m 4) m Z1k (subc [1,1,1,1] (bodyOf Tryz.f23)) ⟨[Jk,Jk,(AV.d (D.v (.int .i64 Z2y))),Jk,Jk,Jk,(AV.ptr 1 0),Jk,(AV.d (D.v (.pointer none))),Jk,Jk,Jk,Jk,Jk,Jk,Jk,Jk,Jk,Jk,Jk,Jk,Jk,Jk,Jk,Jk,Jk,Jk,Jk,Jk,Jk,Jk,Jk,Jk,Jk,Jk,Jk,Jk,Jk,Jk,Jk],[(Blk.d 1 [(D.list Z4c Z40 Z3k)]),(Blk.d 1 [(D.list 0 (some 0) [])]),(Blk.d 1 [(D.list Z2j Z6i Z7k)])]⟩
  (contK Tg Zr.sp ⟨0,[],false,[]⟩ (inlK Tg Zr m 4) m Z1k (endK Tg Tryz.f23 (fun v L => viewK L 8 v some)) []))
noncomputable def Za3 (m : Nat) (a0_0n : Nat) (a0_0c : Option Nat) (a0_0 : List D) (a1 : Int) (a2 : Int) (Z9n : Int) (Zbt : Nat) (Zbv : Option Nat) (Zcj : List D) (Z8v : Nat) (Zaj : Option Nat) (Zha : List D) : Option D :=
 cutK m (codeK Tg Zr.sp ⟨2,[],true,[]⟩ (inlK Tg Zr m 3) m Z44 (subc [1,1,1] (bodyOf Tryz.f64)) ⟨[Jk,(AV.d (D.v (.int .i64 Z9n))),(AV.ptr 2 0),Jk,Jk,Jk,Jk,Jk,Jk,Jk,Jk,Jk,Jk,Jk,Jk,Jk,Jk,Jk,Jk,Jk,Jk,Jk,Jk,Jk,Jk,Jk,Jk,Jk,Jk,Jk,Jk,Jk,Jk,Jk,Jk,Jk,Jk,Jk,Jk,Jk,Jk,Jk,Jk,Jk,Jk,Jk,Jk,Jk,Jk,Jk,Jk,Jk,Jk,Jk,Jk,Jk,Jk,Jk,Jk,Jk,Jk,Jk,Jk,Jk,Jk,Jk,Jk,Jk,Jk,Jk,Jk,Jk],[(Blk.d 1 [(D.list Zbt Zbv Zcj)]),(Blk.d 1 [(D.list 0 (some 0) [])]),(Blk.d 1 [(D.list Z8v Zaj Zha)])]⟩
  (contK Tg Zr.sp ⟨2,[],true,[]⟩ (inlK Tg Zr m 3) m Z44 (endK Tg Tryz.f64 (fun v L => opsK Tg Zr.sp ⟨0,[],false,[]⟩ [] (inlK Tg Zr m 4) (regOps (subc [1,0] (bodyOf Tryz.f23))) (List.drop 3 (Array.toList (regOps (subc [1,0] (bodyOf Tryz.f23))))) ⟨setSl [(AV.d (D.agg [(D.list a0_0n a0_0c a0_0)])),(AV.d (D.v (.int .i64 a1))),(AV.d (D.v (.int .i64 a2))),(AV.ptr 0 0),Jk,Jk,(AV.ptr 1 0),(AV.d zI),Jk,Jk,Jk,(AV.d (D.agg [(D.list a0_0n a0_0c a0_0)])),(AV.d (D.v (.int .i64 a1))),Jk,Jk,Jk,Jk,Jk,Jk,Jk,Jk,Jk,Jk,Jk,Jk,Jk,Jk,Jk,Jk,Jk,Jk,Jk,Jk,Jk,Jk,Jk,Jk,Jk,Jk,Jk] (some 13) v,L⟩ (fun st => contK Tg Zr.sp ⟨0,[],false,[]⟩ (inlK Tg Zr m 4) m Z1k (endK Tg Tryz.f23 (fun v L => viewK L 8 v some)) [.code (subc [1,1] (bodyOf Tryz.f23))] .normal st))) []))
noncomputable def Z45 (m n0 : Nat) (a0_0n : Nat) (a0_0c : Option Nat) (a0_0 : List D) (a1 : Int) (a2 : Int) (Zz : Nat) (Z13 : Option Nat) (Z18 : List D) (Z1b : Int) (Z14 : Int) (Z1q : Nat) (Z1z : Option Nat) (Z32 : List D) (Z4e : Nat) (Zfw : List D) (Z63 : List D) (Z5u : List D) (Z6o : Int) (Z2o : Nat) : Option D :=
 Z1e (bm 481036337408 72) 2 7 (codeK Tg Zr.sp ⟨2,[],true,[]⟩ (inlK Tg Zr m 3) m Z44 (subc [1,1,1,1,1,0,1,0,0] (bodyOf Tryz.f64))) n0 ⟨[Jk,Jk,Jk,Jk,Jk,Jk,Jk,Jk,(AV.ptr 6 0),Jk,Jk,Jk,Jk,Jk,Jk,Jk,Jk,Jk,Jk,Jk,Jk,Jk,Jk,Jk,Jk,Jk,Jk,Jk,Jk,Jk,Jk,Jk,Jk,Jk,Jk,Jk,(AV.d (D.list Zz Z13 Z18)),(AV.d (D.v (.int .i64 Z1b))),(AV.d (D.v (.int .i64 Z14))),Jk,Jk,Jk,Jk,Jk,Jk,Jk,Jk,Jk,Jk,Jk,Jk,Jk,Jk,Jk,Jk,Jk,Jk,Jk,Jk,Jk,Jk,Jk,Jk,Jk,Jk,Jk,Jk,Jk,Jk,Jk,Jk,Jk],[(Blk.d 1 [(D.list Z1q Z1z Z32)]),(Blk.d 1 [(D.list 0 (some 0) [])]),(Blk.d 1 [(D.list Zz Z13 Z18)]),(Blk.d Z4e Zfw),(Blk.d Z4e Z63),(Blk.d Z4e Z5u),(Blk.a 5 [(AV.d (D.list Zz Z13 Z18)),(AV.d (D.v (.int .i64 Z6o))),(AV.sl 3 0 Z2o (some Z2o) 1),(AV.sl 4 0 Z2o (some Z2o) 1),(AV.sl 5 0 Z2o (some Z2o) 1)])]⟩
  (contK Tg Zr.sp ⟨2,[],true,[]⟩ (inlK Tg Zr m 3) m Z44 (endK Tg Tryz.f64 (fun v L => opsK Tg Zr.sp ⟨0,[],false,[]⟩ [] (inlK Tg Zr m 4) (regOps (subc [1,0] (bodyOf Tryz.f23))) (List.drop 3 (Array.toList (regOps (subc [1,0] (bodyOf Tryz.f23))))) ⟨setSl [(AV.d (D.agg [(D.list a0_0n a0_0c a0_0)])),(AV.d (D.v (.int .i64 a1))),(AV.d (D.v (.int .i64 a2))),(AV.ptr 0 0),Jk,Jk,(AV.ptr 1 0),(AV.d zI),Jk,Jk,Jk,(AV.d (D.agg [(D.list a0_0n a0_0c a0_0)])),(AV.d (D.v (.int .i64 a1))),Jk,Jk,Jk,Jk,Jk,Jk,Jk,Jk,Jk,Jk,Jk,Jk,Jk,Jk,Jk,Jk,Jk,Jk,Jk,Jk,Jk,Jk,Jk,Jk,Jk,Jk,Jk] (some 13) v,L⟩ (fun st => contK Tg Zr.sp ⟨0,[],false,[]⟩ (inlK Tg Zr m 4) m Z1k (endK Tg Tryz.f23 (fun v L => viewK L 8 v some)) [.code (subc [1,1] (bodyOf Tryz.f23))] .normal st))) [.block 0,.code (subc [1,1,1,1,1,1] (bodyOf Tryz.f64))])
noncomputable def Zge (m : Nat) (Zc2 : Int) (Zt6 : Nat) (Zv0 : Option Nat) (Zwg : List D) (Zwh : Nat) (Zx3 : Option Nat) (Zza : List D) (Z11c : Nat) (Z11d : List D) (Z15u : Nat) (Zzt : List D) (Z11r : Nat) (Z11s : List D) (Z11t : Nat) (Z142 : Option Nat) (Z11u : List D) (Z11v : Int) (Z11w : Nat) (Z143 : Nat) (Zve : Nat) (Z1fh : Nat) (Z168 : Nat) (Z169 : Nat) : Option D :=
 cutK m (codeK Tg Zr.sp ⟨0,[],false,[]⟩ (inlK Tg Zr m 4) m Z1k (subc [1,1,1,1] (bodyOf Tryz.f23)) ⟨[Jk,Jk,(AV.d (D.v (.int .i64 Zc2))),Jk,Jk,Jk,(AV.ptr 1 0),Jk,(AV.ptr 6 0),Jk,Jk,Jk,Jk,Jk,Jk,Jk,Jk,Jk,Jk,Jk,Jk,Jk,Jk,Jk,Jk,Jk,Jk,Jk,Jk,Jk,Jk,Jk,Jk,Jk,Jk,Jk,Jk,Jk,Jk,Jk],[(Blk.d 1 [(D.list Zt6 Zv0 Zwg)]),(Blk.d 1 [(D.list 0 (some 0) [])]),(Blk.d 1 [(D.list Zwh Zx3 Zza)]),(Blk.d Z11c Z11d),(Blk.d Z15u Zzt),(Blk.d Z11r Z11s),(Blk.a 5 [(AV.d (D.list Z11t Z142 Z11u)),(AV.d (D.v (.int .i64 Z11v))),(AV.sl 3 0 Z11w (some Z143) 1),(AV.sl 4 0 Zve (some Z1fh) 1),(AV.sl 5 0 Z168 (some Z169) 1)])]⟩
  (contK Tg Zr.sp ⟨0,[],false,[]⟩ (inlK Tg Zr m 4) m Z1k (endK Tg Tryz.f23 (fun v L => viewK L 8 v some)) []))
noncomputable def Z2f (m n0 : Nat) (Zc2 : Int) (x17 : Int) (Z43 : Nat) (Z76 : Nat) (Z56 : Nat) (Z61 : Int) (Z5a : Int) (Z5r : Nat) (Z4r : Option Nat) (Z5f : List D) (Z5s : Nat) (Z5t : Option Nat) (Z42 : List D) (Z3z : Nat) (Z3l : List D) (Z4o : Nat) (Z1t : List D) (Z4s : Nat) (Z5m : List D) (Z6s : Nat) (Z6e : Option Nat) (Z8f : List D) (Z8g : Int) (Z8y : Nat) (Z8h : Nat) (Zwu : Nat) (Zr3 : Nat) (Zwv : Nat) (Z1ld : List D) : Option D :=
 Z1e (bm 14349 34) 7 9 (codeK Tg Zr.sp ⟨7,[0,2,3,4,5],true,[]⟩ (inlK Tg Zr m 3) m Z5v (subc [1,1,0,1,0,0] (bodyOf Tryz.f70))) n0 ⟨[(AV.ptr 6 0),Jk,(AV.ptr 7 0),(AV.sl 8 0 Z43 none 1),Jk,Jk,Jk,Jk,Jk,Jk,Jk,(AV.sl 5 0 Z76 (some Z56) 1),(AV.d (D.v (.int .i64 Z61))),(AV.d (D.v (.int .i64 Z5a))),Jk,Jk,Jk,Jk,Jk,Jk,Jk,Jk,Jk,Jk,Jk,Jk,Jk,Jk,Jk,Jk,Jk,Jk,Jk,Jk],[(Blk.d 1 [(D.list Z5r Z4r Z5f)]),(Blk.d 1 [(D.list 0 (some 0) [])]),(Blk.d 1 [(D.list Z5s Z5t Z42)]),(Blk.d Z3z Z3l),(Blk.d Z4o Z1t),(Blk.d Z4s Z5m),(Blk.a 5 [(AV.d (D.list Z6s Z6e Z8f)),(AV.d (D.v (.int .i64 Z8g))),(AV.sl 3 0 Z8y (some Z8h) 1),(AV.sl 4 0 Zwu (some Zr3) 1),(AV.sl 5 0 Z76 (some Z56) 1)]),(Blk.d 1 [(D.list 0 (some 0) [])]),(Blk.d Zwv Z1ld)]⟩
  (contK Tg Zr.sp ⟨7,[0,2,3,4,5],true,[]⟩ (inlK Tg Zr m 3) m Z5v (endK Tg Tryz.f70 (fun v L => opsK Tg Zr.sp ⟨0,[],false,[]⟩ [] (inlK Tg Zr m 4) (regOps (subc [1,1,1,1,1,1,0] (bodyOf Tryz.f23))) (List.drop 2 (Array.toList (regOps (subc [1,1,1,1,1,1,0] (bodyOf Tryz.f23))))) ⟨setSl [Jk,Jk,(AV.d (D.v (.int .i64 Zc2))),Jk,Jk,Jk,(AV.ptr 1 0),Jk,(AV.ptr 6 0),Jk,Jk,Jk,Jk,Jk,Jk,Jk,Jk,Jk,Jk,Jk,Jk,Jk,Jk,Jk,Jk,Jk,Jk,Jk,Jk,Jk,(AV.ptr 6 0),(AV.d (D.v (.int .i64 Zc2))),(AV.d (D.v (.bool (x17 == (0 : Int))))),(AV.d (D.v (.bool false))),Jk,(AV.ptr 6 0),(AV.d (D.v (.int .i64 Zc2))),(AV.d (D.tup [])),(AV.ptr 6 0),Jk] (some 39) v,L⟩ (fun st => contK Tg Zr.sp ⟨0,[],false,[]⟩ (inlK Tg Zr m 4) m Z1k (endK Tg Tryz.f23 (fun v L => viewK L 8 v some)) [.code (subc [1,1,1,1,1,1,1] (bodyOf Tryz.f23))] .normal st))) [.block 0,.code (subc [1,1,1] (bodyOf Tryz.f70))])
theorem Zh1 (m n0 : Nat) (Zc2 : Int) (x17 : Int) (Z43 : Nat) (Z76 : Nat) (Z56 : Nat) (Z61 : Int) (Z5a : Int) (Z5r : Nat) (Z4r : Option Nat) (Z5f : List D) (Z5s : Nat) (Z5t : Option Nat) (Z42 : List D) (Z3z : Nat) (Z3l : List D) (Z4o : Nat) (Z1t : List D) (Z4s : Nat) (Z5m : List D) (Z6s : Nat) (Z6e : Option Nat) (Z8f : List D) (Z8g : Int) (Z8y : Nat) (Z8h : Nat) (Zwu : Nat) (Zr3 : Nat) (Zwv : Nat) (Z1ld : List D) : Z2f m (n0 + 1) Zc2 x17 Z43 Z76 Z56 Z61 Z5a Z5r Z4r Z5f Z5s Z5t Z42 Z3z Z3l Z4o Z1t Z4s Z5m Z6s Z6e Z8f Z8g Z8y Z8h Zwu Zr3 Zwv Z1ld =
 (cond (decide (Z5a < Z61))
 (if 0 ≤ Z5a ∧ Z5a < (Z76 : Int) then
 (rdB Z5m[(0 + ((Int.toNat Z5a) * 1))]?).bind fun b22 =>
 cond b22
 (if ownB ⟨7,[0,2,3,4,5],true,[]⟩ 8 = true ∧ Zwv = (Z43 * 1) ∧ fitsRow (Z43 + 1) 8 ∧ 1 = 1 then
 Z2f m n0 Zc2 x17 (Z43 + 1) Z76 Z56 Z61 (IntKind.wrap .i64 (Z5a + (1 : Int))) Z5r Z4r Z5f Z5s Z5t Z42 Z3z Z3l Z4o Z1t Z4s Z5m Z6s Z6e Z8f Z8g Z8y Z8h Zwu Zr3 ((Z43 + 1) * 1) (Z1ld ++ [(D.v (.int .i64 Z5a))])
 else none)
 (Z2f m n0 Zc2 x17 Z43 Z76 Z56 Z61 (IntKind.wrap .i64 (Z5a + (1 : Int))) Z5r Z4r Z5f Z5s Z5t Z42 Z3z Z3l Z4o Z1t Z4s Z5m Z6s Z6e Z8f Z8g Z8y Z8h Zwu Zr3 Zwv Z1ld)
 else none)
 (if (0 + (Z43 * 1)) ≤ Zwv then
 (Z2q [(D.agg [(D.list Z6s Z6e Z8f)]),(D.list Z43 none (cutL Zwv Z1ld 0 (Z43 * 1)))]).bind fun d23 =>
 (rdT d23).bind fun r24 =>
 if List.length r24 = 2 then
 (rdA r24[0]?).bind fun c25 =>
 (rdI .i64 r24[1]?).bind fun x26 =>
 if (0 + (Z43 * 1)) ≤ Zwv then
 if (0 + (Z43 * 1)) ≤ Zwv then
 if (List.length c25) = 1 then
 if (List.length c25) = 1 then
 if (List.length c25) = 1 then
 some (D.tup [(D.agg c25),zI])
 else none
 else none
 else none
 else none
 else none
 else none
 else none)) := by kernel_rfl
theorem Zww (m : Nat) (Zc2 : Int) (Zt6 : Nat) (Zv0 : Option Nat) (Zwg : List D) (Zwh : Nat) (Zx3 : Option Nat) (Zza : List D) (Z11c : Nat) (Z11d : List D) (Z15u : Nat) (Zzt : List D) (Z11r : Nat) (Z11s : List D) (Z11t : Nat) (Z142 : Option Nat) (Z11u : List D) (Z11v : Int) (Z11w : Nat) (Z143 : Nat) (Zve : Nat) (Z1fh : Nat) (Z168 : Nat) (Z169 : Nat) : Zge m Zc2 Zt6 Zv0 Zwg Zwh Zx3 Zza Z11c Z11d Z15u Zzt Z11r Z11s Z11t Z142 Z11u Z11v Z11w Z143 Zve Z1fh Z168 Z169 =
 (if 0 ≤ Zc2 ∧ Zc2 < (Z168 : Int) then
 (rdB Z11s[(0 + ((Int.toNat Zc2) * 1))]?).bind fun b15 =>
 cond (!b15)
 (if 0 ≤ Zc2 ∧ Zc2 < (Z11w : Int) then
 (rdI .i64 Z11d[(0 + ((Int.toNat Zc2) * 1))]?).bind fun x16 =>
 cond (decide (x16 < Z11v))
 (if 0 ≤ Zc2 ∧ Zc2 < (Zve : Int) then
 (rdI .i64 Zzt[(0 + ((Int.toNat Zc2) * 1))]?).bind fun x17 =>
 cond (!(x17 == (0 : Int)))
 (some (D.tup [(D.agg [(D.list 0 (some 0) [])]),(D.v (.int .i64 (21 : Int)))]))
 (if 0 ≤ Zc2 ∧ Zc2 < (Z168 : Int) then
 if 1 = 1 ∧ (0 + ((Int.toNat Zc2) * 1)) < Z11r then
 cond (decide (Zc2 > (0 : Int)))
 (if 0 ≤ Zc2 ∧ Zc2 < (Z11t : Int) then
 (rdI .i64 Z11u[(((Int.toNat Zc2) * 20) + 0)]?).bind fun x18 =>
 if 0 ≤ x18 ∧ x18 < (Zve : Int) then
 (rdI .i64 Zzt[(0 + ((Int.toNat x18) * 1))]?).bind fun x19 =>
 if 0 ≤ x18 ∧ x18 < (Zve : Int) then
 if 1 = 1 ∧ (0 + ((Int.toNat x18) * 1)) < Z15u then
 Z2f m m Zc2 x17 0 Z168 Z169 (Z168 : Int) (0 : Int) Zt6 Zv0 Zwg Zwh Zx3 Zza Z11c Z11d Z15u (List.set Zzt (0 + ((Int.toNat x18) * 1)) (D.v (.int .i64 (IntKind.wrap .i64 (x19 - (1 : Int)))))) Z11r (List.set Z11s (0 + ((Int.toNat Zc2) * 1)) (D.v (.bool true))) Z11t Z142 Z11u Z11v Z11w Z143 Zve Z1fh 0 []
 else none
 else none
 else none
 else none)
 (Z2f m m Zc2 x17 0 Z168 Z169 (Z168 : Int) (0 : Int) Zt6 Zv0 Zwg Zwh Zx3 Zza Z11c Z11d Z15u Zzt Z11r (List.set Z11s (0 + ((Int.toNat Zc2) * 1)) (D.v (.bool true))) Z11t Z142 Z11u Z11v Z11w Z143 Zve Z1fh 0 [])
 else none
 else none)
 else none)
 (some (D.tup [(D.agg [(D.list 0 (some 0) [])]),(D.v (.int .i64 (21 : Int)))]))
 else none)
 (some (D.tup [(D.agg [(D.list 0 (some 0) [])]),(D.v (.int .i64 (21 : Int)))]))
 else none) := (Z1y m _).trans (by kernel_rfl)
theorem Zkz (m n0 : Nat) (a0_0n : Nat) (a0_0c : Option Nat) (a0_0 : List D) (a1 : Int) (a2 : Int) (Zz : Nat) (Z13 : Option Nat) (Z18 : List D) (Z1b : Int) (Z14 : Int) (Z1q : Nat) (Z1z : Option Nat) (Z32 : List D) (Z4e : Nat) (Zfw : List D) (Z63 : List D) (Z5u : List D) (Z6o : Int) (Z2o : Nat) : Z45 m (n0 + 1) a0_0n a0_0c a0_0 a1 a2 Zz Z13 Z18 Z1b Z14 Z1q Z1z Z32 Z4e Zfw Z63 Z5u Z6o Z2o =
 (cond (decide (Z14 < Z1b))
 (if 0 ≤ Z14 ∧ Z14 < (Zz : Int) then
 if (((Int.toNat Z14) * 20) + 20) ≤ (List.length Z18) then
 if (List.length ((List.drop ((Int.toNat Z14) * 20) Z18).take 20)) = 20 then
 cond (decide (Z14 > (0 : Int)))
 ((rdI .i64 ((List.drop ((Int.toNat Z14) * 20) Z18).take 20)[0]?).bind fun x11 =>
 if 0 ≤ x11 ∧ x11 < (Z2o : Int) then
 (rdI .i64 Zfw[(0 + ((Int.toNat x11) * 1))]?).bind fun x12 =>
 if 0 ≤ Z14 ∧ Z14 < (Z2o : Int) then
 if 1 = 1 ∧ (0 + ((Int.toNat Z14) * 1)) < Z4e then
 (rdI .i64 ((List.drop ((Int.toNat Z14) * 20) Z18).take 20)[0]?).bind fun x13 =>
 if 0 ≤ x13 ∧ x13 < (Z2o : Int) then
 (rdI .i64 Z63[(0 + ((Int.toNat x13) * 1))]?).bind fun x14 =>
 if 0 ≤ x13 ∧ x13 < (Z2o : Int) then
 if 1 = 1 ∧ (0 + ((Int.toNat x13) * 1)) < Z4e then
 Z45 m n0 a0_0n a0_0c a0_0 a1 a2 Zz Z13 Z18 Z1b (IntKind.wrap .i64 (Z14 + (1 : Int))) Z1q Z1z Z32 Z4e (List.set Zfw (0 + ((Int.toNat Z14) * 1)) (D.v (.int .i64 (IntKind.wrap .i64 (x12 + (1 : Int)))))) (List.set Z63 (0 + ((Int.toNat x13) * 1)) (D.v (.int .i64 (IntKind.wrap .i64 (x14 + (1 : Int)))))) Z5u Z6o Z2o
 else none
 else none
 else none
 else none
 else none
 else none)
 (Z45 m n0 a0_0n a0_0c a0_0 a1 a2 Zz Z13 Z18 Z1b (IntKind.wrap .i64 (Z14 + (1 : Int))) Z1q Z1z Z32 Z4e Zfw Z63 Z5u Z6o Z2o)
 else none
 else none
 else none)
 (cond (decide (a2 < (0 : Int)))
 (some (D.tup [(D.agg [(D.list 0 (some 0) [])]),(D.v (.int .i64 (19 : Int)))]))
 (cond (decide (a2 ≥ (Z1q : Int)))
 (some (D.tup [(D.agg [(D.list 0 (some 0) [])]),(D.v (.int .i64 (19 : Int)))]))
 (Zge m a2 Z1q Z1z Z32 Zz Z13 Z18 Z4e Zfw Z4e Z63 Z4e Z5u Zz Z13 Z18 Z6o Z2o Z2o Z2o Z2o Z2o Z2o)))) := by kernel_rfl
theorem Zkc (m : Nat) (a0_0n : Nat) (a0_0c : Option Nat) (a0_0 : List D) (a1 : Int) (a2 : Int) (Z9n : Int) (Zbt : Nat) (Zbv : Option Nat) (Zcj : List D) (Z8v : Nat) (Zaj : Option Nat) (Zha : List D) : Za3 m a0_0n a0_0c a0_0 a1 a2 Z9n Zbt Zbv Zcj Z8v Zaj Zha =
 (if 0 ≤ (Z8v : Int) ∧ (Z8v : Int) ≤ (Z8v : Int) ∧ fitsRow (Int.toNat (Z8v : Int)) 8 then
 if 0 ≤ (Z8v : Int) ∧ (Z8v : Int) ≤ (Z8v : Int) ∧ fitsRow (Int.toNat (Z8v : Int)) 8 then
 if 0 ≤ (Z8v : Int) ∧ (Z8v : Int) ≤ (Z8v : Int) ∧ fitsRow (Int.toNat (Z8v : Int)) 1 then
 Z45 m m a0_0n a0_0c a0_0 a1 a2 Z8v Zaj Zha (Z8v : Int) (0 : Int) Zbt Zbv Zcj ((Int.toNat (Z8v : Int)) * 1) (List.flatten (List.replicate (Int.toNat (Z8v : Int)) [zI])) (List.flatten (List.replicate (Int.toNat (Z8v : Int)) [zI])) (List.flatten (List.replicate (Int.toNat (Z8v : Int)) [(D.v (.bool false))])) Z9n (Int.toNat (Z8v : Int))
 else none
 else none
 else none) := (Z1y m _).trans (by kernel_rfl)
noncomputable def Zkd (m : Nat) (a0_0n : Nat) (a0_0c : Option Nat) (a0_0 : List D) (a1 : Int) (a2 : Int) : Option D :=
 (Z3b [(D.agg [(D.list a0_0n a0_0c a0_0)])]).bind fun d1 =>
 (rdI .i64 (some d1)).bind fun x2 =>
 cond (x2 != (0 : Int))
 (cond (x2 != (0 : Int))
 (some (D.tup [(D.agg [(D.list 0 (some 0) [])]),(D.v (.int .i64 x2))]))
 (cond (decide (a2 < (0 : Int)))
 (some (D.tup [(D.agg [(D.list 0 (some 0) [])]),(D.v (.int .i64 (19 : Int)))]))
 (cond (decide (a2 ≥ (a0_0n : Int)))
 (some (D.tup [(D.agg [(D.list 0 (some 0) [])]),(D.v (.int .i64 (19 : Int)))]))
 (Z147 m a2 a0_0n a0_0c a0_0 a0_0n a0_0c a0_0))))
 (cond (decide (a1 < (0 : Int)))
 (some (D.tup [(D.agg [(D.list 0 (some 0) [])]),(D.v (.int .i64 (1 : Int)))]))
 (cond (decide (a1 > (64 : Int)))
 (some (D.tup [(D.agg [(D.list 0 (some 0) [])]),(D.v (.int .i64 (1 : Int)))]))
 (Za3 m a0_0n a0_0c a0_0 a1 a2 a1 a0_0n a0_0c a0_0 a0_0n a0_0c a0_0)))
theorem Z148 (m : Nat) (a0_0n : Nat) (a0_0c : Option Nat) (a0_0 : List D) (a1 : Int) (a2 : Int) : funD Tg Zr m 4 Z1k Tryz.f23 [(D.agg [(D.list a0_0n a0_0c a0_0)]),(D.v (.int .i64 a1)),(D.v (.int .i64 a2))] = Zkd m a0_0n a0_0c a0_0 a1 a2 := by kernel_rfl
theorem Z182 : Enters Tg 23 := ⟨Tryz.f23,Tryz.func23,by kernel_rfl,by kernel_rfl⟩
theorem Z183 {ds : List D} {d : D} (h : funD Tg Zr M 4 Z1k Tryz.f23 ds = some d) : DataSem Tg 23 ds d := Zf (H := Zr) (SpOk.cons Zqs (SpOk.cons Zc3 SpOk.nil)) mixed (InlOk.cons Tryz.func64 Ze9 (InlOk.cons Tryz.func67 Z8n (InlOk.cons Tryz.func70 Zhj (InlOk.cons Tryz.func71 Z5o InlOk.nil)))) Tryz.func23 Z182 h
noncomputable def Z1i : List D → Option D
 | [.agg [.list a0_0n a0_0c a0_0],.v (.int .i64 a1),.v (.int .i64 a2)] => Zkd M a0_0n a0_0c a0_0 a1 a2
 | _ => none
theorem Zwj : ∀ ds d,Z1i ds = some d → DataSem Tg 23 ds d := by
 intro ds d h
 unfold Z1i at h
 split at h
 ·exact Z183 ((Z148 M _ _ _ _ _).trans h)
 ·cases h
def Z2p : FnH := ⟨[],[]⟩
def Z4g : FnH := ⟨[(9,⟨(bm 481036337408 72),[],(some 5)⟩)],[(6,⟨(bm 6 72),[],(some 1)⟩)]⟩
def Z3g : FnH := ⟨[(1,⟨(bm 19 21),[],(some 0)⟩)],[(2,⟨(bm 19 21),[],(some 0)⟩)]⟩
def Zi4 : FnH := ⟨[],[]⟩
def Z65 : FnH := ⟨[(3,⟨(bm 14349 34),[(3,1)],(some 2)⟩)],[]⟩
def Zfl : FnH := ⟨[],[]⟩
noncomputable def Zn : Hints := ⟨[(50,Z2q),(60,Z3b)],[(64,Tryz.f64,Z4g),(66,Tryz.f66,Z3g),(67,Tryz.f67,Zi4),(70,Tryz.f70,Z65),(71,Tryz.f71,Zfl)],[]⟩
noncomputable def Zaq (m : Nat) (a0_0n : Nat) (a0_0c : Option Nat) (a0_0 : List D) (a1 : Int) (Z2y : Int) (Z4c : Nat) (Z40 : Option Nat) (Z3k : List D) (Z2j : Nat) (Z6i : Option Nat) (Z7k : List D) : Option D :=
 cutK m (codeK Tg Zn.sp ⟨2,[],true,[]⟩ (inlK Tg Zn m 3) m Z4g (subc [1,1,1] (bodyOf Tryz.f64)) ⟨[Jk,(AV.d (D.v (.int .i64 Z2y))),(AV.ptr 2 0),Jk,Jk,Jk,Jk,Jk,Jk,Jk,Jk,Jk,Jk,Jk,Jk,Jk,Jk,Jk,Jk,Jk,Jk,Jk,Jk,Jk,Jk,Jk,Jk,Jk,Jk,Jk,Jk,Jk,Jk,Jk,Jk,Jk,Jk,Jk,Jk,Jk,Jk,Jk,Jk,Jk,Jk,Jk,Jk,Jk,Jk,Jk,Jk,Jk,Jk,Jk,Jk,Jk,Jk,Jk,Jk,Jk,Jk,Jk,Jk,Jk,Jk,Jk,Jk,Jk,Jk,Jk,Jk,Jk],[(Blk.d 1 [(D.list Z4c Z40 Z3k)]),(Blk.d 1 [(D.list 0 (some 0) [])]),(Blk.d 1 [(D.list Z2j Z6i Z7k)])]⟩
  (contK Tg Zn.sp ⟨2,[],true,[]⟩ (inlK Tg Zn m 3) m Z4g (endK Tg Tryz.f64 (fun v L => opsK Tg Zn.sp ⟨0,[],false,[]⟩ [] (inlK Tg Zn m 4) (regOps (subc [1,0] (bodyOf Tryz.f20))) (List.drop 3 (Array.toList (regOps (subc [1,0] (bodyOf Tryz.f20))))) ⟨setSl [(AV.d (D.agg [(D.list a0_0n a0_0c a0_0)])),(AV.d (D.v (.int .i64 a1))),(AV.ptr 0 0),Jk,(AV.ptr 1 0),(AV.d zI),Jk,Jk,Jk,(AV.d (D.agg [(D.list a0_0n a0_0c a0_0)])),(AV.d (D.v (.int .i64 a1))),Jk,Jk,Jk,Jk,Jk,Jk,Jk,Jk,Jk,Jk,Jk,Jk,Jk] (some 11) v,L⟩ (fun st => contK Tg Zn.sp ⟨0,[],false,[]⟩ (inlK Tg Zn m 4) m Z2p (endK Tg Tryz.f20 (fun v L => viewK L 8 v some)) [.code (subc [1,1] (bodyOf Tryz.f20))] .normal st))) []))
noncomputable def Z4h (m n0 : Nat) (a0_0n : Nat) (a0_0c : Option Nat) (a0_0 : List D) (a1 : Int) (Zz : Nat) (Z13 : Option Nat) (Z18 : List D) (Z1b : Int) (Z14 : Int) (Z1q : Nat) (Z1z : Option Nat) (Z32 : List D) (Z4e : Nat) (Zfw : List D) (Z63 : List D) (Z5u : List D) (Z6o : Int) (Z2o : Nat) : Option D :=
 Z1e (bm 481036337408 72) 2 7 (codeK Tg Zn.sp ⟨2,[],true,[]⟩ (inlK Tg Zn m 3) m Z4g (subc [1,1,1,1,1,0,1,0,0] (bodyOf Tryz.f64))) n0 ⟨[Jk,Jk,Jk,Jk,Jk,Jk,Jk,Jk,(AV.ptr 6 0),Jk,Jk,Jk,Jk,Jk,Jk,Jk,Jk,Jk,Jk,Jk,Jk,Jk,Jk,Jk,Jk,Jk,Jk,Jk,Jk,Jk,Jk,Jk,Jk,Jk,Jk,Jk,(AV.d (D.list Zz Z13 Z18)),(AV.d (D.v (.int .i64 Z1b))),(AV.d (D.v (.int .i64 Z14))),Jk,Jk,Jk,Jk,Jk,Jk,Jk,Jk,Jk,Jk,Jk,Jk,Jk,Jk,Jk,Jk,Jk,Jk,Jk,Jk,Jk,Jk,Jk,Jk,Jk,Jk,Jk,Jk,Jk,Jk,Jk,Jk,Jk],[(Blk.d 1 [(D.list Z1q Z1z Z32)]),(Blk.d 1 [(D.list 0 (some 0) [])]),(Blk.d 1 [(D.list Zz Z13 Z18)]),(Blk.d Z4e Zfw),(Blk.d Z4e Z63),(Blk.d Z4e Z5u),(Blk.a 5 [(AV.d (D.list Zz Z13 Z18)),(AV.d (D.v (.int .i64 Z6o))),(AV.sl 3 0 Z2o (some Z2o) 1),(AV.sl 4 0 Z2o (some Z2o) 1),(AV.sl 5 0 Z2o (some Z2o) 1)])]⟩
  (contK Tg Zn.sp ⟨2,[],true,[]⟩ (inlK Tg Zn m 3) m Z4g (endK Tg Tryz.f64 (fun v L => opsK Tg Zn.sp ⟨0,[],false,[]⟩ [] (inlK Tg Zn m 4) (regOps (subc [1,0] (bodyOf Tryz.f20))) (List.drop 3 (Array.toList (regOps (subc [1,0] (bodyOf Tryz.f20))))) ⟨setSl [(AV.d (D.agg [(D.list a0_0n a0_0c a0_0)])),(AV.d (D.v (.int .i64 a1))),(AV.ptr 0 0),Jk,(AV.ptr 1 0),(AV.d zI),Jk,Jk,Jk,(AV.d (D.agg [(D.list a0_0n a0_0c a0_0)])),(AV.d (D.v (.int .i64 a1))),Jk,Jk,Jk,Jk,Jk,Jk,Jk,Jk,Jk,Jk,Jk,Jk,Jk] (some 11) v,L⟩ (fun st => contK Tg Zn.sp ⟨0,[],false,[]⟩ (inlK Tg Zn m 4) m Z2p (endK Tg Tryz.f20 (fun v L => viewK L 8 v some)) [.code (subc [1,1] (bodyOf Tryz.f20))] .normal st))) [.block 0,.code (subc [1,1,1,1,1,1] (bodyOf Tryz.f64))])
noncomputable def Z3h (m n0 : Nat) (a0_0n : Nat) (a0_0c : Option Nat) (a0_0 : List D) (a1 : Int) (Z43 : Int) (Z76 : Nat) (Z56 : Option Nat) (Z61 : List D) (Z5a : Nat) (Z5r : Option Nat) (Z4r : List D) (Z5f : Nat) (Z5s : List D) (Z5t : Nat) (Z42 : List D) (Z3z : Nat) (Z3l : List D) (Z4o : Nat) (Z1t : Option Nat) (Z4s : List D) (Z5m : Int) (Z6s : Nat) (Z6e : Nat) (Z8f : Nat) (Z8g : Nat) (Z8y : Nat) (Z8h : Nat) : Option D :=
 Z1e (bm 19 21) 7 7 (codeK Tg Zn.sp ⟨7,[2,3,4,5],true,[]⟩ (inlK Tg Zn m 3) m Z3g (subc [1,0,0] (bodyOf Tryz.f66))) n0 ⟨[(AV.ptr 6 0),(AV.bnd 67 [(AV.ptr 6 0)]),Jk,Jk,(AV.d (D.v (.int .i64 Z43))),Jk,Jk,Jk,Jk,Jk,Jk,Jk,Jk,Jk,Jk,Jk,Jk,Jk,Jk,Jk,Jk],[(Blk.d 1 [(D.list Z76 Z56 Z61)]),(Blk.d 1 [(D.list 0 (some 0) [])]),(Blk.d 1 [(D.list Z5a Z5r Z4r)]),(Blk.d Z5f Z5s),(Blk.d Z5t Z42),(Blk.d Z3z Z3l),(Blk.a 5 [(AV.d (D.list Z4o Z1t Z4s)),(AV.d (D.v (.int .i64 Z5m))),(AV.sl 3 0 Z6s (some Z6e) 1),(AV.sl 4 0 Z8f (some Z8g) 1),(AV.sl 5 0 Z8y (some Z8h) 1)])]⟩
  (contK Tg Zn.sp ⟨7,[2,3,4,5],true,[]⟩ (inlK Tg Zn m 3) m Z3g (endK Tg Tryz.f66 (fun v L => opsK Tg Zn.sp ⟨0,[],false,[]⟩ [] (inlK Tg Zn m 4) (regOps (subc [1,1,1,0] (bodyOf Tryz.f20))) (List.drop 4 (Array.toList (regOps (subc [1,1,1,0] (bodyOf Tryz.f20))))) ⟨setSl [(AV.d (D.agg [(D.list a0_0n a0_0c a0_0)])),(AV.d (D.v (.int .i64 a1))),(AV.ptr 0 0),Jk,(AV.ptr 1 0),(AV.d zI),(AV.ptr 6 0),(AV.d zI),(AV.tup [(AV.ptr 6 0),(AV.d zI)]),(AV.d (D.agg [(D.list a0_0n a0_0c a0_0)])),(AV.d (D.v (.int .i64 a1))),(AV.tup [(AV.ptr 6 0),(AV.d zI)]),(AV.ptr 6 0),(AV.d zI),(AV.d zI),(AV.d (D.v (.bool false))),Jk,Jk,(AV.ptr 6 0),(AV.ptr 6 0),(AV.bnd 67 [(AV.ptr 6 0)]),Jk,Jk,Jk] (some 21) v,L⟩ (fun st => contK Tg Zn.sp ⟨0,[],false,[]⟩ (inlK Tg Zn m 4) m Z2p (endK Tg Tryz.f20 (fun v L => viewK L 8 v some)) [.code (subc [1,1,1,1] (bodyOf Tryz.f20))] .normal st))) [.block 0])
noncomputable def Z21 (m n0 : Nat) (a0_0n : Nat) (a0_0c : Option Nat) (a0_0 : List D) (a1 : Int) (Z9n : Int) (Zbt : Nat) (Zbv : Option Nat) (Zcj : List D) (Z8v : Nat) (Zaj : Option Nat) (Zha : List D) (Zla : Nat) (Zx2 : List D) (Zwp : Nat) (Zo6 : List D) (Zvd : Nat) (Z11l : List D) (Z11m : Nat) (Z11n : Option Nat) (Z11o : List D) (Zzr : Int) (Zzs : Nat) (Z11p : Nat) (Z11q : Nat) (Z141 : Nat) (Z1fi : Nat) (Z1fj : Nat) : Option D :=
 cutK m (codeK Tg Zn.sp ⟨7,[2,3,4,5],true,[]⟩ (inlK Tg Zn m 3) m Z3g (subc [1,0,0,1,1] (bodyOf Tryz.f66)) ⟨[(AV.ptr 6 0),(AV.bnd 67 [(AV.ptr 6 0)]),Jk,Jk,(AV.d (D.v (.int .i64 Z9n))),Jk,Jk,Jk,Jk,Jk,Jk,Jk,Jk,Jk,Jk,Jk,Jk,Jk,Jk,Jk,Jk],[(Blk.d 1 [(D.list Zbt Zbv Zcj)]),(Blk.d 1 [(D.list 0 (some 0) [])]),(Blk.d 1 [(D.list Z8v Zaj Zha)]),(Blk.d Zla Zx2),(Blk.d Zwp Zo6),(Blk.d Zvd Z11l),(Blk.a 5 [(AV.d (D.list Z11m Z11n Z11o)),(AV.d (D.v (.int .i64 Zzr))),(AV.sl 3 0 Zzs (some Z11p) 1),(AV.sl 4 0 Z11q (some Z141) 1),(AV.sl 5 0 Z1fi (some Z1fj) 1)])]⟩
  (contK Tg Zn.sp ⟨7,[2,3,4,5],true,[]⟩ (inlK Tg Zn m 3) m Z3g (endK Tg Tryz.f66 (fun v L => opsK Tg Zn.sp ⟨0,[],false,[]⟩ [] (inlK Tg Zn m 4) (regOps (subc [1,1,1,0] (bodyOf Tryz.f20))) (List.drop 4 (Array.toList (regOps (subc [1,1,1,0] (bodyOf Tryz.f20))))) ⟨setSl [(AV.d (D.agg [(D.list a0_0n a0_0c a0_0)])),(AV.d (D.v (.int .i64 a1))),(AV.ptr 0 0),Jk,(AV.ptr 1 0),(AV.d zI),(AV.ptr 6 0),(AV.d zI),(AV.tup [(AV.ptr 6 0),(AV.d zI)]),(AV.d (D.agg [(D.list a0_0n a0_0c a0_0)])),(AV.d (D.v (.int .i64 a1))),(AV.tup [(AV.ptr 6 0),(AV.d zI)]),(AV.ptr 6 0),(AV.d zI),(AV.d zI),(AV.d (D.v (.bool false))),Jk,Jk,(AV.ptr 6 0),(AV.ptr 6 0),(AV.bnd 67 [(AV.ptr 6 0)]),Jk,Jk,Jk] (some 21) v,L⟩ (fun st => contK Tg Zn.sp ⟨0,[],false,[]⟩ (inlK Tg Zn m 4) m Z2p (endK Tg Tryz.f20 (fun v L => viewK L 8 v some)) [.code (subc [1,1,1,1] (bodyOf Tryz.f20))] .normal st))) [.loop (bm 19 21) 7 (subc [1,0,0] (bodyOf Tryz.f66)) n0,.block 0]))
theorem Zi5 (m n0 : Nat) (a0_0n : Nat) (a0_0c : Option Nat) (a0_0 : List D) (a1 : Int) (Z9n : Int) (Zbt : Nat) (Zbv : Option Nat) (Zcj : List D) (Z8v : Nat) (Zaj : Option Nat) (Zha : List D) (Zla : Nat) (Zx2 : List D) (Zwp : Nat) (Zo6 : List D) (Zvd : Nat) (Z11l : List D) (Z11m : Nat) (Z11n : Option Nat) (Z11o : List D) (Zzr : Int) (Zzs : Nat) (Z11p : Nat) (Z11q : Nat) (Z141 : Nat) (Z1fi : Nat) (Z1fj : Nat) : Z21 m n0 a0_0n a0_0c a0_0 a1 Z9n Zbt Zbv Zcj Z8v Zaj Zha Zla Zx2 Zwp Zo6 Zvd Z11l Z11m Z11n Z11o Zzr Zzs Z11p Z11q Z141 Z1fi Z1fj =
 (Z3h m n0 a0_0n a0_0c a0_0 a1 (IntKind.wrap .i64 (Z9n - (1 : Int))) Zbt Zbv Zcj Z8v Zaj Zha Zla Zx2 Zwp Zo6 Zvd Z11l Z11m Z11n Z11o Zzr Zzs Z11p Z11q Z141 Z1fi Z1fj) := (Z1y m _).trans (by kernel_rfl)
noncomputable def Z2l (m n0 : Nat) (a0_0n : Nat) (a0_0c : Option Nat) (a0_0 : List D) (a1 : Int) (Z7s : Nat) (Za4 : Nat) (Ziw : Nat) (Zfx : Int) (Zzw : Int) (Z10q : Nat) (Z10r : Option Nat) (Z10s : List D) (Z10t : Nat) (Z10u : Option Nat) (Zo7 : List D) (Zo8 : Nat) (Zo9 : List D) (Zoa : Nat) (Zob : List D) (Zr4 : Nat) (Zr5 : List D) (Zlq : Nat) (Zlr : Option Nat) (Zls : List D) (Zoc : Int) (Zh2 : Nat) (Zod : Nat) (Zh3 : Nat) (Zoe : Nat) (Zl0 : Nat) (Z16a : List D) : Option D :=
 Z1e (bm 14349 34) 7 9 (codeK Tg Zn.sp ⟨7,[2,3,4,5],true,[]⟩ (inlK Tg Zn m 3) m Z65 (subc [1,1,0,1,0,0] (bodyOf Tryz.f70))) n0 ⟨[(AV.ptr 6 0),Jk,(AV.ptr 7 0),(AV.sl 8 0 Z7s none 1),Jk,Jk,Jk,Jk,Jk,Jk,Jk,(AV.sl 5 0 Za4 (some Ziw) 1),(AV.d (D.v (.int .i64 Zfx))),(AV.d (D.v (.int .i64 Zzw))),Jk,Jk,Jk,Jk,Jk,Jk,Jk,Jk,Jk,Jk,Jk,Jk,Jk,Jk,Jk,Jk,Jk,Jk,Jk,Jk],[(Blk.d 1 [(D.list Z10q Z10r Z10s)]),(Blk.d 1 [(D.list 0 (some 0) [])]),(Blk.d 1 [(D.list Z10t Z10u Zo7)]),(Blk.d Zo8 Zo9),(Blk.d Zoa Zob),(Blk.d Zr4 Zr5),(Blk.a 5 [(AV.d (D.list Zlq Zlr Zls)),(AV.d (D.v (.int .i64 Zoc))),(AV.sl 3 0 Zh2 (some Zod) 1),(AV.sl 4 0 Zh3 (some Zoe) 1),(AV.sl 5 0 Za4 (some Ziw) 1)]),(Blk.d 1 [(D.list 0 (some 0) [])]),(Blk.d Zl0 Z16a)]⟩
  (contK Tg Zn.sp ⟨7,[2,3,4,5],true,[]⟩ (inlK Tg Zn m 3) m Z65 (endK Tg Tryz.f70 (fun v L => opsK Tg Zn.sp ⟨0,[],false,[]⟩ [] (inlK Tg Zn m 4) (regOps (subc [1,1,1,1,0] (bodyOf Tryz.f20))) (List.drop 2 (Array.toList (regOps (subc [1,1,1,1,0] (bodyOf Tryz.f20))))) ⟨setSl [(AV.d (D.agg [(D.list a0_0n a0_0c a0_0)])),(AV.d (D.v (.int .i64 a1))),(AV.ptr 0 0),Jk,(AV.ptr 1 0),(AV.d zI),(AV.ptr 6 0),(AV.d zI),(AV.tup [(AV.ptr 6 0),(AV.d zI)]),(AV.d (D.agg [(D.list a0_0n a0_0c a0_0)])),(AV.d (D.v (.int .i64 a1))),(AV.tup [(AV.ptr 6 0),(AV.d zI)]),(AV.ptr 6 0),(AV.d zI),(AV.d zI),(AV.d (D.v (.bool false))),Jk,Jk,(AV.ptr 6 0),(AV.ptr 6 0),(AV.bnd 67 [(AV.ptr 6 0)]),(AV.d (D.tup [])),(AV.ptr 6 0),Jk] (some 23) v,L⟩ (fun st => contK Tg Zn.sp ⟨0,[],false,[]⟩ (inlK Tg Zn m 4) m Z2p (endK Tg Tryz.f20 (fun v L => viewK L 8 v some)) [.code (subc [1,1,1,1,1] (bodyOf Tryz.f20))] .normal st))) [.block 0,.code (subc [1,1,1] (bodyOf Tryz.f70))])
theorem Zi6 (m n0 : Nat) (a0_0n : Nat) (a0_0c : Option Nat) (a0_0 : List D) (a1 : Int) (Z7s : Nat) (Za4 : Nat) (Ziw : Nat) (Zfx : Int) (Zzw : Int) (Z10q : Nat) (Z10r : Option Nat) (Z10s : List D) (Z10t : Nat) (Z10u : Option Nat) (Zo7 : List D) (Zo8 : Nat) (Zo9 : List D) (Zoa : Nat) (Zob : List D) (Zr4 : Nat) (Zr5 : List D) (Zlq : Nat) (Zlr : Option Nat) (Zls : List D) (Zoc : Int) (Zh2 : Nat) (Zod : Nat) (Zh3 : Nat) (Zoe : Nat) (Zl0 : Nat) (Z16a : List D) : Z2l m (n0 + 1) a0_0n a0_0c a0_0 a1 Z7s Za4 Ziw Zfx Zzw Z10q Z10r Z10s Z10t Z10u Zo7 Zo8 Zo9 Zoa Zob Zr4 Zr5 Zlq Zlr Zls Zoc Zh2 Zod Zh3 Zoe Zl0 Z16a =
 (cond (decide (Zzw < Zfx))
 (if 0 ≤ Zzw ∧ Zzw < (Za4 : Int) then
 (rdB Zr5[(0 + ((Int.toNat Zzw) * 1))]?).bind fun b32 =>
 cond b32
 (if ownB ⟨7,[2,3,4,5],true,[]⟩ 8 = true ∧ Zl0 = (Z7s * 1) ∧ fitsRow (Z7s + 1) 8 ∧ 1 = 1 then
 Z2l m n0 a0_0n a0_0c a0_0 a1 (Z7s + 1) Za4 Ziw Zfx (IntKind.wrap .i64 (Zzw + (1 : Int))) Z10q Z10r Z10s Z10t Z10u Zo7 Zo8 Zo9 Zoa Zob Zr4 Zr5 Zlq Zlr Zls Zoc Zh2 Zod Zh3 Zoe ((Z7s + 1) * 1) (Z16a ++ [(D.v (.int .i64 Zzw))])
 else none)
 (Z2l m n0 a0_0n a0_0c a0_0 a1 Z7s Za4 Ziw Zfx (IntKind.wrap .i64 (Zzw + (1 : Int))) Z10q Z10r Z10s Z10t Z10u Zo7 Zo8 Zo9 Zoa Zob Zr4 Zr5 Zlq Zlr Zls Zoc Zh2 Zod Zh3 Zoe Zl0 Z16a)
 else none)
 (if (0 + (Z7s * 1)) ≤ Zl0 then
 (Z2q [(D.agg [(D.list Zlq Zlr Zls)]),(D.list Z7s none (cutL Zl0 Z16a 0 (Z7s * 1)))]).bind fun d33 =>
 (rdT d33).bind fun r34 =>
 if List.length r34 = 2 then
 (rdA r34[0]?).bind fun c35 =>
 (rdI .i64 r34[1]?).bind fun x36 =>
 if (0 + (Z7s * 1)) ≤ Zl0 then
 if (0 + (Z7s * 1)) ≤ Zl0 then
 if (List.length c35) = 1 then
 if (List.length c35) = 1 then
 if (List.length c35) = 1 then
 some (D.tup [(D.agg c35),zI])
 else none
 else none
 else none
 else none
 else none
 else none
 else none)) := by kernel_rfl
theorem Zit (m n0 : Nat) (a0_0n : Nat) (a0_0c : Option Nat) (a0_0 : List D) (a1 : Int) (Z43 : Int) (Z76 : Nat) (Z56 : Option Nat) (Z61 : List D) (Z5a : Nat) (Z5r : Option Nat) (Z4r : List D) (Z5f : Nat) (Z5s : List D) (Z5t : Nat) (Z42 : List D) (Z3z : Nat) (Z3l : List D) (Z4o : Nat) (Z1t : Option Nat) (Z4s : List D) (Z5m : Int) (Z6s : Nat) (Z6e : Nat) (Z8f : Nat) (Z8g : Nat) (Z8y : Nat) (Z8h : Nat) : Z3h m (n0 + 1) a0_0n a0_0c a0_0 a1 Z43 Z76 Z56 Z61 Z5a Z5r Z4r Z5f Z5s Z5t Z42 Z3z Z3l Z4o Z1t Z4s Z5m Z6s Z6e Z8f Z8g Z8y Z8h =
 (cond (decide (Z43 ≥ (0 : Int)))
 (if 0 ≤ Z43 ∧ Z43 < (Z8y : Int) then
 (rdB Z3l[(0 + ((Int.toNat Z43) * 1))]?).bind fun b25 =>
 cond (!b25)
 (if 0 ≤ Z43 ∧ Z43 < (Z6s : Int) then
 (rdI .i64 Z5s[(0 + ((Int.toNat Z43) * 1))]?).bind fun x26 =>
 cond (decide (x26 < Z5m))
 (if 0 ≤ Z43 ∧ Z43 < (Z8f : Int) then
 (rdI .i64 Z42[(0 + ((Int.toNat Z43) * 1))]?).bind fun x27 =>
 cond (x27 == (0 : Int))
 (if 0 ≤ Z43 ∧ Z43 < (Z8y : Int) then
 if 1 = 1 ∧ (0 + ((Int.toNat Z43) * 1)) < Z3z then
 cond (decide (Z43 > (0 : Int)))
 (if 0 ≤ Z43 ∧ Z43 < (Z4o : Int) then
 (rdI .i64 Z4s[(((Int.toNat Z43) * 20) + 0)]?).bind fun x28 =>
 if 0 ≤ x28 ∧ x28 < (Z8f : Int) then
 (rdI .i64 Z42[(0 + ((Int.toNat x28) * 1))]?).bind fun x29 =>
 if 0 ≤ x28 ∧ x28 < (Z8f : Int) then
 if 1 = 1 ∧ (0 + ((Int.toNat x28) * 1)) < Z5t then
 Z21 m n0 a0_0n a0_0c a0_0 a1 Z43 Z76 Z56 Z61 Z5a Z5r Z4r Z5f Z5s Z5t (List.set Z42 (0 + ((Int.toNat x28) * 1)) (D.v (.int .i64 (IntKind.wrap .i64 (x29 - (1 : Int)))))) Z3z (List.set Z3l (0 + ((Int.toNat Z43) * 1)) (D.v (.bool true))) Z4o Z1t Z4s Z5m Z6s Z6e Z8f Z8g Z8y Z8h
 else none
 else none
 else none
 else none)
 (Z21 m n0 a0_0n a0_0c a0_0 a1 Z43 Z76 Z56 Z61 Z5a Z5r Z4r Z5f Z5s Z5t Z42 Z3z (List.set Z3l (0 + ((Int.toNat Z43) * 1)) (D.v (.bool true))) Z4o Z1t Z4s Z5m Z6s Z6e Z8f Z8g Z8y Z8h)
 else none
 else none)
 (Z21 m n0 a0_0n a0_0c a0_0 a1 Z43 Z76 Z56 Z61 Z5a Z5r Z4r Z5f Z5s Z5t Z42 Z3z Z3l Z4o Z1t Z4s Z5m Z6s Z6e Z8f Z8g Z8y Z8h)
 else none)
 (Z21 m n0 a0_0n a0_0c a0_0 a1 Z43 Z76 Z56 Z61 Z5a Z5r Z4r Z5f Z5s Z5t Z42 Z3z Z3l Z4o Z1t Z4s Z5m Z6s Z6e Z8f Z8g Z8y Z8h)
 else none)
 (Z21 m n0 a0_0n a0_0c a0_0 a1 Z43 Z76 Z56 Z61 Z5a Z5r Z4r Z5f Z5s Z5t Z42 Z3z Z3l Z4o Z1t Z4s Z5m Z6s Z6e Z8f Z8g Z8y Z8h)
 else none)
 (Z2l m m a0_0n a0_0c a0_0 a1 0 Z8y Z8h (Z8y : Int) (0 : Int) Z76 Z56 Z61 Z5a Z5r Z4r Z5f Z5s Z5t Z42 Z3z Z3l Z4o Z1t Z4s Z5m Z6s Z6e Z8f Z8g 0 [])) := by kernel_rfl
theorem Zlt (m n0 : Nat) (a0_0n : Nat) (a0_0c : Option Nat) (a0_0 : List D) (a1 : Int) (Zz : Nat) (Z13 : Option Nat) (Z18 : List D) (Z1b : Int) (Z14 : Int) (Z1q : Nat) (Z1z : Option Nat) (Z32 : List D) (Z4e : Nat) (Zfw : List D) (Z63 : List D) (Z5u : List D) (Z6o : Int) (Z2o : Nat) : Z4h m (n0 + 1) a0_0n a0_0c a0_0 a1 Zz Z13 Z18 Z1b Z14 Z1q Z1z Z32 Z4e Zfw Z63 Z5u Z6o Z2o =
 (cond (decide (Z14 < Z1b))
 (if 0 ≤ Z14 ∧ Z14 < (Zz : Int) then
 if (((Int.toNat Z14) * 20) + 20) ≤ (List.length Z18) then
 if (List.length ((List.drop ((Int.toNat Z14) * 20) Z18).take 20)) = 20 then
 cond (decide (Z14 > (0 : Int)))
 ((rdI .i64 ((List.drop ((Int.toNat Z14) * 20) Z18).take 20)[0]?).bind fun x11 =>
 if 0 ≤ x11 ∧ x11 < (Z2o : Int) then
 (rdI .i64 Zfw[(0 + ((Int.toNat x11) * 1))]?).bind fun x12 =>
 if 0 ≤ Z14 ∧ Z14 < (Z2o : Int) then
 if 1 = 1 ∧ (0 + ((Int.toNat Z14) * 1)) < Z4e then
 (rdI .i64 ((List.drop ((Int.toNat Z14) * 20) Z18).take 20)[0]?).bind fun x13 =>
 if 0 ≤ x13 ∧ x13 < (Z2o : Int) then
 (rdI .i64 Z63[(0 + ((Int.toNat x13) * 1))]?).bind fun x14 =>
 if 0 ≤ x13 ∧ x13 < (Z2o : Int) then
 if 1 = 1 ∧ (0 + ((Int.toNat x13) * 1)) < Z4e then
 Z4h m n0 a0_0n a0_0c a0_0 a1 Zz Z13 Z18 Z1b (IntKind.wrap .i64 (Z14 + (1 : Int))) Z1q Z1z Z32 Z4e (List.set Zfw (0 + ((Int.toNat Z14) * 1)) (D.v (.int .i64 (IntKind.wrap .i64 (x12 + (1 : Int)))))) (List.set Z63 (0 + ((Int.toNat x13) * 1)) (D.v (.int .i64 (IntKind.wrap .i64 (x14 + (1 : Int)))))) Z5u Z6o Z2o
 else none
 else none
 else none
 else none
 else none
 else none)
 (Z4h m n0 a0_0n a0_0c a0_0 a1 Zz Z13 Z18 Z1b (IntKind.wrap .i64 (Z14 + (1 : Int))) Z1q Z1z Z32 Z4e Zfw Z63 Z5u Z6o Z2o)
 else none
 else none
 else none)
 (Z3h m m a0_0n a0_0c a0_0 a1 (IntKind.wrap .i64 ((Z2o : Int) - (1 : Int))) Z1q Z1z Z32 Zz Z13 Z18 Z4e Zfw Z4e Z63 Z4e Z5u Zz Z13 Z18 Z6o Z2o Z2o Z2o Z2o Z2o Z2o)) := by kernel_rfl
theorem Zl1 (m : Nat) (a0_0n : Nat) (a0_0c : Option Nat) (a0_0 : List D) (a1 : Int) (Z2y : Int) (Z4c : Nat) (Z40 : Option Nat) (Z3k : List D) (Z2j : Nat) (Z6i : Option Nat) (Z7k : List D) : Zaq m a0_0n a0_0c a0_0 a1 Z2y Z4c Z40 Z3k Z2j Z6i Z7k =
 (if 0 ≤ (Z2j : Int) ∧ (Z2j : Int) ≤ (Z2j : Int) ∧ fitsRow (Int.toNat (Z2j : Int)) 8 then
 if 0 ≤ (Z2j : Int) ∧ (Z2j : Int) ≤ (Z2j : Int) ∧ fitsRow (Int.toNat (Z2j : Int)) 8 then
 if 0 ≤ (Z2j : Int) ∧ (Z2j : Int) ≤ (Z2j : Int) ∧ fitsRow (Int.toNat (Z2j : Int)) 1 then
 Z4h m m a0_0n a0_0c a0_0 a1 Z2j Z6i Z7k (Z2j : Int) (0 : Int) Z4c Z40 Z3k ((Int.toNat (Z2j : Int)) * 1) (List.flatten (List.replicate (Int.toNat (Z2j : Int)) [zI])) (List.flatten (List.replicate (Int.toNat (Z2j : Int)) [zI])) (List.flatten (List.replicate (Int.toNat (Z2j : Int)) [(D.v (.bool false))])) Z2y (Int.toNat (Z2j : Int))
 else none
 else none
 else none) := (Z1y m _).trans (by kernel_rfl)
noncomputable def Zme (m : Nat) (a0_0n : Nat) (a0_0c : Option Nat) (a0_0 : List D) (a1 : Int) : Option D :=
 (Z3b [(D.agg [(D.list a0_0n a0_0c a0_0)])]).bind fun d1 =>
 (rdI .i64 (some d1)).bind fun x2 =>
 cond (x2 != (0 : Int))
 (cond (x2 != (0 : Int))
 (some (D.tup [(D.agg [(D.list 0 (some 0) [])]),(D.v (.int .i64 x2))]))
 (none))
 (cond (decide (a1 < (0 : Int)))
 (some (D.tup [(D.agg [(D.list 0 (some 0) [])]),(D.v (.int .i64 (1 : Int)))]))
 (cond (decide (a1 > (64 : Int)))
 (some (D.tup [(D.agg [(D.list 0 (some 0) [])]),(D.v (.int .i64 (1 : Int)))]))
 (Zaq m a0_0n a0_0c a0_0 a1 a1 a0_0n a0_0c a0_0 a0_0n a0_0c a0_0)))
theorem Z16b (m : Nat) (a0_0n : Nat) (a0_0c : Option Nat) (a0_0 : List D) (a1 : Int) : funD Tg Zn m 4 Z2p Tryz.f20 [(D.agg [(D.list a0_0n a0_0c a0_0)]),(D.v (.int .i64 a1))] = Zme m a0_0n a0_0c a0_0 a1 := by kernel_rfl
theorem Z1ax : Enters Tg 20 := ⟨Tryz.f20,Tryz.func20,by kernel_rfl,by kernel_rfl⟩
theorem Z1ay {ds : List D} {d : D} (h : funD Tg Zn M 4 Z2p Tryz.f20 ds = some d) : DataSem Tg 20 ds d := Zf (H := Zn) (SpOk.cons Zqs (SpOk.cons Zc3 SpOk.nil)) mixed (InlOk.cons Tryz.func64 Ze9 (InlOk.cons Tryz.func66 Zrc (InlOk.cons Tryz.func67 Z8n (InlOk.cons Tryz.func70 Zhj (InlOk.cons Tryz.func71 Z5o InlOk.nil))))) Tryz.func20 Z1ax h
noncomputable def Zp : List D → Option D
 | [.agg [.list a0_0n a0_0c a0_0],.v (.int .i64 a1)] => Zme M a0_0n a0_0c a0_0 a1
 | _ => none
theorem Zke : ∀ ds d,Zp ds = some d → DataSem Tg 20 ds d := by
 intro ds d h
 unfold Zp at h
 split at h
 ·exact Z1ay ((Z16b M _ _ _ _).trans h)
 ·cases h
def Z11 : FnH := ⟨[(100000,⟨(bm 2628 57),[],(some 7)⟩)],[]⟩
def Z3v : FnH := ⟨[(9,⟨(bm 481036337408 72),[],(some 5)⟩)],[(6,⟨(bm 6 72),[],(some 1)⟩)]⟩
def Z2w : FnH := ⟨[(3,⟨(bm 1545 23),[(3,1)],(some 1)⟩)],[]⟩
def Zgf : FnH := ⟨[],[]⟩
def Z2x : FnH := ⟨[(3,⟨(bm 14349 34),[(3,1)],(some 2)⟩)],[]⟩
def Ze8 : FnH := ⟨[],[]⟩
noncomputable def Za : Hints := ⟨[(50,Z2q),(60,Z3b),(69,Z4f)],[(64,Tryz.f64,Z3v),(65,Tryz.f65,Z2w),(67,Tryz.f67,Zgf),(70,Tryz.f70,Z2x),(71,Tryz.f71,Ze8)],[]⟩
noncomputable def Z98 (m : Nat) (a0_0n : Nat) (a0_0c : Option Nat) (a0_0 : List D) (a1 : Int) (a2n : Nat) (a2c : Option Nat) (a2 : List D) (Z2y : Int) (Z4c : Nat) (Z40 : Option Nat) (Z3k : List D) (Z2j : Nat) (Z6i : Option Nat) (Z7k : List D) : Option D :=
 cutK m (codeK Tg Za.sp ⟨2,[],true,[]⟩ (inlK Tg Za m 3) m Z3v (subc [1,1,1] (bodyOf Tryz.f64)) ⟨[Jk,(AV.d (D.v (.int .i64 Z2y))),(AV.ptr 2 0),Jk,Jk,Jk,Jk,Jk,Jk,Jk,Jk,Jk,Jk,Jk,Jk,Jk,Jk,Jk,Jk,Jk,Jk,Jk,Jk,Jk,Jk,Jk,Jk,Jk,Jk,Jk,Jk,Jk,Jk,Jk,Jk,Jk,Jk,Jk,Jk,Jk,Jk,Jk,Jk,Jk,Jk,Jk,Jk,Jk,Jk,Jk,Jk,Jk,Jk,Jk,Jk,Jk,Jk,Jk,Jk,Jk,Jk,Jk,Jk,Jk,Jk,Jk,Jk,Jk,Jk,Jk,Jk,Jk],[(Blk.d 1 [(D.list Z4c Z40 Z3k)]),(Blk.d 1 [(D.list 0 (some 0) [])]),(Blk.d 1 [(D.list Z2j Z6i Z7k)])]⟩
  (contK Tg Za.sp ⟨2,[],true,[]⟩ (inlK Tg Za m 3) m Z3v (endK Tg Tryz.f64 (fun v L => opsK Tg Za.sp ⟨0,[],false,[]⟩ [] (inlK Tg Za m 4) (regOps (subc [1,0,0] (bodyOf Tryz.f21))) (List.drop 3 (Array.toList (regOps (subc [1,0,0] (bodyOf Tryz.f21))))) ⟨setSl [(AV.d (D.agg [(D.list a0_0n a0_0c a0_0)])),(AV.d (D.v (.int .i64 a1))),(AV.d (D.list a2n a2c a2)),(AV.ptr 0 0),Jk,Jk,(AV.ptr 1 0),(AV.d zI),(AV.d zI),Jk,Jk,Jk,Jk,Jk,Jk,(AV.d (D.agg [(D.list a0_0n a0_0c a0_0)])),(AV.d (D.v (.int .i64 a1))),Jk,Jk,Jk,Jk,Jk,Jk,Jk,Jk,Jk,Jk,Jk,Jk,Jk,Jk,Jk,Jk,Jk,Jk,Jk,Jk,Jk,Jk,Jk,Jk,Jk,Jk,Jk,Jk,Jk,Jk,Jk,Jk,Jk,Jk,Jk,Jk,Jk,Jk,Jk,Jk] (some 17) v,L⟩ (fun st => contK Tg Za.sp ⟨0,[],false,[]⟩ (inlK Tg Za m 4) m Z11 (endK Tg Tryz.f21 (fun v L => viewK L 8 v some)) [.code (subc [1,0,1] (bodyOf Tryz.f21)),.scope (subc [1,0] (bodyOf Tryz.f21)) m] .normal st))) []))
noncomputable def Z3w (m n0 : Nat) (a0_0n : Nat) (a0_0c : Option Nat) (a0_0 : List D) (a1 : Int) (a2n : Nat) (a2c : Option Nat) (a2 : List D) (Zz : Nat) (Z13 : Option Nat) (Z18 : List D) (Z1b : Int) (Z14 : Int) (Z1q : Nat) (Z1z : Option Nat) (Z32 : List D) (Z4e : Nat) (Zfw : List D) (Z63 : List D) (Z5u : List D) (Z6o : Int) (Z2o : Nat) : Option D :=
 Z1e (bm 481036337408 72) 2 7 (codeK Tg Za.sp ⟨2,[],true,[]⟩ (inlK Tg Za m 3) m Z3v (subc [1,1,1,1,1,0,1,0,0] (bodyOf Tryz.f64))) n0 ⟨[Jk,Jk,Jk,Jk,Jk,Jk,Jk,Jk,(AV.ptr 6 0),Jk,Jk,Jk,Jk,Jk,Jk,Jk,Jk,Jk,Jk,Jk,Jk,Jk,Jk,Jk,Jk,Jk,Jk,Jk,Jk,Jk,Jk,Jk,Jk,Jk,Jk,Jk,(AV.d (D.list Zz Z13 Z18)),(AV.d (D.v (.int .i64 Z1b))),(AV.d (D.v (.int .i64 Z14))),Jk,Jk,Jk,Jk,Jk,Jk,Jk,Jk,Jk,Jk,Jk,Jk,Jk,Jk,Jk,Jk,Jk,Jk,Jk,Jk,Jk,Jk,Jk,Jk,Jk,Jk,Jk,Jk,Jk,Jk,Jk,Jk,Jk],[(Blk.d 1 [(D.list Z1q Z1z Z32)]),(Blk.d 1 [(D.list 0 (some 0) [])]),(Blk.d 1 [(D.list Zz Z13 Z18)]),(Blk.d Z4e Zfw),(Blk.d Z4e Z63),(Blk.d Z4e Z5u),(Blk.a 5 [(AV.d (D.list Zz Z13 Z18)),(AV.d (D.v (.int .i64 Z6o))),(AV.sl 3 0 Z2o (some Z2o) 1),(AV.sl 4 0 Z2o (some Z2o) 1),(AV.sl 5 0 Z2o (some Z2o) 1)])]⟩
  (contK Tg Za.sp ⟨2,[],true,[]⟩ (inlK Tg Za m 3) m Z3v (endK Tg Tryz.f64 (fun v L => opsK Tg Za.sp ⟨0,[],false,[]⟩ [] (inlK Tg Za m 4) (regOps (subc [1,0,0] (bodyOf Tryz.f21))) (List.drop 3 (Array.toList (regOps (subc [1,0,0] (bodyOf Tryz.f21))))) ⟨setSl [(AV.d (D.agg [(D.list a0_0n a0_0c a0_0)])),(AV.d (D.v (.int .i64 a1))),(AV.d (D.list a2n a2c a2)),(AV.ptr 0 0),Jk,Jk,(AV.ptr 1 0),(AV.d zI),(AV.d zI),Jk,Jk,Jk,Jk,Jk,Jk,(AV.d (D.agg [(D.list a0_0n a0_0c a0_0)])),(AV.d (D.v (.int .i64 a1))),Jk,Jk,Jk,Jk,Jk,Jk,Jk,Jk,Jk,Jk,Jk,Jk,Jk,Jk,Jk,Jk,Jk,Jk,Jk,Jk,Jk,Jk,Jk,Jk,Jk,Jk,Jk,Jk,Jk,Jk,Jk,Jk,Jk,Jk,Jk,Jk,Jk,Jk,Jk,Jk] (some 17) v,L⟩ (fun st => contK Tg Za.sp ⟨0,[],false,[]⟩ (inlK Tg Za m 4) m Z11 (endK Tg Tryz.f21 (fun v L => viewK L 8 v some)) [.code (subc [1,0,1] (bodyOf Tryz.f21)),.scope (subc [1,0] (bodyOf Tryz.f21)) m] .normal st))) [.block 0,.code (subc [1,1,1,1,1,1] (bodyOf Tryz.f64))])
noncomputable def Z1a (m n0 : Nat) (a0_0n : Nat) (a0_0c : Option Nat) (a0_0 : List D) (a1 : Int) (a2n : Nat) (a2c : Option Nat) (a2 : List D) (Z43 : Nat) (Z76 : Int) (Z56 : Int) (Z61 : Nat) (Z5a : Option Nat) (Z5r : List D) (Z4r : Nat) (Z5f : Option Nat) (Z5s : List D) (Z5t : Nat) (Z42 : List D) (Z3z : List D) (Z3l : List D) (Z4o : Int) (Z1t : Nat) (Z4s : Nat) (Z5m : List D) : Option D :=
 Z1e (bm 1545 23) 7 8 (codeK Tg Za.sp ⟨7,[2,3,4,5],true,[]⟩ (inlK Tg Za m 3) m Z2w (subc [1,1,0,1,0,0] (bodyOf Tryz.f65))) n0 ⟨[(AV.ptr 6 0),Jk,Jk,(AV.sl 7 0 Z43 none 1),Jk,Jk,Jk,Jk,Jk,(AV.d (D.v (.int .i64 Z76))),(AV.d (D.v (.int .i64 Z56))),Jk,Jk,Jk,Jk,Jk,Jk,Jk,Jk,Jk,Jk,Jk,Jk],[(Blk.d 1 [(D.list Z61 Z5a Z5r)]),(Blk.d 1 [(D.list 0 (some 0) [])]),(Blk.d 1 [(D.list Z4r Z5f Z5s)]),(Blk.d Z5t Z42),(Blk.d Z5t Z3z),(Blk.d Z5t Z3l),(Blk.a 5 [(AV.d (D.list Z4r Z5f Z5s)),(AV.d (D.v (.int .i64 Z4o))),(AV.sl 3 0 Z1t (some Z1t) 1),(AV.sl 4 0 Z1t (some Z1t) 1),(AV.sl 5 0 Z1t (some Z1t) 1)]),(Blk.d Z4s Z5m)]⟩
  (contK Tg Za.sp ⟨7,[2,3,4,5],true,[]⟩ (inlK Tg Za m 3) m Z2w (endK Tg Tryz.f65 (fun v L => opsK Tg Za.sp ⟨0,[],false,[]⟩ [] (inlK Tg Za m 4) (regOps (subc [1,0,1,1,1,1,0] (bodyOf Tryz.f21))) (List.drop 2 (Array.toList (regOps (subc [1,0,1,1,1,1,0] (bodyOf Tryz.f21))))) ⟨setSl [(AV.d (D.agg [(D.list a0_0n a0_0c a0_0)])),(AV.d (D.v (.int .i64 a1))),(AV.d (D.list a2n a2c a2)),(AV.ptr 0 0),Jk,Jk,(AV.ptr 1 0),(AV.d zI),(AV.d zI),(AV.ptr 6 0),(AV.d zI),(AV.d zI),Jk,Jk,(AV.tup [(AV.ptr 6 0),(AV.d zI)]),(AV.d (D.agg [(D.list a0_0n a0_0c a0_0)])),(AV.d (D.v (.int .i64 a1))),(AV.tup [(AV.ptr 6 0),(AV.d zI)]),(AV.ptr 6 0),(AV.d zI),(AV.d zI),(AV.d (D.v (.bool false))),Jk,Jk,(AV.ptr 6 0),Jk,Jk,Jk,Jk,Jk,Jk,Jk,Jk,Jk,Jk,Jk,Jk,Jk,Jk,Jk,Jk,Jk,Jk,Jk,Jk,Jk,Jk,Jk,Jk,Jk,Jk,Jk,Jk,Jk,Jk,Jk,Jk] (some 25) v,L⟩ (fun st => contK Tg Za.sp ⟨0,[],false,[]⟩ (inlK Tg Za m 4) m Z11 (endK Tg Tryz.f21 (fun v L => viewK L 8 v some)) [.code (subc [1,0,1,1,1,1,1] (bodyOf Tryz.f21)),.scope (subc [1,0] (bodyOf Tryz.f21)) m] .normal st))) [.block 0,.code (subc [1,1,1] (bodyOf Tryz.f65))])
noncomputable def Zd (m n0 : Nat) (Z7s : Nat) (Za4 : Option Nat) (Ziw : List D) (Zfx : Int) (Zzw : Nat) (Z10q : Option Nat) (Z10r : List D) (Z10s : Nat) (Z10t : Option Nat) (Z10u : List D) (Zo7 : Nat) (Zo8 : List D) (Zo9 : Nat) (Zoa : List D) (Zob : Nat) (Zr4 : List D) (Zr5 : Nat) (Zlq : Option Nat) (Zlr : List D) (Zls : Int) (Zoc : Nat) (Zh2 : Nat) (Zod : Nat) (Zh3 : Nat) (Zoe : Nat) (Zl0 : Nat) : Option D :=
 Z191 ⟨0,[],false,[]⟩ Z11 (subc [1,0] (bodyOf Tryz.f21)) (fun l => codeF Tg Za.sp ⟨0,[],false,[]⟩ (inlK Tg Za m 4) m Z11 (subc [1,0] (bodyOf Tryz.f21)) (some l)) (contK Tg Za.sp ⟨0,[],false,[]⟩ (inlK Tg Za m 4) m Z11 (endK Tg Tryz.f21 (fun v L => viewK L 8 v some)) []) n0 0 ⟨[Jk,Jk,(AV.d (D.list Z7s Za4 Ziw)),Jk,Jk,Jk,(AV.ptr 1 0),Jk,Jk,(AV.ptr 6 0),Jk,(AV.d (D.v (.int .i64 Zfx))),Jk,Jk,Jk,Jk,Jk,Jk,Jk,Jk,Jk,Jk,Jk,Jk,Jk,Jk,Jk,Jk,Jk,Jk,Jk,Jk,Jk,Jk,Jk,Jk,Jk,Jk,Jk,Jk,Jk,Jk,Jk,Jk,Jk,Jk,Jk,Jk,Jk,Jk,Jk,Jk,Jk,Jk,Jk,Jk,Jk],[(Blk.d 1 [(D.list Zzw Z10q Z10r)]),(Blk.d 1 [(D.list 0 (some 0) [])]),(Blk.d 1 [(D.list Z10s Z10t Z10u)]),(Blk.d Zo7 Zo8),(Blk.d Zo9 Zoa),(Blk.d Zob Zr4),(Blk.a 5 [(AV.d (D.list Zr5 Zlq Zlr)),(AV.d (D.v (.int .i64 Zls))),(AV.sl 3 0 Zoc (some Zh2) 1),(AV.sl 4 0 Zod (some Zh3) 1),(AV.sl 5 0 Zoe (some Zl0) 1)])]⟩
noncomputable def Z1m (m n0 n1 : Nat) (Z7s : Nat) (Za4 : Option Nat) (Ziw : List D) (Zfx : Int) (Z1jb : Nat) (Z1p9 : Int) (Z1gt : Int) (Z184 : Nat) (Z185 : Option Nat) (Z186 : List D) (Z187 : Nat) (Z188 : Option Nat) (Z189 : List D) (Z1kd : Nat) (Z120 : List D) (Zys : Nat) (Zwx : List D) (Zyt : Nat) (Z121 : List D) (Zi7 : Nat) (Zof : Option Nat) (Zi8 : List D) (Z122 : Int) (Z123 : Nat) (Zog : Nat) (Zsy : Nat) (Zoh : Nat) (Zvf : Nat) (Zoi : Nat) (Z1az : Nat) (Z1i7 : List D) : Option D :=
 Z1e (bm 1545 23) 7 8 (codeK Tg Za.sp ⟨7,[0,2,3,4,5],true,[]⟩ (inlK Tg Za m 3) m Z2w (subc [1,1,0,1,0,0] (bodyOf Tryz.f65))) n1 ⟨[(AV.ptr 6 0),Jk,Jk,(AV.sl 7 0 Z1jb none 1),Jk,Jk,Jk,Jk,Jk,(AV.d (D.v (.int .i64 Z1p9))),(AV.d (D.v (.int .i64 Z1gt))),Jk,Jk,Jk,Jk,Jk,Jk,Jk,Jk,Jk,Jk,Jk,Jk],[(Blk.d 1 [(D.list Z184 Z185 Z186)]),(Blk.d 1 [(D.list 0 (some 0) [])]),(Blk.d 1 [(D.list Z187 Z188 Z189)]),(Blk.d Z1kd Z120),(Blk.d Zys Zwx),(Blk.d Zyt Z121),(Blk.a 5 [(AV.d (D.list Zi7 Zof Zi8)),(AV.d (D.v (.int .i64 Z122))),(AV.sl 3 0 Z123 (some Zog) 1),(AV.sl 4 0 Zsy (some Zoh) 1),(AV.sl 5 0 Zvf (some Zoi) 1)]),(Blk.d Z1az Z1i7)]⟩
  (contK Tg Za.sp ⟨7,[0,2,3,4,5],true,[]⟩ (inlK Tg Za m 3) m Z2w (endK Tg Tryz.f65 (fun v L => opsK Tg Za.sp ⟨0,[],false,[]⟩ [] (inlK Tg Za m 4) (regOps (subc [1,0,1,1,1,1,0] (bodyOf Tryz.f21))) (List.drop 2 (Array.toList (regOps (subc [1,0,1,1,1,1,0] (bodyOf Tryz.f21))))) ⟨setSl [Jk,Jk,(AV.d (D.list Z7s Za4 Ziw)),Jk,Jk,Jk,(AV.ptr 1 0),Jk,Jk,(AV.ptr 6 0),Jk,(AV.d (D.v (.int .i64 Zfx))),Jk,Jk,Jk,Jk,Jk,Jk,Jk,Jk,Jk,Jk,Jk,Jk,(AV.ptr 6 0),Jk,Jk,Jk,Jk,Jk,Jk,Jk,Jk,Jk,Jk,Jk,Jk,Jk,Jk,Jk,Jk,Jk,Jk,Jk,Jk,Jk,Jk,Jk,Jk,Jk,Jk,Jk,Jk,Jk,Jk,Jk,Jk] (some 25) v,L⟩ (fun st => contK Tg Za.sp ⟨0,[],false,[]⟩ (inlK Tg Za m 4) m Z11 (endK Tg Tryz.f21 (fun v L => viewK L 8 v some)) [.code (subc [1,0,1,1,1,1,1] (bodyOf Tryz.f21)),.scope (subc [1,0] (bodyOf Tryz.f21)) n0] .normal st))) [.block 0,.code (subc [1,1,1] (bodyOf Tryz.f65))])
noncomputable def Z26 (m n0 n1 : Nat) (Z7s : Nat) (Za4 : Option Nat) (Ziw : List D) (Zfx : Int) (q96 : Sl) (Z1le : Nat) (Z1po : Nat) (Z1nm : Nat) (Z1q6 : Int) (Z1nn : Int) (Z1ol : Nat) (Z1om : Option Nat) (Z1on : List D) (Z1oo : Nat) (Z1op : Option Nat) (Z1fk : List D) (Z1fl : Nat) (Z1fm : List D) (Z1fn : Nat) (Z1fo : List D) (Z1fp : Nat) (Z1lf : List D) (Z1b0 : Nat) (Z1b1 : Option Nat) (Z1b2 : List D) (Z1fq : Int) (Z1fr : Nat) (Z1fs : Nat) (Z1ft : Nat) (Z1fu : Nat) (Z1fv : Nat) (Z1lg : List D) : Option D :=
 Z1e (bm 14349 34) 8 10 (codeK Tg Za.sp ⟨8,[0,2,3,4,5],true,[]⟩ (inlK Tg Za m 3) m Z2x (subc [1,1,0,1,0,0] (bodyOf Tryz.f70))) n1 ⟨[(AV.ptr 6 0),Jk,(AV.ptr 8 0),(AV.sl 9 0 Z1le none 1),Jk,Jk,Jk,Jk,Jk,Jk,Jk,(AV.sl 5 0 Z1po (some Z1nm) 1),(AV.d (D.v (.int .i64 Z1q6))),(AV.d (D.v (.int .i64 Z1nn))),Jk,Jk,Jk,Jk,Jk,Jk,Jk,Jk,Jk,Jk,Jk,Jk,Jk,Jk,Jk,Jk,Jk,Jk,Jk,Jk],[(Blk.d 1 [(D.list Z1ol Z1om Z1on)]),(Blk.d 1 [(D.list 0 (some 0) [])]),(Blk.d 1 [(D.list Z1oo Z1op Z1fk)]),(Blk.d Z1fl Z1fm),(Blk.d Z1fn Z1fo),(Blk.d Z1fp Z1lf),(Blk.a 5 [(AV.d (D.list Z1b0 Z1b1 Z1b2)),(AV.d (D.v (.int .i64 Z1fq))),(AV.sl 3 0 Z1fr (some Z1fs) 1),(AV.sl 4 0 Z1ft (some Z1fu) 1),(AV.sl 5 0 Z1po (some Z1nm) 1)]),Blk.dead,(Blk.d 1 [(D.list 0 (some 0) [])]),(Blk.d Z1fv Z1lg)]⟩
  (contK Tg Za.sp ⟨8,[0,2,3,4,5],true,[]⟩ (inlK Tg Za m 3) m Z2x (endK Tg Tryz.f70 (fun v L => opsK Tg Za.sp ⟨0,[],false,[]⟩ [] (inlK Tg Za m 4) (regOps (subc [1,0,1,1,1,1,1,1,0] (bodyOf Tryz.f21))) (List.drop 2 (Array.toList (regOps (subc [1,0,1,1,1,1,1,1,0] (bodyOf Tryz.f21))))) ⟨setSl [Jk,Jk,(AV.d (D.list Z7s Za4 Ziw)),Jk,Jk,Jk,(AV.ptr 1 0),Jk,Jk,(AV.ptr 6 0),Jk,(AV.d (D.v (.int .i64 Zfx))),(AV.d (D.list q96.n q96.cap q96.cs)),Jk,Jk,Jk,Jk,Jk,Jk,Jk,Jk,Jk,Jk,Jk,(AV.ptr 6 0),(AV.d (D.list q96.n q96.cap q96.cs)),(AV.d (D.list q96.n q96.cap q96.cs)),(AV.d (D.v (.int .i64 (q96.n : Int)))),(AV.d (D.v (.bool false))),Jk,Jk,Jk,Jk,Jk,Jk,Jk,Jk,Jk,Jk,Jk,Jk,Jk,Jk,Jk,Jk,Jk,Jk,Jk,Jk,Jk,Jk,Jk,Jk,Jk,(AV.ptr 6 0),Jk,Jk] (some 55) v,L⟩ (fun st => contK Tg Za.sp ⟨0,[],false,[]⟩ (inlK Tg Za m 4) m Z11 (endK Tg Tryz.f21 (fun v L => viewK L 8 v some)) [.code (subc [1,0,1,1,1,1,1,1,1] (bodyOf Tryz.f21)),.scope (subc [1,0] (bodyOf Tryz.f21)) n0] .normal st))) [.block 0,.code (subc [1,1,1] (bodyOf Tryz.f70))])
theorem Zgg (m n0 n1 : Nat) (Z7s : Nat) (Za4 : Option Nat) (Ziw : List D) (Zfx : Int) (q96 : Sl) (Z1le : Nat) (Z1po : Nat) (Z1nm : Nat) (Z1q6 : Int) (Z1nn : Int) (Z1ol : Nat) (Z1om : Option Nat) (Z1on : List D) (Z1oo : Nat) (Z1op : Option Nat) (Z1fk : List D) (Z1fl : Nat) (Z1fm : List D) (Z1fn : Nat) (Z1fo : List D) (Z1fp : Nat) (Z1lf : List D) (Z1b0 : Nat) (Z1b1 : Option Nat) (Z1b2 : List D) (Z1fq : Int) (Z1fr : Nat) (Z1fs : Nat) (Z1ft : Nat) (Z1fu : Nat) (Z1fv : Nat) (Z1lg : List D) : Z26 m n0 (n1 + 1) Z7s Za4 Ziw Zfx q96 Z1le Z1po Z1nm Z1q6 Z1nn Z1ol Z1om Z1on Z1oo Z1op Z1fk Z1fl Z1fm Z1fn Z1fo Z1fp Z1lf Z1b0 Z1b1 Z1b2 Z1fq Z1fr Z1fs Z1ft Z1fu Z1fv Z1lg =
 (cond (decide (Z1nn < Z1q6))
 (if 0 ≤ Z1nn ∧ Z1nn < (Z1po : Int) then
 (rdB Z1lf[(0 + ((Int.toNat Z1nn) * 1))]?).bind fun b109 =>
 cond b109
 (if ownB ⟨8,[0,2,3,4,5],true,[]⟩ 9 = true ∧ Z1fv = (Z1le * 1) ∧ fitsRow (Z1le + 1) 8 ∧ 1 = 1 then
 Z26 m n0 n1 Z7s Za4 Ziw Zfx q96 (Z1le + 1) Z1po Z1nm Z1q6 (IntKind.wrap .i64 (Z1nn + (1 : Int))) Z1ol Z1om Z1on Z1oo Z1op Z1fk Z1fl Z1fm Z1fn Z1fo Z1fp Z1lf Z1b0 Z1b1 Z1b2 Z1fq Z1fr Z1fs Z1ft Z1fu ((Z1le + 1) * 1) (Z1lg ++ [(D.v (.int .i64 Z1nn))])
 else none)
 (Z26 m n0 n1 Z7s Za4 Ziw Zfx q96 Z1le Z1po Z1nm Z1q6 (IntKind.wrap .i64 (Z1nn + (1 : Int))) Z1ol Z1om Z1on Z1oo Z1op Z1fk Z1fl Z1fm Z1fn Z1fo Z1fp Z1lf Z1b0 Z1b1 Z1b2 Z1fq Z1fr Z1fs Z1ft Z1fu Z1fv Z1lg)
 else none)
 (if (0 + (Z1le * 1)) ≤ Z1fv then
 (Z2q [(D.agg [(D.list Z1b0 Z1b1 Z1b2)]),(D.list Z1le none (cutL Z1fv Z1lg 0 (Z1le * 1)))]).bind fun d110 =>
 (rdT d110).bind fun r111 =>
 if List.length r111 = 2 then
 (rdA r111[0]?).bind fun c112 =>
 (rdI .i64 r111[1]?).bind fun x113 =>
 if (0 + (Z1le * 1)) ≤ Z1fv then
 if (0 + (Z1le * 1)) ≤ Z1fv then
 if (List.length c112) = 1 then
 if (List.length c112) = 1 then
 if (List.length c112) = 1 then
 some (D.tup [(D.agg c112),(D.v (.int .i64 Zfx)),zI])
 else none
 else none
 else none
 else none
 else none
 else none
 else none)) := by kernel_rfl
theorem Zex (m n0 n1 : Nat) (Z7s : Nat) (Za4 : Option Nat) (Ziw : List D) (Zfx : Int) (Z1jb : Nat) (Z1p9 : Int) (Z1gt : Int) (Z184 : Nat) (Z185 : Option Nat) (Z186 : List D) (Z187 : Nat) (Z188 : Option Nat) (Z189 : List D) (Z1kd : Nat) (Z120 : List D) (Zys : Nat) (Zwx : List D) (Zyt : Nat) (Z121 : List D) (Zi7 : Nat) (Zof : Option Nat) (Zi8 : List D) (Z122 : Int) (Z123 : Nat) (Zog : Nat) (Zsy : Nat) (Zoh : Nat) (Zvf : Nat) (Zoi : Nat) (Z1az : Nat) (Z1i7 : List D) : Z1m m n0 (n1 + 1) Z7s Za4 Ziw Zfx Z1jb Z1p9 Z1gt Z184 Z185 Z186 Z187 Z188 Z189 Z1kd Z120 Zys Zwx Zyt Z121 Zi7 Zof Zi8 Z122 Z123 Zog Zsy Zoh Zvf Zoi Z1az Z1i7 =
 (cond (decide (Z1gt < Z1p9))
 (if 0 ≤ Z1gt ∧ Z1gt < (Zvf : Int) then
 (rdB Z121[(0 + ((Int.toNat Z1gt) * 1))]?).bind fun b92 =>
 cond (!b92)
 (if 0 ≤ Z1gt ∧ Z1gt < (Z123 : Int) then
 (rdI .i64 Z120[(0 + ((Int.toNat Z1gt) * 1))]?).bind fun x93 =>
 cond (decide (x93 < Z122))
 (if 0 ≤ Z1gt ∧ Z1gt < (Zsy : Int) then
 (rdI .i64 Zwx[(0 + ((Int.toNat Z1gt) * 1))]?).bind fun x94 =>
 cond (x94 == (0 : Int))
 (if ownB ⟨7,[0,2,3,4,5],true,[]⟩ 7 = true ∧ Z1az = (Z1jb * 1) ∧ fitsRow (Z1jb + 1) 8 ∧ 1 = 1 then
 Z1m m n0 n1 Z7s Za4 Ziw Zfx (Z1jb + 1) Z1p9 (IntKind.wrap .i64 (Z1gt + (1 : Int))) Z184 Z185 Z186 Z187 Z188 Z189 Z1kd Z120 Zys Zwx Zyt Z121 Zi7 Zof Zi8 Z122 Z123 Zog Zsy Zoh Zvf Zoi ((Z1jb + 1) * 1) (Z1i7 ++ [(D.v (.int .i64 Z1gt))])
 else none)
 (Z1m m n0 n1 Z7s Za4 Ziw Zfx Z1jb Z1p9 (IntKind.wrap .i64 (Z1gt + (1 : Int))) Z184 Z185 Z186 Z187 Z188 Z189 Z1kd Z120 Zys Zwx Zyt Z121 Zi7 Zof Zi8 Z122 Z123 Zog Zsy Zoh Zvf Zoi Z1az Z1i7)
 else none)
 (Z1m m n0 n1 Z7s Za4 Ziw Zfx Z1jb Z1p9 (IntKind.wrap .i64 (Z1gt + (1 : Int))) Z184 Z185 Z186 Z187 Z188 Z189 Z1kd Z120 Zys Zwx Zyt Z121 Zi7 Zof Zi8 Z122 Z123 Zog Zsy Zoh Zvf Zoi Z1az Z1i7)
 else none)
 (Z1m m n0 n1 Z7s Za4 Ziw Zfx Z1jb Z1p9 (IntKind.wrap .i64 (Z1gt + (1 : Int))) Z184 Z185 Z186 Z187 Z188 Z189 Z1kd Z120 Zys Zwx Zyt Z121 Zi7 Zof Zi8 Z122 Z123 Zog Zsy Zoh Zvf Zoi Z1az Z1i7)
 else none)
 (if (0 + (Z1jb * 1)) ≤ Z1az then
 (Z4f [(D.list Z1jb none (cutL Z1az Z1i7 0 (Z1jb * 1)))]).bind fun d95 =>
 (rdL (some d95)).bind fun q96 =>
 if (0 + (Z1jb * 1)) ≤ Z1az then
 if (0 + (Z1jb * 1)) ≤ Z1az then
 cond (decide ((q96.n : Int) > (0 : Int)))
 (cond (decide (Zfx < (Z7s : Int)))
 (if 0 ≤ Zfx ∧ Zfx < (Z7s : Int) then
 (rdI .i64 Ziw[((Int.toNat Zfx) * 1)]?).bind fun x97 =>
 if (q96.n : Int) = 0 then none else
 cond (decide ((Int.tmod x97 (q96.n : Int)) < (0 : Int)))
 (if 0 ≤ (IntKind.wrap .i64 ((Int.tmod x97 (q96.n : Int)) + (q96.n : Int))) ∧ (IntKind.wrap .i64 ((Int.tmod x97 (q96.n : Int)) + (q96.n : Int))) < (q96.n : Int) then
 (rdI .i64 q96.cs[((Int.toNat (IntKind.wrap .i64 ((Int.tmod x97 (q96.n : Int)) + (q96.n : Int)))) * 1)]?).bind fun x98 =>
 if 0 ≤ x98 ∧ x98 < (Zvf : Int) then
 if 1 = 1 ∧ (0 + ((Int.toNat x98) * 1)) < Zyt then
 cond (decide (x98 > (0 : Int)))
 (if 0 ≤ x98 ∧ x98 < (Zi7 : Int) then
 (rdI .i64 Zi8[(((Int.toNat x98) * 20) + 0)]?).bind fun x99 =>
 if 0 ≤ x99 ∧ x99 < (Zsy : Int) then
 (rdI .i64 Zwx[(0 + ((Int.toNat x99) * 1))]?).bind fun x100 =>
 if 0 ≤ x99 ∧ x99 < (Zsy : Int) then
 if 1 = 1 ∧ (0 + ((Int.toNat x99) * 1)) < Zys then
 Zd m n0 Z7s Za4 Ziw (IntKind.wrap .i64 (Zfx + (1 : Int))) Z184 Z185 Z186 Z187 Z188 Z189 Z1kd Z120 Zys (List.set Zwx (0 + ((Int.toNat x99) * 1)) (D.v (.int .i64 (IntKind.wrap .i64 (x100 - (1 : Int)))))) Zyt (List.set Z121 (0 + ((Int.toNat x98) * 1)) (D.v (.bool true))) Zi7 Zof Zi8 Z122 Z123 Zog Zsy Zoh Zvf Zoi
 else none
 else none
 else none
 else none)
 (Zd m n0 Z7s Za4 Ziw (IntKind.wrap .i64 (Zfx + (1 : Int))) Z184 Z185 Z186 Z187 Z188 Z189 Z1kd Z120 Zys Zwx Zyt (List.set Z121 (0 + ((Int.toNat x98) * 1)) (D.v (.bool true))) Zi7 Zof Zi8 Z122 Z123 Zog Zsy Zoh Zvf Zoi)
 else none
 else none
 else none)
 (if 0 ≤ (Int.tmod x97 (q96.n : Int)) ∧ (Int.tmod x97 (q96.n : Int)) < (q96.n : Int) then
 (rdI .i64 q96.cs[((Int.toNat (Int.tmod x97 (q96.n : Int))) * 1)]?).bind fun x101 =>
 if 0 ≤ x101 ∧ x101 < (Zvf : Int) then
 if 1 = 1 ∧ (0 + ((Int.toNat x101) * 1)) < Zyt then
 cond (decide (x101 > (0 : Int)))
 (if 0 ≤ x101 ∧ x101 < (Zi7 : Int) then
 (rdI .i64 Zi8[(((Int.toNat x101) * 20) + 0)]?).bind fun x102 =>
 if 0 ≤ x102 ∧ x102 < (Zsy : Int) then
 (rdI .i64 Zwx[(0 + ((Int.toNat x102) * 1))]?).bind fun x103 =>
 if 0 ≤ x102 ∧ x102 < (Zsy : Int) then
 if 1 = 1 ∧ (0 + ((Int.toNat x102) * 1)) < Zys then
 Zd m n0 Z7s Za4 Ziw (IntKind.wrap .i64 (Zfx + (1 : Int))) Z184 Z185 Z186 Z187 Z188 Z189 Z1kd Z120 Zys (List.set Zwx (0 + ((Int.toNat x102) * 1)) (D.v (.int .i64 (IntKind.wrap .i64 (x103 - (1 : Int)))))) Zyt (List.set Z121 (0 + ((Int.toNat x101) * 1)) (D.v (.bool true))) Zi7 Zof Zi8 Z122 Z123 Zog Zsy Zoh Zvf Zoi
 else none
 else none
 else none
 else none)
 (Zd m n0 Z7s Za4 Ziw (IntKind.wrap .i64 (Zfx + (1 : Int))) Z184 Z185 Z186 Z187 Z188 Z189 Z1kd Z120 Zys Zwx Zyt (List.set Z121 (0 + ((Int.toNat x101) * 1)) (D.v (.bool true))) Zi7 Zof Zi8 Z122 Z123 Zog Zsy Zoh Zvf Zoi)
 else none
 else none
 else none)
 else none)
 (if 0 ≤ (0 : Int) ∧ (0 : Int) < (q96.n : Int) then
 (rdI .i64 q96.cs[0]?).bind fun x104 =>
 if 0 ≤ x104 ∧ x104 < (Zvf : Int) then
 if 1 = 1 ∧ (0 + ((Int.toNat x104) * 1)) < Zyt then
 cond (decide (x104 > (0 : Int)))
 (if 0 ≤ x104 ∧ x104 < (Zi7 : Int) then
 (rdI .i64 Zi8[(((Int.toNat x104) * 20) + 0)]?).bind fun x105 =>
 if 0 ≤ x105 ∧ x105 < (Zsy : Int) then
 (rdI .i64 Zwx[(0 + ((Int.toNat x105) * 1))]?).bind fun x106 =>
 if 0 ≤ x105 ∧ x105 < (Zsy : Int) then
 if 1 = 1 ∧ (0 + ((Int.toNat x105) * 1)) < Zys then
 Zd m n0 Z7s Za4 Ziw (IntKind.wrap .i64 (Zfx + (1 : Int))) Z184 Z185 Z186 Z187 Z188 Z189 Z1kd Z120 Zys (List.set Zwx (0 + ((Int.toNat x105) * 1)) (D.v (.int .i64 (IntKind.wrap .i64 (x106 - (1 : Int)))))) Zyt (List.set Z121 (0 + ((Int.toNat x104) * 1)) (D.v (.bool true))) Zi7 Zof Zi8 Z122 Z123 Zog Zsy Zoh Zvf Zoi
 else none
 else none
 else none
 else none)
 (Zd m n0 Z7s Za4 Ziw (IntKind.wrap .i64 (Zfx + (1 : Int))) Z184 Z185 Z186 Z187 Z188 Z189 Z1kd Z120 Zys Zwx Zyt (List.set Z121 (0 + ((Int.toNat x104) * 1)) (D.v (.bool true))) Zi7 Zof Zi8 Z122 Z123 Zog Zsy Zoh Zvf Zoi)
 else none
 else none
 else none))
 (Z26 m n0 m Z7s Za4 Ziw Zfx q96 0 Zvf Zoi (Zvf : Int) (0 : Int) Z184 Z185 Z186 Z187 Z188 Z189 Z1kd Z120 Zys Zwx Zyt Z121 Zi7 Zof Zi8 Z122 Z123 Zog Zsy Zoh 0 [])
 else none
 else none
 else none)) := by kernel_rfl
theorem Zsz (m n0 : Nat) (Z7s : Nat) (Za4 : Option Nat) (Ziw : List D) (Zfx : Int) (Zzw : Nat) (Z10q : Option Nat) (Z10r : List D) (Z10s : Nat) (Z10t : Option Nat) (Z10u : List D) (Zo7 : Nat) (Zo8 : List D) (Zo9 : Nat) (Zoa : List D) (Zob : Nat) (Zr4 : List D) (Zr5 : Nat) (Zlq : Option Nat) (Zlr : List D) (Zls : Int) (Zoc : Nat) (Zh2 : Nat) (Zod : Nat) (Zh3 : Nat) (Zoe : Nat) (Zl0 : Nat) : Zd m (n0 + 1) Z7s Za4 Ziw Zfx Zzw Z10q Z10r Z10s Z10t Z10u Zo7 Zo8 Zo9 Zoa Zob Zr4 Zr5 Zlq Zlr Zls Zoc Zh2 Zod Zh3 Zoe Zl0 =
 (Z1m m n0 m Z7s Za4 Ziw Zfx 0 (Zoe : Int) (0 : Int) Zzw Z10q Z10r Z10s Z10t Z10u Zo7 Zo8 Zo9 Zoa Zob Zr4 Zr5 Zlq Zlr Zls Zoc Zh2 Zod Zh3 Zoe Zl0 0 []) := by kernel_rfl
noncomputable def Z23 (m n0 : Nat) (a0_0n : Nat) (a0_0c : Option Nat) (a0_0 : List D) (a1 : Int) (a2n : Nat) (a2c : Option Nat) (a2 : List D) (q25 : Sl) (Z1lh : Nat) (Z1li : Nat) (Z1q7 : Int) (Z1no : Int) (Z1oq : Nat) (Z1or : Option Nat) (Z1os : List D) (Z1ls : Nat) (Z1lt : Option Nat) (Z1lu : List D) (Z1b3 : Nat) (Z1fw : List D) (Z1fx : List D) (Z1lj : List D) (Z1fy : Int) (Z1fz : Nat) (Z1lk : List D) : Option D :=
 Z1e (bm 14349 34) 8 10 (codeK Tg Za.sp ⟨8,[2,3,4,5],true,[]⟩ (inlK Tg Za m 3) m Z2x (subc [1,1,0,1,0,0] (bodyOf Tryz.f70))) n0 ⟨[(AV.ptr 6 0),Jk,(AV.ptr 8 0),(AV.sl 9 0 Z1lh none 1),Jk,Jk,Jk,Jk,Jk,Jk,Jk,(AV.sl 5 0 Z1li (some Z1li) 1),(AV.d (D.v (.int .i64 Z1q7))),(AV.d (D.v (.int .i64 Z1no))),Jk,Jk,Jk,Jk,Jk,Jk,Jk,Jk,Jk,Jk,Jk,Jk,Jk,Jk,Jk,Jk,Jk,Jk,Jk,Jk],[(Blk.d 1 [(D.list Z1oq Z1or Z1os)]),(Blk.d 1 [(D.list 0 (some 0) [])]),(Blk.d 1 [(D.list Z1ls Z1lt Z1lu)]),(Blk.d Z1b3 Z1fw),(Blk.d Z1b3 Z1fx),(Blk.d Z1b3 Z1lj),(Blk.a 5 [(AV.d (D.list Z1ls Z1lt Z1lu)),(AV.d (D.v (.int .i64 Z1fy))),(AV.sl 3 0 Z1li (some Z1li) 1),(AV.sl 4 0 Z1li (some Z1li) 1),(AV.sl 5 0 Z1li (some Z1li) 1)]),Blk.dead,(Blk.d 1 [(D.list 0 (some 0) [])]),(Blk.d Z1fz Z1lk)]⟩
  (contK Tg Za.sp ⟨8,[2,3,4,5],true,[]⟩ (inlK Tg Za m 3) m Z2x (endK Tg Tryz.f70 (fun v L => opsK Tg Za.sp ⟨0,[],false,[]⟩ [] (inlK Tg Za m 4) (regOps (subc [1,0,1,1,1,1,1,1,0] (bodyOf Tryz.f21))) (List.drop 2 (Array.toList (regOps (subc [1,0,1,1,1,1,1,1,0] (bodyOf Tryz.f21))))) ⟨setSl [(AV.d (D.agg [(D.list a0_0n a0_0c a0_0)])),(AV.d (D.v (.int .i64 a1))),(AV.d (D.list a2n a2c a2)),(AV.ptr 0 0),Jk,Jk,(AV.ptr 1 0),(AV.d zI),(AV.d zI),(AV.ptr 6 0),(AV.d zI),(AV.d zI),(AV.d (D.list q25.n q25.cap q25.cs)),Jk,(AV.tup [(AV.ptr 6 0),(AV.d zI)]),(AV.d (D.agg [(D.list a0_0n a0_0c a0_0)])),(AV.d (D.v (.int .i64 a1))),(AV.tup [(AV.ptr 6 0),(AV.d zI)]),(AV.ptr 6 0),(AV.d zI),(AV.d zI),(AV.d (D.v (.bool false))),Jk,Jk,(AV.ptr 6 0),(AV.d (D.list q25.n q25.cap q25.cs)),(AV.d (D.list q25.n q25.cap q25.cs)),(AV.d (D.v (.int .i64 (q25.n : Int)))),(AV.d (D.v (.bool false))),Jk,Jk,Jk,Jk,Jk,Jk,Jk,Jk,Jk,Jk,Jk,Jk,Jk,Jk,Jk,Jk,Jk,Jk,Jk,Jk,Jk,Jk,Jk,Jk,Jk,(AV.ptr 6 0),Jk,Jk] (some 55) v,L⟩ (fun st => contK Tg Za.sp ⟨0,[],false,[]⟩ (inlK Tg Za m 4) m Z11 (endK Tg Tryz.f21 (fun v L => viewK L 8 v some)) [.code (subc [1,0,1,1,1,1,1,1,1] (bodyOf Tryz.f21)),.scope (subc [1,0] (bodyOf Tryz.f21)) m] .normal st))) [.block 0,.code (subc [1,1,1] (bodyOf Tryz.f70))])
theorem Zey (m n0 : Nat) (a0_0n : Nat) (a0_0c : Option Nat) (a0_0 : List D) (a1 : Int) (a2n : Nat) (a2c : Option Nat) (a2 : List D) (q25 : Sl) (Z1lh : Nat) (Z1li : Nat) (Z1q7 : Int) (Z1no : Int) (Z1oq : Nat) (Z1or : Option Nat) (Z1os : List D) (Z1ls : Nat) (Z1lt : Option Nat) (Z1lu : List D) (Z1b3 : Nat) (Z1fw : List D) (Z1fx : List D) (Z1lj : List D) (Z1fy : Int) (Z1fz : Nat) (Z1lk : List D) : Z23 m (n0 + 1) a0_0n a0_0c a0_0 a1 a2n a2c a2 q25 Z1lh Z1li Z1q7 Z1no Z1oq Z1or Z1os Z1ls Z1lt Z1lu Z1b3 Z1fw Z1fx Z1lj Z1fy Z1fz Z1lk =
 (cond (decide (Z1no < Z1q7))
 (if 0 ≤ Z1no ∧ Z1no < (Z1li : Int) then
 (rdB Z1lj[(0 + ((Int.toNat Z1no) * 1))]?).bind fun b402 =>
 cond b402
 (if ownB ⟨8,[2,3,4,5],true,[]⟩ 9 = true ∧ Z1fz = (Z1lh * 1) ∧ fitsRow (Z1lh + 1) 8 ∧ 1 = 1 then
 Z23 m n0 a0_0n a0_0c a0_0 a1 a2n a2c a2 q25 (Z1lh + 1) Z1li Z1q7 (IntKind.wrap .i64 (Z1no + (1 : Int))) Z1oq Z1or Z1os Z1ls Z1lt Z1lu Z1b3 Z1fw Z1fx Z1lj Z1fy ((Z1lh + 1) * 1) (Z1lk ++ [(D.v (.int .i64 Z1no))])
 else none)
 (Z23 m n0 a0_0n a0_0c a0_0 a1 a2n a2c a2 q25 Z1lh Z1li Z1q7 (IntKind.wrap .i64 (Z1no + (1 : Int))) Z1oq Z1or Z1os Z1ls Z1lt Z1lu Z1b3 Z1fw Z1fx Z1lj Z1fy Z1fz Z1lk)
 else none)
 (if (0 + (Z1lh * 1)) ≤ Z1fz then
 (Z2q [(D.agg [(D.list Z1ls Z1lt Z1lu)]),(D.list Z1lh none (cutL Z1fz Z1lk 0 (Z1lh * 1)))]).bind fun d403 =>
 (rdT d403).bind fun r404 =>
 if List.length r404 = 2 then
 (rdA r404[0]?).bind fun c405 =>
 (rdI .i64 r404[1]?).bind fun x406 =>
 if (0 + (Z1lh * 1)) ≤ Z1fz then
 if (0 + (Z1lh * 1)) ≤ Z1fz then
 if (List.length c405) = 1 then
 if (List.length c405) = 1 then
 if (List.length c405) = 1 then
 some (D.tup [(D.agg c405),zI,zI])
 else none
 else none
 else none
 else none
 else none
 else none
 else none)) := by kernel_rfl
theorem Zgh (m n0 : Nat) (a0_0n : Nat) (a0_0c : Option Nat) (a0_0 : List D) (a1 : Int) (a2n : Nat) (a2c : Option Nat) (a2 : List D) (Z43 : Nat) (Z76 : Int) (Z56 : Int) (Z61 : Nat) (Z5a : Option Nat) (Z5r : List D) (Z4r : Nat) (Z5f : Option Nat) (Z5s : List D) (Z5t : Nat) (Z42 : List D) (Z3z : List D) (Z3l : List D) (Z4o : Int) (Z1t : Nat) (Z4s : Nat) (Z5m : List D) : Z1a m (n0 + 1) a0_0n a0_0c a0_0 a1 a2n a2c a2 Z43 Z76 Z56 Z61 Z5a Z5r Z4r Z5f Z5s Z5t Z42 Z3z Z3l Z4o Z1t Z4s Z5m =
 (cond (decide (Z56 < Z76))
 (if 0 ≤ Z56 ∧ Z56 < (Z1t : Int) then
 (rdB Z3l[(0 + ((Int.toNat Z56) * 1))]?).bind fun b21 =>
 cond (!b21)
 (if 0 ≤ Z56 ∧ Z56 < (Z1t : Int) then
 (rdI .i64 Z42[(0 + ((Int.toNat Z56) * 1))]?).bind fun x22 =>
 cond (decide (x22 < Z4o))
 (if 0 ≤ Z56 ∧ Z56 < (Z1t : Int) then
 (rdI .i64 Z3z[(0 + ((Int.toNat Z56) * 1))]?).bind fun x23 =>
 cond (x23 == (0 : Int))
 (if ownB ⟨7,[2,3,4,5],true,[]⟩ 7 = true ∧ Z4s = (Z43 * 1) ∧ fitsRow (Z43 + 1) 8 ∧ 1 = 1 then
 Z1a m n0 a0_0n a0_0c a0_0 a1 a2n a2c a2 (Z43 + 1) Z76 (IntKind.wrap .i64 (Z56 + (1 : Int))) Z61 Z5a Z5r Z4r Z5f Z5s Z5t Z42 Z3z Z3l Z4o Z1t ((Z43 + 1) * 1) (Z5m ++ [(D.v (.int .i64 Z56))])
 else none)
 (Z1a m n0 a0_0n a0_0c a0_0 a1 a2n a2c a2 Z43 Z76 (IntKind.wrap .i64 (Z56 + (1 : Int))) Z61 Z5a Z5r Z4r Z5f Z5s Z5t Z42 Z3z Z3l Z4o Z1t Z4s Z5m)
 else none)
 (Z1a m n0 a0_0n a0_0c a0_0 a1 a2n a2c a2 Z43 Z76 (IntKind.wrap .i64 (Z56 + (1 : Int))) Z61 Z5a Z5r Z4r Z5f Z5s Z5t Z42 Z3z Z3l Z4o Z1t Z4s Z5m)
 else none)
 (Z1a m n0 a0_0n a0_0c a0_0 a1 a2n a2c a2 Z43 Z76 (IntKind.wrap .i64 (Z56 + (1 : Int))) Z61 Z5a Z5r Z4r Z5f Z5s Z5t Z42 Z3z Z3l Z4o Z1t Z4s Z5m)
 else none)
 (if (0 + (Z43 * 1)) ≤ Z4s then
 (Z4f [(D.list Z43 none (cutL Z4s Z5m 0 (Z43 * 1)))]).bind fun d24 =>
 (rdL (some d24)).bind fun q25 =>
 if (0 + (Z43 * 1)) ≤ Z4s then
 if (0 + (Z43 * 1)) ≤ Z4s then
 cond (decide ((q25.n : Int) > (0 : Int)))
 (cond (decide ((0 : Int) < (a2n : Int)))
 (if 0 ≤ (0 : Int) ∧ (0 : Int) < (a2n : Int) then
 (rdI .i64 a2[0]?).bind fun x26 =>
 if (q25.n : Int) = 0 then none else
 cond (decide ((Int.tmod x26 (q25.n : Int)) < (0 : Int)))
 (if 0 ≤ (IntKind.wrap .i64 ((Int.tmod x26 (q25.n : Int)) + (q25.n : Int))) ∧ (IntKind.wrap .i64 ((Int.tmod x26 (q25.n : Int)) + (q25.n : Int))) < (q25.n : Int) then
 (rdI .i64 q25.cs[((Int.toNat (IntKind.wrap .i64 ((Int.tmod x26 (q25.n : Int)) + (q25.n : Int)))) * 1)]?).bind fun x27 =>
 if 0 ≤ x27 ∧ x27 < (Z1t : Int) then
 if 1 = 1 ∧ (0 + ((Int.toNat x27) * 1)) < Z5t then
 cond (decide (x27 > (0 : Int)))
 (if 0 ≤ x27 ∧ x27 < (Z4r : Int) then
 (rdI .i64 Z5s[(((Int.toNat x27) * 20) + 0)]?).bind fun x28 =>
 if 0 ≤ x28 ∧ x28 < (Z1t : Int) then
 (rdI .i64 Z3z[(0 + ((Int.toNat x28) * 1))]?).bind fun x29 =>
 if 0 ≤ x28 ∧ x28 < (Z1t : Int) then
 if 1 = 1 ∧ (0 + ((Int.toNat x28) * 1)) < Z5t then
 Zd m m a2n a2c a2 (1 : Int) Z61 Z5a Z5r Z4r Z5f Z5s Z5t Z42 Z5t (List.set Z3z (0 + ((Int.toNat x28) * 1)) (D.v (.int .i64 (IntKind.wrap .i64 (x29 - (1 : Int)))))) Z5t (List.set Z3l (0 + ((Int.toNat x27) * 1)) (D.v (.bool true))) Z4r Z5f Z5s Z4o Z1t Z1t Z1t Z1t Z1t Z1t
 else none
 else none
 else none
 else none)
 (Zd m m a2n a2c a2 (1 : Int) Z61 Z5a Z5r Z4r Z5f Z5s Z5t Z42 Z5t Z3z Z5t (List.set Z3l (0 + ((Int.toNat x27) * 1)) (D.v (.bool true))) Z4r Z5f Z5s Z4o Z1t Z1t Z1t Z1t Z1t Z1t)
 else none
 else none
 else none)
 (if 0 ≤ (Int.tmod x26 (q25.n : Int)) ∧ (Int.tmod x26 (q25.n : Int)) < (q25.n : Int) then
 (rdI .i64 q25.cs[((Int.toNat (Int.tmod x26 (q25.n : Int))) * 1)]?).bind fun x170 =>
 if 0 ≤ x170 ∧ x170 < (Z1t : Int) then
 if 1 = 1 ∧ (0 + ((Int.toNat x170) * 1)) < Z5t then
 cond (decide (x170 > (0 : Int)))
 (if 0 ≤ x170 ∧ x170 < (Z4r : Int) then
 (rdI .i64 Z5s[(((Int.toNat x170) * 20) + 0)]?).bind fun x171 =>
 if 0 ≤ x171 ∧ x171 < (Z1t : Int) then
 (rdI .i64 Z3z[(0 + ((Int.toNat x171) * 1))]?).bind fun x172 =>
 if 0 ≤ x171 ∧ x171 < (Z1t : Int) then
 if 1 = 1 ∧ (0 + ((Int.toNat x171) * 1)) < Z5t then
 Zd m m a2n a2c a2 (1 : Int) Z61 Z5a Z5r Z4r Z5f Z5s Z5t Z42 Z5t (List.set Z3z (0 + ((Int.toNat x171) * 1)) (D.v (.int .i64 (IntKind.wrap .i64 (x172 - (1 : Int)))))) Z5t (List.set Z3l (0 + ((Int.toNat x170) * 1)) (D.v (.bool true))) Z4r Z5f Z5s Z4o Z1t Z1t Z1t Z1t Z1t Z1t
 else none
 else none
 else none
 else none)
 (Zd m m a2n a2c a2 (1 : Int) Z61 Z5a Z5r Z4r Z5f Z5s Z5t Z42 Z5t Z3z Z5t (List.set Z3l (0 + ((Int.toNat x170) * 1)) (D.v (.bool true))) Z4r Z5f Z5s Z4o Z1t Z1t Z1t Z1t Z1t Z1t)
 else none
 else none
 else none)
 else none)
 (if 0 ≤ (0 : Int) ∧ (0 : Int) < (q25.n : Int) then
 (rdI .i64 q25.cs[0]?).bind fun x285 =>
 if 0 ≤ x285 ∧ x285 < (Z1t : Int) then
 if 1 = 1 ∧ (0 + ((Int.toNat x285) * 1)) < Z5t then
 cond (decide (x285 > (0 : Int)))
 (if 0 ≤ x285 ∧ x285 < (Z4r : Int) then
 (rdI .i64 Z5s[(((Int.toNat x285) * 20) + 0)]?).bind fun x286 =>
 if 0 ≤ x286 ∧ x286 < (Z1t : Int) then
 (rdI .i64 Z3z[(0 + ((Int.toNat x286) * 1))]?).bind fun x287 =>
 if 0 ≤ x286 ∧ x286 < (Z1t : Int) then
 if 1 = 1 ∧ (0 + ((Int.toNat x286) * 1)) < Z5t then
 Zd m m a2n a2c a2 (1 : Int) Z61 Z5a Z5r Z4r Z5f Z5s Z5t Z42 Z5t (List.set Z3z (0 + ((Int.toNat x286) * 1)) (D.v (.int .i64 (IntKind.wrap .i64 (x287 - (1 : Int)))))) Z5t (List.set Z3l (0 + ((Int.toNat x285) * 1)) (D.v (.bool true))) Z4r Z5f Z5s Z4o Z1t Z1t Z1t Z1t Z1t Z1t
 else none
 else none
 else none
 else none)
 (Zd m m a2n a2c a2 (1 : Int) Z61 Z5a Z5r Z4r Z5f Z5s Z5t Z42 Z5t Z3z Z5t (List.set Z3l (0 + ((Int.toNat x285) * 1)) (D.v (.bool true))) Z4r Z5f Z5s Z4o Z1t Z1t Z1t Z1t Z1t Z1t)
 else none
 else none
 else none))
 (Z23 m m a0_0n a0_0c a0_0 a1 a2n a2c a2 q25 0 Z1t (Z1t : Int) (0 : Int) Z61 Z5a Z5r Z4r Z5f Z5s Z5t Z42 Z3z Z3l Z4o 0 [])
 else none
 else none
 else none)) := by kernel_rfl
theorem Zkf (m n0 : Nat) (a0_0n : Nat) (a0_0c : Option Nat) (a0_0 : List D) (a1 : Int) (a2n : Nat) (a2c : Option Nat) (a2 : List D) (Zz : Nat) (Z13 : Option Nat) (Z18 : List D) (Z1b : Int) (Z14 : Int) (Z1q : Nat) (Z1z : Option Nat) (Z32 : List D) (Z4e : Nat) (Zfw : List D) (Z63 : List D) (Z5u : List D) (Z6o : Int) (Z2o : Nat) : Z3w m (n0 + 1) a0_0n a0_0c a0_0 a1 a2n a2c a2 Zz Z13 Z18 Z1b Z14 Z1q Z1z Z32 Z4e Zfw Z63 Z5u Z6o Z2o =
 (cond (decide (Z14 < Z1b))
 (if 0 ≤ Z14 ∧ Z14 < (Zz : Int) then
 if (((Int.toNat Z14) * 20) + 20) ≤ (List.length Z18) then
 if (List.length ((List.drop ((Int.toNat Z14) * 20) Z18).take 20)) = 20 then
 cond (decide (Z14 > (0 : Int)))
 ((rdI .i64 ((List.drop ((Int.toNat Z14) * 20) Z18).take 20)[0]?).bind fun x11 =>
 if 0 ≤ x11 ∧ x11 < (Z2o : Int) then
 (rdI .i64 Zfw[(0 + ((Int.toNat x11) * 1))]?).bind fun x12 =>
 if 0 ≤ Z14 ∧ Z14 < (Z2o : Int) then
 if 1 = 1 ∧ (0 + ((Int.toNat Z14) * 1)) < Z4e then
 (rdI .i64 ((List.drop ((Int.toNat Z14) * 20) Z18).take 20)[0]?).bind fun x13 =>
 if 0 ≤ x13 ∧ x13 < (Z2o : Int) then
 (rdI .i64 Z63[(0 + ((Int.toNat x13) * 1))]?).bind fun x14 =>
 if 0 ≤ x13 ∧ x13 < (Z2o : Int) then
 if 1 = 1 ∧ (0 + ((Int.toNat x13) * 1)) < Z4e then
 Z3w m n0 a0_0n a0_0c a0_0 a1 a2n a2c a2 Zz Z13 Z18 Z1b (IntKind.wrap .i64 (Z14 + (1 : Int))) Z1q Z1z Z32 Z4e (List.set Zfw (0 + ((Int.toNat Z14) * 1)) (D.v (.int .i64 (IntKind.wrap .i64 (x12 + (1 : Int)))))) (List.set Z63 (0 + ((Int.toNat x13) * 1)) (D.v (.int .i64 (IntKind.wrap .i64 (x14 + (1 : Int)))))) Z5u Z6o Z2o
 else none
 else none
 else none
 else none
 else none
 else none)
 (Z3w m n0 a0_0n a0_0c a0_0 a1 a2n a2c a2 Zz Z13 Z18 Z1b (IntKind.wrap .i64 (Z14 + (1 : Int))) Z1q Z1z Z32 Z4e Zfw Z63 Z5u Z6o Z2o)
 else none
 else none
 else none)
 (Z1a m m a0_0n a0_0c a0_0 a1 a2n a2c a2 0 (Z2o : Int) (0 : Int) Z1q Z1z Z32 Zz Z13 Z18 Z4e Zfw Z63 Z5u Z6o Z2o 0 [])) := by kernel_rfl
theorem Ziu (m : Nat) (a0_0n : Nat) (a0_0c : Option Nat) (a0_0 : List D) (a1 : Int) (a2n : Nat) (a2c : Option Nat) (a2 : List D) (Z2y : Int) (Z4c : Nat) (Z40 : Option Nat) (Z3k : List D) (Z2j : Nat) (Z6i : Option Nat) (Z7k : List D) : Z98 m a0_0n a0_0c a0_0 a1 a2n a2c a2 Z2y Z4c Z40 Z3k Z2j Z6i Z7k =
 (if 0 ≤ (Z2j : Int) ∧ (Z2j : Int) ≤ (Z2j : Int) ∧ fitsRow (Int.toNat (Z2j : Int)) 8 then
 if 0 ≤ (Z2j : Int) ∧ (Z2j : Int) ≤ (Z2j : Int) ∧ fitsRow (Int.toNat (Z2j : Int)) 8 then
 if 0 ≤ (Z2j : Int) ∧ (Z2j : Int) ≤ (Z2j : Int) ∧ fitsRow (Int.toNat (Z2j : Int)) 1 then
 Z3w m m a0_0n a0_0c a0_0 a1 a2n a2c a2 Z2j Z6i Z7k (Z2j : Int) (0 : Int) Z4c Z40 Z3k ((Int.toNat (Z2j : Int)) * 1) (List.flatten (List.replicate (Int.toNat (Z2j : Int)) [zI])) (List.flatten (List.replicate (Int.toNat (Z2j : Int)) [zI])) (List.flatten (List.replicate (Int.toNat (Z2j : Int)) [(D.v (.bool false))])) Z2y (Int.toNat (Z2j : Int))
 else none
 else none
 else none) := (Z1y m _).trans (by kernel_rfl)
noncomputable def Zhf (m : Nat) (a0_0n : Nat) (a0_0c : Option Nat) (a0_0 : List D) (a1 : Int) (a2n : Nat) (a2c : Option Nat) (a2 : List D) : Option D :=
 (Z3b [(D.agg [(D.list a0_0n a0_0c a0_0)])]).bind fun d1 =>
 (rdI .i64 (some d1)).bind fun x2 =>
 cond (x2 != (0 : Int))
 (cond (x2 != (0 : Int))
 (some (D.tup [(D.agg [(D.list 0 (some 0) [])]),zI,(D.v (.int .i64 x2))]))
 (none))
 (cond (decide (a1 < (0 : Int)))
 (some (D.tup [(D.agg [(D.list 0 (some 0) [])]),zI,(D.v (.int .i64 (1 : Int)))]))
 (cond (decide (a1 > (64 : Int)))
 (some (D.tup [(D.agg [(D.list 0 (some 0) [])]),zI,(D.v (.int .i64 (1 : Int)))]))
 (Z98 m a0_0n a0_0c a0_0 a1 a2n a2c a2 a1 a0_0n a0_0c a0_0 a0_0n a0_0c a0_0)))
theorem Z124 (m : Nat) (a0_0n : Nat) (a0_0c : Option Nat) (a0_0 : List D) (a1 : Int) (a2n : Nat) (a2c : Option Nat) (a2 : List D) : funD Tg Za m 4 Z11 Tryz.f21 [(D.agg [(D.list a0_0n a0_0c a0_0)]),(D.v (.int .i64 a1)),(D.list a2n a2c a2)] = Zhf m a0_0n a0_0c a0_0 a1 a2n a2c a2 := by kernel_rfl
theorem Z16c : Enters Tg 21 := ⟨Tryz.f21,Tryz.func21,by kernel_rfl,by kernel_rfl⟩
theorem Z16d {ds : List D} {d : D} (h : funD Tg Za M 4 Z11 Tryz.f21 ds = some d) : DataSem Tg 21 ds d := Zf (H := Za) (SpOk.cons Zqs (SpOk.cons Zc3 (SpOk.cons Zqt SpOk.nil))) mixed (InlOk.cons Tryz.func64 Ze9 (InlOk.cons Tryz.func65 Zpz (InlOk.cons Tryz.func67 Z8n (InlOk.cons Tryz.func70 Zhj (InlOk.cons Tryz.func71 Z5o InlOk.nil))))) Tryz.func21 Z16c h
noncomputable def Zw : List D → Option D
 | [.agg [.list a0_0n a0_0c a0_0],.v (.int .i64 a1),.list a2n a2c a2] => Zhf M a0_0n a0_0c a0_0 a1 a2n a2c a2
 | _ => none
theorem Zlu : ∀ ds d,Zw ds = some d → DataSem Tg 21 ds d := by
 intro ds d h
 unfold Zw at h
 split at h
 ·exact Z16d ((Z124 M _ _ _ _ _ _ _).trans h)
 ·cases h
def Z1c : FnH := ⟨[(7,⟨(bm 304 32),[],none⟩)],[(9,⟨(bm 256 32),[],(some 10)⟩)]⟩
def Z4i : FnH := ⟨[(9,⟨(bm 481036337408 72),[],(some 5)⟩)],[(6,⟨(bm 6 72),[],(some 1)⟩)]⟩
def Z3i : FnH := ⟨[(1,⟨(bm 19 21),[],(some 0)⟩)],[(2,⟨(bm 19 21),[],(some 0)⟩)]⟩
def Zi9 : FnH := ⟨[],[]⟩
def Zkg : FnH := ⟨[],[]⟩
def Z5n : FnH := ⟨[(1,⟨(bm 1793 24),[(1006000,1)],(some 1)⟩)],[]⟩
def Zfm : FnH := ⟨[],[]⟩
noncomputable def Zm : Hints := ⟨[(60,Z3b),(69,Z4f)],[(64,Tryz.f64,Z4i),(66,Tryz.f66,Z3i),(67,Tryz.f67,Zi9),(68,Tryz.f68,Zkg),(105,Tryz.f105,Z5n),(71,Tryz.f71,Zfm)],[]⟩
noncomputable def Zar (m : Nat) (a0_0n : Nat) (a0_0c : Option Nat) (a0_0 : List D) (a1 : Int) (Z2y : Int) (Z4c : Nat) (Z40 : Option Nat) (Z3k : List D) (Z2j : Nat) (Z6i : Option Nat) (Z7k : List D) : Option D :=
 cutK m (codeK Tg Zm.sp ⟨1,[],true,[]⟩ (inlK Tg Zm m 3) m Z4i (subc [1,1,1] (bodyOf Tryz.f64)) ⟨[Jk,(AV.d (D.v (.int .i64 Z2y))),(AV.ptr 1 0),Jk,Jk,Jk,Jk,Jk,Jk,Jk,Jk,Jk,Jk,Jk,Jk,Jk,Jk,Jk,Jk,Jk,Jk,Jk,Jk,Jk,Jk,Jk,Jk,Jk,Jk,Jk,Jk,Jk,Jk,Jk,Jk,Jk,Jk,Jk,Jk,Jk,Jk,Jk,Jk,Jk,Jk,Jk,Jk,Jk,Jk,Jk,Jk,Jk,Jk,Jk,Jk,Jk,Jk,Jk,Jk,Jk,Jk,Jk,Jk,Jk,Jk,Jk,Jk,Jk,Jk,Jk,Jk,Jk],[(Blk.d 1 [(D.list Z4c Z40 Z3k)]),(Blk.d 1 [(D.list Z2j Z6i Z7k)])]⟩
  (contK Tg Zm.sp ⟨1,[],true,[]⟩ (inlK Tg Zm m 3) m Z4i (endK Tg Tryz.f64 (fun v L => opsK Tg Zm.sp ⟨0,[],false,[]⟩ [] (inlK Tg Zm m 4) (regOps (subc [1,0] (bodyOf Tryz.f19))) (List.drop 3 (Array.toList (regOps (subc [1,0] (bodyOf Tryz.f19))))) ⟨setSl [(AV.d (D.agg [(D.list a0_0n a0_0c a0_0)])),(AV.d (D.v (.int .i64 a1))),(AV.ptr 0 0),Jk,(AV.d (D.list 0 (some 0) [])),(AV.d zI),Jk,Jk,Jk,Jk,Jk,(AV.d (D.agg [(D.list a0_0n a0_0c a0_0)])),(AV.d (D.v (.int .i64 a1))),Jk,Jk,Jk,Jk,Jk,Jk,Jk,Jk,Jk,Jk,Jk,Jk,Jk,Jk,Jk,Jk,Jk,Jk,Jk] (some 13) v,L⟩ (fun st => contK Tg Zm.sp ⟨0,[],false,[]⟩ (inlK Tg Zm m 4) m Z1c (endK Tg Tryz.f19 (fun v L => viewK L 8 v some)) [.code (subc [1,1] (bodyOf Tryz.f19))] .normal st))) []))
noncomputable def Z4j (m n0 : Nat) (a0_0n : Nat) (a0_0c : Option Nat) (a0_0 : List D) (a1 : Int) (Zz : Nat) (Z13 : Option Nat) (Z18 : List D) (Z1b : Int) (Z14 : Int) (Z1q : Nat) (Z1z : Option Nat) (Z32 : List D) (Z4e : Nat) (Zfw : List D) (Z63 : List D) (Z5u : List D) (Z6o : Int) (Z2o : Nat) : Option D :=
 Z1e (bm 481036337408 72) 1 6 (codeK Tg Zm.sp ⟨1,[],true,[]⟩ (inlK Tg Zm m 3) m Z4i (subc [1,1,1,1,1,0,1,0,0] (bodyOf Tryz.f64))) n0 ⟨[Jk,Jk,Jk,Jk,Jk,Jk,Jk,Jk,(AV.ptr 5 0),Jk,Jk,Jk,Jk,Jk,Jk,Jk,Jk,Jk,Jk,Jk,Jk,Jk,Jk,Jk,Jk,Jk,Jk,Jk,Jk,Jk,Jk,Jk,Jk,Jk,Jk,Jk,(AV.d (D.list Zz Z13 Z18)),(AV.d (D.v (.int .i64 Z1b))),(AV.d (D.v (.int .i64 Z14))),Jk,Jk,Jk,Jk,Jk,Jk,Jk,Jk,Jk,Jk,Jk,Jk,Jk,Jk,Jk,Jk,Jk,Jk,Jk,Jk,Jk,Jk,Jk,Jk,Jk,Jk,Jk,Jk,Jk,Jk,Jk,Jk,Jk],[(Blk.d 1 [(D.list Z1q Z1z Z32)]),(Blk.d 1 [(D.list Zz Z13 Z18)]),(Blk.d Z4e Zfw),(Blk.d Z4e Z63),(Blk.d Z4e Z5u),(Blk.a 5 [(AV.d (D.list Zz Z13 Z18)),(AV.d (D.v (.int .i64 Z6o))),(AV.sl 2 0 Z2o (some Z2o) 1),(AV.sl 3 0 Z2o (some Z2o) 1),(AV.sl 4 0 Z2o (some Z2o) 1)])]⟩
  (contK Tg Zm.sp ⟨1,[],true,[]⟩ (inlK Tg Zm m 3) m Z4i (endK Tg Tryz.f64 (fun v L => opsK Tg Zm.sp ⟨0,[],false,[]⟩ [] (inlK Tg Zm m 4) (regOps (subc [1,0] (bodyOf Tryz.f19))) (List.drop 3 (Array.toList (regOps (subc [1,0] (bodyOf Tryz.f19))))) ⟨setSl [(AV.d (D.agg [(D.list a0_0n a0_0c a0_0)])),(AV.d (D.v (.int .i64 a1))),(AV.ptr 0 0),Jk,(AV.d (D.list 0 (some 0) [])),(AV.d zI),Jk,Jk,Jk,Jk,Jk,(AV.d (D.agg [(D.list a0_0n a0_0c a0_0)])),(AV.d (D.v (.int .i64 a1))),Jk,Jk,Jk,Jk,Jk,Jk,Jk,Jk,Jk,Jk,Jk,Jk,Jk,Jk,Jk,Jk,Jk,Jk,Jk] (some 13) v,L⟩ (fun st => contK Tg Zm.sp ⟨0,[],false,[]⟩ (inlK Tg Zm m 4) m Z1c (endK Tg Tryz.f19 (fun v L => viewK L 8 v some)) [.code (subc [1,1] (bodyOf Tryz.f19))] .normal st))) [.block 0,.code (subc [1,1,1,1,1,1] (bodyOf Tryz.f64))])
noncomputable def Z3j (m n0 : Nat) (a0_0n : Nat) (a0_0c : Option Nat) (a0_0 : List D) (a1 : Int) (Z43 : Int) (Z76 : Nat) (Z56 : Option Nat) (Z61 : List D) (Z5a : Nat) (Z5r : Option Nat) (Z4r : List D) (Z5f : Nat) (Z5s : List D) (Z5t : Nat) (Z42 : List D) (Z3z : Nat) (Z3l : List D) (Z4o : Nat) (Z1t : Option Nat) (Z4s : List D) (Z5m : Int) (Z6s : Nat) (Z6e : Nat) (Z8f : Nat) (Z8g : Nat) (Z8y : Nat) (Z8h : Nat) : Option D :=
 Z1e (bm 19 21) 6 6 (codeK Tg Zm.sp ⟨6,[1,2,3,4],true,[]⟩ (inlK Tg Zm m 3) m Z3i (subc [1,0,0] (bodyOf Tryz.f66))) n0 ⟨[(AV.ptr 5 0),(AV.bnd 67 [(AV.ptr 5 0)]),Jk,Jk,(AV.d (D.v (.int .i64 Z43))),Jk,Jk,Jk,Jk,Jk,Jk,Jk,Jk,Jk,Jk,Jk,Jk,Jk,Jk,Jk,Jk],[(Blk.d 1 [(D.list Z76 Z56 Z61)]),(Blk.d 1 [(D.list Z5a Z5r Z4r)]),(Blk.d Z5f Z5s),(Blk.d Z5t Z42),(Blk.d Z3z Z3l),(Blk.a 5 [(AV.d (D.list Z4o Z1t Z4s)),(AV.d (D.v (.int .i64 Z5m))),(AV.sl 2 0 Z6s (some Z6e) 1),(AV.sl 3 0 Z8f (some Z8g) 1),(AV.sl 4 0 Z8y (some Z8h) 1)])]⟩
  (contK Tg Zm.sp ⟨6,[1,2,3,4],true,[]⟩ (inlK Tg Zm m 3) m Z3i (endK Tg Tryz.f66 (fun v L => opsK Tg Zm.sp ⟨0,[],false,[]⟩ [] (inlK Tg Zm m 4) (regOps (subc [1,1,1,0] (bodyOf Tryz.f19))) (List.drop 4 (Array.toList (regOps (subc [1,1,1,0] (bodyOf Tryz.f19))))) ⟨setSl [(AV.d (D.agg [(D.list a0_0n a0_0c a0_0)])),(AV.d (D.v (.int .i64 a1))),(AV.ptr 0 0),Jk,(AV.d (D.list 0 (some 0) [])),(AV.d zI),(AV.ptr 5 0),(AV.d zI),Jk,Jk,(AV.tup [(AV.ptr 5 0),(AV.d zI)]),(AV.d (D.agg [(D.list a0_0n a0_0c a0_0)])),(AV.d (D.v (.int .i64 a1))),(AV.tup [(AV.ptr 5 0),(AV.d zI)]),(AV.ptr 5 0),(AV.d zI),(AV.d zI),(AV.d (D.v (.bool false))),Jk,(AV.ptr 5 0),(AV.ptr 5 0),(AV.bnd 67 [(AV.ptr 5 0)]),Jk,Jk,Jk,Jk,Jk,Jk,Jk,Jk,Jk,Jk] (some 22) v,L⟩ (fun st => contK Tg Zm.sp ⟨0,[],false,[]⟩ (inlK Tg Zm m 4) m Z1c (endK Tg Tryz.f19 (fun v L => viewK L 8 v some)) [.code (subc [1,1,1,1] (bodyOf Tryz.f19))] .normal st))) [.block 0])
noncomputable def Z22 (m n0 : Nat) (a0_0n : Nat) (a0_0c : Option Nat) (a0_0 : List D) (a1 : Int) (Z9n : Int) (Zbt : Nat) (Zbv : Option Nat) (Zcj : List D) (Z8v : Nat) (Zaj : Option Nat) (Zha : List D) (Zla : Nat) (Zx2 : List D) (Zwp : Nat) (Zo6 : List D) (Zvd : Nat) (Z11l : List D) (Z11m : Nat) (Z11n : Option Nat) (Z11o : List D) (Zzr : Int) (Zzs : Nat) (Z11p : Nat) (Z11q : Nat) (Z141 : Nat) (Z1fi : Nat) (Z1fj : Nat) : Option D :=
 cutK m (codeK Tg Zm.sp ⟨6,[1,2,3,4],true,[]⟩ (inlK Tg Zm m 3) m Z3i (subc [1,0,0,1,1] (bodyOf Tryz.f66)) ⟨[(AV.ptr 5 0),(AV.bnd 67 [(AV.ptr 5 0)]),Jk,Jk,(AV.d (D.v (.int .i64 Z9n))),Jk,Jk,Jk,Jk,Jk,Jk,Jk,Jk,Jk,Jk,Jk,Jk,Jk,Jk,Jk,Jk],[(Blk.d 1 [(D.list Zbt Zbv Zcj)]),(Blk.d 1 [(D.list Z8v Zaj Zha)]),(Blk.d Zla Zx2),(Blk.d Zwp Zo6),(Blk.d Zvd Z11l),(Blk.a 5 [(AV.d (D.list Z11m Z11n Z11o)),(AV.d (D.v (.int .i64 Zzr))),(AV.sl 2 0 Zzs (some Z11p) 1),(AV.sl 3 0 Z11q (some Z141) 1),(AV.sl 4 0 Z1fi (some Z1fj) 1)])]⟩
  (contK Tg Zm.sp ⟨6,[1,2,3,4],true,[]⟩ (inlK Tg Zm m 3) m Z3i (endK Tg Tryz.f66 (fun v L => opsK Tg Zm.sp ⟨0,[],false,[]⟩ [] (inlK Tg Zm m 4) (regOps (subc [1,1,1,0] (bodyOf Tryz.f19))) (List.drop 4 (Array.toList (regOps (subc [1,1,1,0] (bodyOf Tryz.f19))))) ⟨setSl [(AV.d (D.agg [(D.list a0_0n a0_0c a0_0)])),(AV.d (D.v (.int .i64 a1))),(AV.ptr 0 0),Jk,(AV.d (D.list 0 (some 0) [])),(AV.d zI),(AV.ptr 5 0),(AV.d zI),Jk,Jk,(AV.tup [(AV.ptr 5 0),(AV.d zI)]),(AV.d (D.agg [(D.list a0_0n a0_0c a0_0)])),(AV.d (D.v (.int .i64 a1))),(AV.tup [(AV.ptr 5 0),(AV.d zI)]),(AV.ptr 5 0),(AV.d zI),(AV.d zI),(AV.d (D.v (.bool false))),Jk,(AV.ptr 5 0),(AV.ptr 5 0),(AV.bnd 67 [(AV.ptr 5 0)]),Jk,Jk,Jk,Jk,Jk,Jk,Jk,Jk,Jk,Jk] (some 22) v,L⟩ (fun st => contK Tg Zm.sp ⟨0,[],false,[]⟩ (inlK Tg Zm m 4) m Z1c (endK Tg Tryz.f19 (fun v L => viewK L 8 v some)) [.code (subc [1,1,1,1] (bodyOf Tryz.f19))] .normal st))) [.loop (bm 19 21) 6 (subc [1,0,0] (bodyOf Tryz.f66)) n0,.block 0]))
theorem Zia (m n0 : Nat) (a0_0n : Nat) (a0_0c : Option Nat) (a0_0 : List D) (a1 : Int) (Z9n : Int) (Zbt : Nat) (Zbv : Option Nat) (Zcj : List D) (Z8v : Nat) (Zaj : Option Nat) (Zha : List D) (Zla : Nat) (Zx2 : List D) (Zwp : Nat) (Zo6 : List D) (Zvd : Nat) (Z11l : List D) (Z11m : Nat) (Z11n : Option Nat) (Z11o : List D) (Zzr : Int) (Zzs : Nat) (Z11p : Nat) (Z11q : Nat) (Z141 : Nat) (Z1fi : Nat) (Z1fj : Nat) : Z22 m n0 a0_0n a0_0c a0_0 a1 Z9n Zbt Zbv Zcj Z8v Zaj Zha Zla Zx2 Zwp Zo6 Zvd Z11l Z11m Z11n Z11o Zzr Zzs Z11p Z11q Z141 Z1fi Z1fj =
 (Z3j m n0 a0_0n a0_0c a0_0 a1 (IntKind.wrap .i64 (Z9n - (1 : Int))) Zbt Zbv Zcj Z8v Zaj Zha Zla Zx2 Zwp Zo6 Zvd Z11l Z11m Z11n Z11o Zzr Zzs Z11p Z11q Z141 Z1fi Z1fj) := (Z1y m _).trans (by kernel_rfl)
noncomputable def Z27 (m n0 : Nat) (Z7s : Nat) (Za4 : Nat) (Ziw : Int) (Zfx : Int) (Zzw : Nat) (Z10q : Option Nat) (Z10r : List D) (Z10s : Nat) (Z10t : Option Nat) (Z10u : List D) (Zo7 : Nat) (Zo8 : List D) (Zo9 : Nat) (Zoa : List D) (Zob : Nat) (Zr4 : List D) (Zr5 : Nat) (Zlq : Option Nat) (Zlr : List D) (Zls : Int) (Zoc : Nat) (Zh2 : Nat) (Zod : Nat) (Zh3 : Nat) (Zoe : Nat) (Zl0 : Nat) (Z16a : List D) : Option D :=
 Z1e (bm 1793 24) 9 10 (codeK Tg Zm.sp ⟨9,[0,1,2,3,4,6],true,[]⟩ (inlK Tg Zm m 3) m Z5n (subc [1,0,0] (bodyOf Tryz.f105))) n0 ⟨[(AV.yld 8),Jk,Jk,Jk,Jk,Jk,Jk,Jk,(AV.sl 4 0 Z7s (some Za4) 1),(AV.d (D.v (.int .i64 Ziw))),(AV.d (D.v (.int .i64 Zfx))),Jk,Jk,Jk,Jk,Jk,Jk,Jk,Jk,Jk,Jk,Jk,Jk,Jk],[(Blk.d 1 [(D.list Zzw Z10q Z10r)]),(Blk.d 1 [(D.list Z10s Z10t Z10u)]),(Blk.d Zo7 Zo8),(Blk.d Zo9 Zoa),(Blk.d Zob Zr4),(Blk.a 5 [(AV.d (D.list Zr5 Zlq Zlr)),(AV.d (D.v (.int .i64 Zls))),(AV.sl 2 0 Zoc (some Zh2) 1),(AV.sl 3 0 Zod (some Zh3) 1),(AV.sl 4 0 Z7s (some Za4) 1)]),(Blk.a 1 [(AV.sl 9 0 Zoe none 1)]),(Blk.a 1 [(AV.ptr 5 0)]),(Blk.loop 0 none [Jk,Jk,Jk,Jk,(AV.d (D.list 0 (some 0) [])),(AV.d zI),Jk,Jk,(AV.ptr 6 0),Jk,Jk,Jk,Jk,Jk,Jk,Jk,Jk,Jk,Jk,Jk,Jk,Jk,Jk,Jk,Jk,Jk,Jk,Jk,Jk,Jk,Jk,Jk] [25] (subc [1,1,1,1,1,0,1,0,0] (bodyOf Tryz.f19)) (subc [1,1,1,1,1,0,1,0,1] (bodyOf Tryz.f19)) Z1c),(Blk.d Zl0 Z16a)]⟩
  (contK Tg Zm.sp ⟨9,[0,1,2,3,4,6],true,[]⟩ (inlK Tg Zm m 3) m Z5n (endK Tg Tryz.f105 (Z12f 8 32 (contK Tg Zm.sp ⟨0,[],false,[]⟩ (inlK Tg Zm m 4) m Z1c (endK Tg Tryz.f19 (fun v L => viewK L 8 v some)) [.block 0,.code (subc [1,1,1,1,1,1] (bodyOf Tryz.f19))]))) [.block 0])
noncomputable def Zu0 (m : Nat) (Zc2 : Nat) (Zt6 : Option Nat) (Zv0 : List D) (Zwg : Nat) (Zwh : Option Nat) (Zx3 : List D) (Zza : Nat) (Z11c : List D) (Z11d : Nat) (Z15u : List D) (Zzt : Nat) (Z11r : List D) (Z11s : Nat) (Z11t : Option Nat) (Z142 : List D) (Z11u : Int) (Z11v : Nat) (Z11w : Nat) (Z143 : Nat) (Zve : Nat) (Z1fh : Nat) (Z168 : Nat) (Z169 : Nat) (Z1pp : Int) (Z1ll : Nat) (Z1ot : List D) : Option D :=
 cutK m (codeK Tg Zm.sp ⟨0,[],false,[]⟩ (inlK Tg Zm m 4) m Z1c (subc [1,1,1,1,1,1] (bodyOf Tryz.f19)) ⟨[Jk,Jk,Jk,Jk,Jk,Jk,Jk,Jk,(AV.ptr 6 0),Jk,Jk,Jk,Jk,Jk,Jk,Jk,Jk,Jk,Jk,Jk,Jk,Jk,Jk,Jk,Jk,Jk,Jk,Jk,Jk,Jk,Jk,Jk],[(Blk.d 1 [(D.list Zc2 Zt6 Zv0)]),(Blk.d 1 [(D.list Zwg Zwh Zx3)]),(Blk.d Zza Z11c),(Blk.d Z11d Z15u),(Blk.d Zzt Z11r),(Blk.a 5 [(AV.d (D.list Z11s Z11t Z142)),(AV.d (D.v (.int .i64 Z11u))),(AV.sl 2 0 Z11v (some Z11w) 1),(AV.sl 3 0 Z143 (some Zve) 1),(AV.sl 4 0 Z1fh (some Z168) 1)]),(Blk.a 1 [(AV.sl 9 0 Z169 none 1)]),(Blk.a 1 [(AV.ptr 5 0)]),(Blk.loop 3 none [Jk,Jk,Jk,Jk,(AV.d (D.list 0 (some 0) [])),(AV.d (D.v (.int .i64 Z1pp))),Jk,Jk,(AV.ptr 6 0),Jk,Jk,Jk,Jk,Jk,Jk,Jk,Jk,Jk,Jk,Jk,Jk,Jk,Jk,Jk,Jk,Jk,Jk,Jk,Jk,Jk,Jk,Jk] [25] (subc [1,1,1,1,1,0,1,0,0] (bodyOf Tryz.f19)) (subc [1,1,1,1,1,0,1,0,1] (bodyOf Tryz.f19)) Z1c),(Blk.d Z1ll Z1ot)]⟩
  (contK Tg Zm.sp ⟨0,[],false,[]⟩ (inlK Tg Zm m 4) m Z1c (endK Tg Tryz.f19 (fun v L => viewK L 8 v some)) []))
theorem Z125 (m : Nat) (Zc2 : Nat) (Zt6 : Option Nat) (Zv0 : List D) (Zwg : Nat) (Zwh : Option Nat) (Zx3 : List D) (Zza : Nat) (Z11c : List D) (Z11d : Nat) (Z15u : List D) (Zzt : Nat) (Z11r : List D) (Z11s : Nat) (Z11t : Option Nat) (Z142 : List D) (Z11u : Int) (Z11v : Nat) (Z11w : Nat) (Z143 : Nat) (Zve : Nat) (Z1fh : Nat) (Z168 : Nat) (Z169 : Nat) (Z1pp : Int) (Z1ll : Nat) (Z1ot : List D) : Zu0 m Zc2 Zt6 Zv0 Zwg Zwh Zx3 Zza Z11c Z11d Z15u Zzt Z11r Z11s Z11t Z142 Z11u Z11v Z11w Z143 Zve Z1fh Z168 Z169 Z1pp Z1ll Z1ot =
 (if (0 + (Z169 * 1)) ≤ Z1ll then
 (Z4f [(D.list Z169 none (cutL Z1ll Z1ot 0 (Z169 * 1)))]).bind fun d33 =>
 (rdL (some d33)).bind fun q34 =>
 if (0 + (Z169 * 1)) ≤ Z1ll then
 some (D.tup [(D.list q34.n q34.cap q34.cs),zI])
 else none
 else none) := (Z1y m _).trans (by kernel_rfl)
theorem Zgi (m n0 : Nat) (Z7s : Nat) (Za4 : Nat) (Ziw : Int) (Zfx : Int) (Zzw : Nat) (Z10q : Option Nat) (Z10r : List D) (Z10s : Nat) (Z10t : Option Nat) (Z10u : List D) (Zo7 : Nat) (Zo8 : List D) (Zo9 : Nat) (Zoa : List D) (Zob : Nat) (Zr4 : List D) (Zr5 : Nat) (Zlq : Option Nat) (Zlr : List D) (Zls : Int) (Zoc : Nat) (Zh2 : Nat) (Zod : Nat) (Zh3 : Nat) (Zoe : Nat) (Zl0 : Nat) (Z16a : List D) : Z27 m (n0 + 1) Z7s Za4 Ziw Zfx Zzw Z10q Z10r Z10s Z10t Z10u Zo7 Zo8 Zo9 Zoa Zob Zr4 Zr5 Zlq Zlr Zls Zoc Zh2 Zod Zh3 Zoe Zl0 Z16a =
 (cond (decide (Zfx < Ziw))
 (if 0 ≤ Zfx ∧ Zfx < (Z7s : Int) then
 (rdB Zr4[(0 + ((Int.toNat Zfx) * 1))]?).bind fun b32 =>
 cond (!b32)
 (if ownB ⟨10,[0,1,2,3,9],true,[]⟩ 9 = true ∧ Zl0 = (Zoe * 1) ∧ fitsRow (Zoe + 1) 8 ∧ 1 = 1 then
 Z27 m n0 Z7s Za4 Ziw (IntKind.wrap .i64 (Zfx + (1 : Int))) Zzw Z10q Z10r Z10s Z10t Z10u Zo7 Zo8 Zo9 Zoa Zob Zr4 Zr5 Zlq Zlr Zls Zoc Zh2 Zod Zh3 (Zoe + 1) ((Zoe + 1) * 1) (Z16a ++ [(D.v (.int .i64 Zfx))])
 else none)
 (Z27 m n0 Z7s Za4 Ziw (IntKind.wrap .i64 (Zfx + (1 : Int))) Zzw Z10q Z10r Z10s Z10t Z10u Zo7 Zo8 Zo9 Zoa Zob Zr4 Zr5 Zlq Zlr Zls Zoc Zh2 Zod Zh3 Zoe Zl0 Z16a)
 else none)
 (Zu0 m Zzw Z10q Z10r Z10s Z10t Z10u Zo7 Zo8 Zo9 Zoa Zob Zr4 Zr5 Zlq Zlr Zls Zoc Zh2 Zod Zh3 Z7s Za4 Zoe (0 : Int) Zl0 Z16a)) := by kernel_rfl
theorem Ziv (m n0 : Nat) (a0_0n : Nat) (a0_0c : Option Nat) (a0_0 : List D) (a1 : Int) (Z43 : Int) (Z76 : Nat) (Z56 : Option Nat) (Z61 : List D) (Z5a : Nat) (Z5r : Option Nat) (Z4r : List D) (Z5f : Nat) (Z5s : List D) (Z5t : Nat) (Z42 : List D) (Z3z : Nat) (Z3l : List D) (Z4o : Nat) (Z1t : Option Nat) (Z4s : List D) (Z5m : Int) (Z6s : Nat) (Z6e : Nat) (Z8f : Nat) (Z8g : Nat) (Z8y : Nat) (Z8h : Nat) : Z3j m (n0 + 1) a0_0n a0_0c a0_0 a1 Z43 Z76 Z56 Z61 Z5a Z5r Z4r Z5f Z5s Z5t Z42 Z3z Z3l Z4o Z1t Z4s Z5m Z6s Z6e Z8f Z8g Z8y Z8h =
 (cond (decide (Z43 ≥ (0 : Int)))
 (if 0 ≤ Z43 ∧ Z43 < (Z8y : Int) then
 (rdB Z3l[(0 + ((Int.toNat Z43) * 1))]?).bind fun b25 =>
 cond (!b25)
 (if 0 ≤ Z43 ∧ Z43 < (Z6s : Int) then
 (rdI .i64 Z5s[(0 + ((Int.toNat Z43) * 1))]?).bind fun x26 =>
 cond (decide (x26 < Z5m))
 (if 0 ≤ Z43 ∧ Z43 < (Z8f : Int) then
 (rdI .i64 Z42[(0 + ((Int.toNat Z43) * 1))]?).bind fun x27 =>
 cond (x27 == (0 : Int))
 (if 0 ≤ Z43 ∧ Z43 < (Z8y : Int) then
 if 1 = 1 ∧ (0 + ((Int.toNat Z43) * 1)) < Z3z then
 cond (decide (Z43 > (0 : Int)))
 (if 0 ≤ Z43 ∧ Z43 < (Z4o : Int) then
 (rdI .i64 Z4s[(((Int.toNat Z43) * 20) + 0)]?).bind fun x28 =>
 if 0 ≤ x28 ∧ x28 < (Z8f : Int) then
 (rdI .i64 Z42[(0 + ((Int.toNat x28) * 1))]?).bind fun x29 =>
 if 0 ≤ x28 ∧ x28 < (Z8f : Int) then
 if 1 = 1 ∧ (0 + ((Int.toNat x28) * 1)) < Z5t then
 Z22 m n0 a0_0n a0_0c a0_0 a1 Z43 Z76 Z56 Z61 Z5a Z5r Z4r Z5f Z5s Z5t (List.set Z42 (0 + ((Int.toNat x28) * 1)) (D.v (.int .i64 (IntKind.wrap .i64 (x29 - (1 : Int)))))) Z3z (List.set Z3l (0 + ((Int.toNat Z43) * 1)) (D.v (.bool true))) Z4o Z1t Z4s Z5m Z6s Z6e Z8f Z8g Z8y Z8h
 else none
 else none
 else none
 else none)
 (Z22 m n0 a0_0n a0_0c a0_0 a1 Z43 Z76 Z56 Z61 Z5a Z5r Z4r Z5f Z5s Z5t Z42 Z3z (List.set Z3l (0 + ((Int.toNat Z43) * 1)) (D.v (.bool true))) Z4o Z1t Z4s Z5m Z6s Z6e Z8f Z8g Z8y Z8h)
 else none
 else none)
 (Z22 m n0 a0_0n a0_0c a0_0 a1 Z43 Z76 Z56 Z61 Z5a Z5r Z4r Z5f Z5s Z5t Z42 Z3z Z3l Z4o Z1t Z4s Z5m Z6s Z6e Z8f Z8g Z8y Z8h)
 else none)
 (Z22 m n0 a0_0n a0_0c a0_0 a1 Z43 Z76 Z56 Z61 Z5a Z5r Z4r Z5f Z5s Z5t Z42 Z3z Z3l Z4o Z1t Z4s Z5m Z6s Z6e Z8f Z8g Z8y Z8h)
 else none)
 (Z22 m n0 a0_0n a0_0c a0_0 a1 Z43 Z76 Z56 Z61 Z5a Z5r Z4r Z5f Z5s Z5t Z42 Z3z Z3l Z4o Z1t Z4s Z5m Z6s Z6e Z8f Z8g Z8y Z8h)
 else none)
 (Z27 m m Z8y Z8h (Z8y : Int) (0 : Int) Z76 Z56 Z61 Z5a Z5r Z4r Z5f Z5s Z5t Z42 Z3z Z3l Z4o Z1t Z4s Z5m Z6s Z6e Z8f Z8g 0 0 [])) := by kernel_rfl
theorem Zlv (m n0 : Nat) (a0_0n : Nat) (a0_0c : Option Nat) (a0_0 : List D) (a1 : Int) (Zz : Nat) (Z13 : Option Nat) (Z18 : List D) (Z1b : Int) (Z14 : Int) (Z1q : Nat) (Z1z : Option Nat) (Z32 : List D) (Z4e : Nat) (Zfw : List D) (Z63 : List D) (Z5u : List D) (Z6o : Int) (Z2o : Nat) : Z4j m (n0 + 1) a0_0n a0_0c a0_0 a1 Zz Z13 Z18 Z1b Z14 Z1q Z1z Z32 Z4e Zfw Z63 Z5u Z6o Z2o =
 (cond (decide (Z14 < Z1b))
 (if 0 ≤ Z14 ∧ Z14 < (Zz : Int) then
 if (((Int.toNat Z14) * 20) + 20) ≤ (List.length Z18) then
 if (List.length ((List.drop ((Int.toNat Z14) * 20) Z18).take 20)) = 20 then
 cond (decide (Z14 > (0 : Int)))
 ((rdI .i64 ((List.drop ((Int.toNat Z14) * 20) Z18).take 20)[0]?).bind fun x11 =>
 if 0 ≤ x11 ∧ x11 < (Z2o : Int) then
 (rdI .i64 Zfw[(0 + ((Int.toNat x11) * 1))]?).bind fun x12 =>
 if 0 ≤ Z14 ∧ Z14 < (Z2o : Int) then
 if 1 = 1 ∧ (0 + ((Int.toNat Z14) * 1)) < Z4e then
 (rdI .i64 ((List.drop ((Int.toNat Z14) * 20) Z18).take 20)[0]?).bind fun x13 =>
 if 0 ≤ x13 ∧ x13 < (Z2o : Int) then
 (rdI .i64 Z63[(0 + ((Int.toNat x13) * 1))]?).bind fun x14 =>
 if 0 ≤ x13 ∧ x13 < (Z2o : Int) then
 if 1 = 1 ∧ (0 + ((Int.toNat x13) * 1)) < Z4e then
 Z4j m n0 a0_0n a0_0c a0_0 a1 Zz Z13 Z18 Z1b (IntKind.wrap .i64 (Z14 + (1 : Int))) Z1q Z1z Z32 Z4e (List.set Zfw (0 + ((Int.toNat Z14) * 1)) (D.v (.int .i64 (IntKind.wrap .i64 (x12 + (1 : Int)))))) (List.set Z63 (0 + ((Int.toNat x13) * 1)) (D.v (.int .i64 (IntKind.wrap .i64 (x14 + (1 : Int)))))) Z5u Z6o Z2o
 else none
 else none
 else none
 else none
 else none
 else none)
 (Z4j m n0 a0_0n a0_0c a0_0 a1 Zz Z13 Z18 Z1b (IntKind.wrap .i64 (Z14 + (1 : Int))) Z1q Z1z Z32 Z4e Zfw Z63 Z5u Z6o Z2o)
 else none
 else none
 else none)
 (Z3j m m a0_0n a0_0c a0_0 a1 (IntKind.wrap .i64 ((Z2o : Int) - (1 : Int))) Z1q Z1z Z32 Zz Z13 Z18 Z4e Zfw Z4e Z63 Z4e Z5u Zz Z13 Z18 Z6o Z2o Z2o Z2o Z2o Z2o Z2o)) := by kernel_rfl
theorem Zl2 (m : Nat) (a0_0n : Nat) (a0_0c : Option Nat) (a0_0 : List D) (a1 : Int) (Z2y : Int) (Z4c : Nat) (Z40 : Option Nat) (Z3k : List D) (Z2j : Nat) (Z6i : Option Nat) (Z7k : List D) : Zar m a0_0n a0_0c a0_0 a1 Z2y Z4c Z40 Z3k Z2j Z6i Z7k =
 (if 0 ≤ (Z2j : Int) ∧ (Z2j : Int) ≤ (Z2j : Int) ∧ fitsRow (Int.toNat (Z2j : Int)) 8 then
 if 0 ≤ (Z2j : Int) ∧ (Z2j : Int) ≤ (Z2j : Int) ∧ fitsRow (Int.toNat (Z2j : Int)) 8 then
 if 0 ≤ (Z2j : Int) ∧ (Z2j : Int) ≤ (Z2j : Int) ∧ fitsRow (Int.toNat (Z2j : Int)) 1 then
 Z4j m m a0_0n a0_0c a0_0 a1 Z2j Z6i Z7k (Z2j : Int) (0 : Int) Z4c Z40 Z3k ((Int.toNat (Z2j : Int)) * 1) (List.flatten (List.replicate (Int.toNat (Z2j : Int)) [zI])) (List.flatten (List.replicate (Int.toNat (Z2j : Int)) [zI])) (List.flatten (List.replicate (Int.toNat (Z2j : Int)) [(D.v (.bool false))])) Z2y (Int.toNat (Z2j : Int))
 else none
 else none
 else none) := (Z1y m _).trans (by kernel_rfl)
noncomputable def Zmf (m : Nat) (a0_0n : Nat) (a0_0c : Option Nat) (a0_0 : List D) (a1 : Int) : Option D :=
 (Z3b [(D.agg [(D.list a0_0n a0_0c a0_0)])]).bind fun d1 =>
 (rdI .i64 (some d1)).bind fun x2 =>
 cond (x2 != (0 : Int))
 (cond (x2 != (0 : Int))
 (some (D.tup [(D.list 0 (some 0) []),(D.v (.int .i64 x2))]))
 (none))
 (cond (decide (a1 < (0 : Int)))
 (some (D.tup [(D.list 0 (some 0) []),(D.v (.int .i64 (1 : Int)))]))
 (cond (decide (a1 > (64 : Int)))
 (some (D.tup [(D.list 0 (some 0) []),(D.v (.int .i64 (1 : Int)))]))
 (Zar m a0_0n a0_0c a0_0 a1 a1 a0_0n a0_0c a0_0 a0_0n a0_0c a0_0)))
theorem Z16e (m : Nat) (a0_0n : Nat) (a0_0c : Option Nat) (a0_0 : List D) (a1 : Int) : funD Tg Zm m 4 Z1c Tryz.f19 [(D.agg [(D.list a0_0n a0_0c a0_0)]),(D.v (.int .i64 a1))] = Zmf m a0_0n a0_0c a0_0 a1 := by kernel_rfl
theorem Z1b4 : Enters Tg 19 := ⟨Tryz.f19,Tryz.func19,by kernel_rfl,by kernel_rfl⟩
theorem Z1b5 {ds : List D} {d : D} (h : funD Tg Zm M 4 Z1c Tryz.f19 ds = some d) : DataSem Tg 19 ds d := Zf (H := Zm) (SpOk.cons Zc3 (SpOk.cons Zqt SpOk.nil)) mixed (InlOk.cons Tryz.func64 Ze9 (InlOk.cons Tryz.func66 Zrc (InlOk.cons Tryz.func67 Z8n (InlOk.cons Tryz.func68 Z112 (InlOk.cons Tryz.func105 Zxf (InlOk.cons Tryz.func71 Z5o InlOk.nil)))))) Tryz.func19 Z1b4 h
noncomputable def Z1x : List D → Option D
 | [.agg [.list a0_0n a0_0c a0_0],.v (.int .i64 a1)] => Zmf M a0_0n a0_0c a0_0 a1
 | _ => none
theorem Zyu : ∀ ds d,Z1x ds = some d → DataSem Tg 19 ds d := by
 intro ds d h
 unfold Z1x at h
 split at h
 ·exact Z1b5 ((Z16e M _ _ _ _).trans h)
 ·cases h
end Go.Ev