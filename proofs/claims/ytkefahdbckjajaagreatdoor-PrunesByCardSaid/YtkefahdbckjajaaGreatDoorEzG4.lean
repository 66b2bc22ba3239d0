/- Functions of the given program in plain form,printed: each with the proof that it is what the evaluator comes to,and that the program function returns what it says. No conditions. -/
import Derived.Test.YtkefahdbckjajaaGreatDoorEzG3
set_option linter.unusedVariables false
set_option maxRecDepth 100000
namespace Go.Ev
open Go Go.Proofs

def Zbh : FnH := ⟨[],[]⟩
noncomputable def Zsi : Hints := ⟨[],[],[]⟩
noncomputable def Zlx (m : Nat) (a0n : Nat) (a0c : Option Nat) (a0 : List D) : Option D :=
 cond ((a0n : Int) == (0 : Int))
 (some (D.list 0 (some 0) []))
 (if 0 ≤ (0 : Int) ∧ (0 : Int) ≤ (a0n : Int) ∧ Z1w (Int.toNat (a0n : Int)) 8 then
 if (List.length a0) = (a0n * 1) then
 if (0 + a0n) ≤ (Int.toNat (a0n : Int)) then
 (if (0 + ((0 + a0n) * 1)) ≤ ((Int.toNat (a0n : Int)) * 1) ∧ (List.length a0) = (a0n * 1) then
 if (0 + ((0 + a0n) * 1)) ≤ ((Int.toNat (a0n : Int)) * 1) then
 some (D.list (0 + a0n) (some (Int.toNat (a0n : Int))) (cutL ((Int.toNat (a0n : Int)) * 1) (List.take 0 (List.flatten (List.replicate (Int.toNat (a0n : Int)) [zI])) ++ (a0 ++ List.drop (0 + ((0 + a0n) * 1)) (List.flatten (List.replicate (Int.toNat (a0n : Int)) [zI])))) 0 ((0 + a0n) * 1)))
 else none
 else none)
 else
 (if Z1w (0 + a0n) 8 ∧ (List.length a0) = (a0n * 1) then
 if 0 ≤ ((Int.toNat (a0n : Int)) * 1) then
 if (0 + ((0 + a0n) * 1)) ≤ ((0 + a0n) * 1) then
 some (D.list (0 + a0n) none (cutL ((0 + a0n) * 1) ((cutL ((Int.toNat (a0n : Int)) * 1) (List.flatten (List.replicate (Int.toNat (a0n : Int)) [zI])) 0 0) ++ a0) 0 ((0 + a0n) * 1)))
 else none
 else none
 else none)
 else none
 else none)
theorem Z158 (m : Nat) (a0n : Nat) (a0c : Option Nat) (a0 : List D) : funD Tg Zsi m 4 Zbh Tryz.f69 [(D.list a0n a0c a0)] = Zlx m a0n a0c a0 := by kernel_rfl
theorem Z1a4 : Enters Tg 69 := ⟨Tryz.f69,Tryz.func69,by kernel_rfl,by kernel_rfl⟩
theorem Z1a5 {ds : List D} {d : D} (h : funD Tg Zsi M 4 Zbh Tryz.f69 ds = some d) : DataSem Tg 69 ds d := Z8 (H := Zsi) SpOk.nil mixed InlOk.nil Tryz.func69 Z1a4 h
noncomputable def Z3y : List D → Option D
  | [.list a0n a0c a0] => Zlx M a0n a0c a0
  | _ => none
theorem Zqf : ∀ ds d,Z3y ds = some d → DataSem Tg 69 ds d := by
  intro ds d h
  unfold Z3y at h
  split at h
  · exact Z1a5 ((Z158 M _ _ _).trans h)
  · cases h

def Z2f : FnH := ⟨[],[]⟩
def Z2u : FnH := ⟨[(9,⟨(bm 481036337408 72),[],(some 5)⟩)],[(6,⟨(bm 6 72),[],(some 1)⟩)]⟩
def Z4v : FnH := ⟨[(3,⟨(bm 1545 23),[(3,1)],(some 1)⟩)],[]⟩
def Zbi : FnH := ⟨[],[]⟩
noncomputable def Zi : Hints := ⟨[(60,Z2y),(69,Z3y)],[(64,Tryz.f64,Z2u),(65,Tryz.f65,Z4v),(71,Tryz.f71,Zbi)],[]⟩
noncomputable def Z85 (m : Nat) (a0_0n : Nat) (a0_0c : Option Nat) (a0_0 : List D) (a1 : Int) (Z2o : Int) (Z43 : Nat) (Z3v : Option Nat) (Z3o : List D) (Z2d : Nat) (Z6d : Option Nat) (Z7a : List D) : Option D :=
 cutK m (codeK Tg Zi.sp ⟨1,[],true,[]⟩ (inlK Tg Zi m 3) m Z2u (subc [1,1,1] (bodyOf Tryz.f64)) ⟨[Jk,(AV.d (D.v (.int .i64 Z2o))),(AV.ptr 1 0),Jk,Jk,Jk,Jk,Jk,Jk,Jk,Jk,Jk,Jk,Jk,Jk,Jk,Jk,Jk,Jk,Jk,Jk,Jk,Jk,Jk,Jk,Jk,Jk,Jk,Jk,Jk,Jk,Jk,Jk,Jk,Jk,Jk,Jk,Jk,Jk,Jk,Jk,Jk,Jk,Jk,Jk,Jk,Jk,Jk,Jk,Jk,Jk,Jk,Jk,Jk,Jk,Jk,Jk,Jk,Jk,Jk,Jk,Jk,Jk,Jk,Jk,Jk,Jk,Jk,Jk,Jk,Jk,Jk],[(Blk.d 1 [(D.list Z43 Z3v Z3o)]),(Blk.d 1 [(D.list Z2d Z6d Z7a)])]⟩
  (contK Tg Zi.sp ⟨1,[],true,[]⟩ (inlK Tg Zi m 3) m Z2u (endK Tg Tryz.f64 (fun v L => opsK Tg Zi.sp ⟨0,[],false,[]⟩ [] (inlK Tg Zi m 4) (regOps (subc [1,0] (bodyOf Tryz.f18))) (List.drop 3 (Array.toList (regOps (subc [1,0] (bodyOf Tryz.f18))))) ⟨setSl [(AV.d (D.agg [(D.list a0_0n a0_0c a0_0)])),(AV.d (D.v (.int .i64 a1))),(AV.ptr 0 0),Jk,(AV.d (D.list 0 (some 0) [])),(AV.d zI),Jk,Jk,Jk,(AV.d (D.agg [(D.list a0_0n a0_0c a0_0)])),(AV.d (D.v (.int .i64 a1))),Jk,Jk,Jk,Jk,Jk,Jk,Jk,Jk] (some 11) v,L⟩ (fun st => contK Tg Zi.sp ⟨0,[],false,[]⟩ (inlK Tg Zi m 4) m Z2f (endK Tg Tryz.f18 (fun v L => viewK L 8 v some)) [.code (subc [1,1] (bodyOf Tryz.f18))] .normal st))) []))
noncomputable def Z2v (m n0 : Nat) (a0_0n : Nat) (a0_0c : Option Nat) (a0_0 : List D) (a1 : Int) (Zl : Nat) (Zt : Option Nat) (Zy : List D) (Z11 : Int) (Zs : Int) (Z1b : Nat) (Z1o : Option Nat) (Z2r : List D) (Z3x : Nat) (Zfh : List D) (Z5n : List D) (Z5e : List D) (Z6a : Int) (Z2b : Nat) : Option D :=
 Z15 (bm 481036337408 72) 1 6 (codeK Tg Zi.sp ⟨1,[],true,[]⟩ (inlK Tg Zi m 3) m Z2u (subc [1,1,1,1,1,0,1,0,0] (bodyOf Tryz.f64))) n0 ⟨[Jk,Jk,Jk,Jk,Jk,Jk,Jk,Jk,(AV.ptr 5 0),Jk,Jk,Jk,Jk,Jk,Jk,Jk,Jk,Jk,Jk,Jk,Jk,Jk,Jk,Jk,Jk,Jk,Jk,Jk,Jk,Jk,Jk,Jk,Jk,Jk,Jk,Jk,(AV.d (D.list Zl Zt Zy)),(AV.d (D.v (.int .i64 Z11))),(AV.d (D.v (.int .i64 Zs))),Jk,Jk,Jk,Jk,Jk,Jk,Jk,Jk,Jk,Jk,Jk,Jk,Jk,Jk,Jk,Jk,Jk,Jk,Jk,Jk,Jk,Jk,Jk,Jk,Jk,Jk,Jk,Jk,Jk,Jk,Jk,Jk,Jk],[(Blk.d 1 [(D.list Z1b Z1o Z2r)]),(Blk.d 1 [(D.list Zl Zt Zy)]),(Blk.d Z3x Zfh),(Blk.d Z3x Z5n),(Blk.d Z3x Z5e),(Blk.a 5 [(AV.d (D.list Zl Zt Zy)),(AV.d (D.v (.int .i64 Z6a))),(AV.sl 2 0 Z2b (some Z2b) 1),(AV.sl 3 0 Z2b (some Z2b) 1),(AV.sl 4 0 Z2b (some Z2b) 1)])]⟩
  (contK Tg Zi.sp ⟨1,[],true,[]⟩ (inlK Tg Zi m 3) m Z2u (endK Tg Tryz.f64 (fun v L => opsK Tg Zi.sp ⟨0,[],false,[]⟩ [] (inlK Tg Zi m 4) (regOps (subc [1,0] (bodyOf Tryz.f18))) (List.drop 3 (Array.toList (regOps (subc [1,0] (bodyOf Tryz.f18))))) ⟨setSl [(AV.d (D.agg [(D.list a0_0n a0_0c a0_0)])),(AV.d (D.v (.int .i64 a1))),(AV.ptr 0 0),Jk,(AV.d (D.list 0 (some 0) [])),(AV.d zI),Jk,Jk,Jk,(AV.d (D.agg [(D.list a0_0n a0_0c a0_0)])),(AV.d (D.v (.int .i64 a1))),Jk,Jk,Jk,Jk,Jk,Jk,Jk,Jk] (some 11) v,L⟩ (fun st => contK Tg Zi.sp ⟨0,[],false,[]⟩ (inlK Tg Zi m 4) m Z2f (endK Tg Tryz.f18 (fun v L => viewK L 8 v some)) [.code (subc [1,1] (bodyOf Tryz.f18))] .normal st))) [.block 0,.code (subc [1,1,1,1,1,1] (bodyOf Tryz.f64))])
noncomputable def Z14 (m n0 : Nat) (a0_0n : Nat) (a0_0c : Option Nat) (a0_0 : List D) (a1 : Int) (Z44 : Nat) (Z7b : Int) (Z5a : Int) (Z6f : Nat) (Z5b : Option Nat) (Z62 : List D) (Z4q : Nat) (Z54 : Option Nat) (Z5c : List D) (Z5d : Nat) (Z3n : List D) (Z3l : List D) (Z36 : List D) (Z49 : Int) (Z1i : Nat) (Z4e : Nat) (Z55 : List D) : Option D :=
 Z15 (bm 1545 23) 6 7 (codeK Tg Zi.sp ⟨6,[1,2,3,4],true,[]⟩ (inlK Tg Zi m 3) m Z4v (subc [1,1,0,1,0,0] (bodyOf Tryz.f65))) n0 ⟨[(AV.ptr 5 0),Jk,Jk,(AV.sl 6 0 Z44 none 1),Jk,Jk,Jk,Jk,Jk,(AV.d (D.v (.int .i64 Z7b))),(AV.d (D.v (.int .i64 Z5a))),Jk,Jk,Jk,Jk,Jk,Jk,Jk,Jk,Jk,Jk,Jk,Jk],[(Blk.d 1 [(D.list Z6f Z5b Z62)]),(Blk.d 1 [(D.list Z4q Z54 Z5c)]),(Blk.d Z5d Z3n),(Blk.d Z5d Z3l),(Blk.d Z5d Z36),(Blk.a 5 [(AV.d (D.list Z4q Z54 Z5c)),(AV.d (D.v (.int .i64 Z49))),(AV.sl 2 0 Z1i (some Z1i) 1),(AV.sl 3 0 Z1i (some Z1i) 1),(AV.sl 4 0 Z1i (some Z1i) 1)]),(Blk.d Z4e Z55)]⟩
  (contK Tg Zi.sp ⟨6,[1,2,3,4],true,[]⟩ (inlK Tg Zi m 3) m Z4v (endK Tg Tryz.f65 (fun v L => opsK Tg Zi.sp ⟨0,[],false,[]⟩ [] (inlK Tg Zi m 4) (regOps (subc [1,1,1,0] (bodyOf Tryz.f18))) (List.drop 2 (Array.toList (regOps (subc [1,1,1,0] (bodyOf Tryz.f18))))) ⟨setSl [(AV.d (D.agg [(D.list a0_0n a0_0c a0_0)])),(AV.d (D.v (.int .i64 a1))),(AV.ptr 0 0),Jk,(AV.d (D.list 0 (some 0) [])),(AV.d zI),(AV.ptr 5 0),(AV.d zI),(AV.tup [(AV.ptr 5 0),(AV.d zI)]),(AV.d (D.agg [(D.list a0_0n a0_0c a0_0)])),(AV.d (D.v (.int .i64 a1))),(AV.tup [(AV.ptr 5 0),(AV.d zI)]),(AV.ptr 5 0),(AV.d zI),(AV.d zI),(AV.d (D.v (.bool false))),Jk,(AV.ptr 5 0),Jk] (some 18) v,L⟩ (fun st => contK Tg Zi.sp ⟨0,[],false,[]⟩ (inlK Tg Zi m 4) m Z2f (endK Tg Tryz.f18 (fun v L => viewK L 8 v some)) [.code (subc [1,1,1,1] (bodyOf Tryz.f18))] .normal st))) [.block 0,.code (subc [1,1,1] (bodyOf Tryz.f65))])
theorem Zee (m n0 : Nat) (a0_0n : Nat) (a0_0c : Option Nat) (a0_0 : List D) (a1 : Int) (Z44 : Nat) (Z7b : Int) (Z5a : Int) (Z6f : Nat) (Z5b : Option Nat) (Z62 : List D) (Z4q : Nat) (Z54 : Option Nat) (Z5c : List D) (Z5d : Nat) (Z3n : List D) (Z3l : List D) (Z36 : List D) (Z49 : Int) (Z1i : Nat) (Z4e : Nat) (Z55 : List D) : Z14 m (n0 + 1) a0_0n a0_0c a0_0 a1 Z44 Z7b Z5a Z6f Z5b Z62 Z4q Z54 Z5c Z5d Z3n Z3l Z36 Z49 Z1i Z4e Z55 =
 (cond (decide (Z5a < Z7b))
 (if 0 ≤ Z5a ∧ Z5a < (Z1i : Int) then
 (rdB Z36[(0 + ((Int.toNat Z5a) * 1))]?).bind fun b21 =>
 cond (!b21)
 (if 0 ≤ Z5a ∧ Z5a < (Z1i : Int) then
 (rdI .i64 Z3n[(0 + ((Int.toNat Z5a) * 1))]?).bind fun x22 =>
 cond (decide (x22 < Z49))
 (if 0 ≤ Z5a ∧ Z5a < (Z1i : Int) then
 (rdI .i64 Z3l[(0 + ((Int.toNat Z5a) * 1))]?).bind fun x23 =>
 cond (x23 == (0 : Int))
 (if ownB ⟨6,[1,2,3,4],true,[]⟩ 6 = true ∧ Z4e = (Z44 * 1) ∧ Z1w (Z44 + 1) 8 ∧ 1 = 1 then
 Z14 m n0 a0_0n a0_0c a0_0 a1 (Z44 + 1) Z7b (IntKind.wrap .i64 (Z5a + (1 : Int))) Z6f Z5b Z62 Z4q Z54 Z5c Z5d Z3n Z3l Z36 Z49 Z1i ((Z44 + 1) * 1) (Z55 ++ [(D.v (.int .i64 Z5a))])
 else none)
 (Z14 m n0 a0_0n a0_0c a0_0 a1 Z44 Z7b (IntKind.wrap .i64 (Z5a + (1 : Int))) Z6f Z5b Z62 Z4q Z54 Z5c Z5d Z3n Z3l Z36 Z49 Z1i Z4e Z55)
 else none)
 (Z14 m n0 a0_0n a0_0c a0_0 a1 Z44 Z7b (IntKind.wrap .i64 (Z5a + (1 : Int))) Z6f Z5b Z62 Z4q Z54 Z5c Z5d Z3n Z3l Z36 Z49 Z1i Z4e Z55)
 else none)
 (Z14 m n0 a0_0n a0_0c a0_0 a1 Z44 Z7b (IntKind.wrap .i64 (Z5a + (1 : Int))) Z6f Z5b Z62 Z4q Z54 Z5c Z5d Z3n Z3l Z36 Z49 Z1i Z4e Z55)
 else none)
 (if (0 + (Z44 * 1)) ≤ Z4e then
 (Z3y [(D.list Z44 none (cutL Z4e Z55 0 (Z44 * 1)))]).bind fun d24 =>
 (rdL (some d24)).bind fun q25 =>
 if (0 + (Z44 * 1)) ≤ Z4e then
 if (0 + (Z44 * 1)) ≤ Z4e then
 some (D.tup [(D.list q25.n q25.cap q25.cs),zI])
 else none
 else none
 else none)) := by kernel_rfl
theorem Zhp (m n0 : Nat) (a0_0n : Nat) (a0_0c : Option Nat) (a0_0 : List D) (a1 : Int) (Zl : Nat) (Zt : Option Nat) (Zy : List D) (Z11 : Int) (Zs : Int) (Z1b : Nat) (Z1o : Option Nat) (Z2r : List D) (Z3x : Nat) (Zfh : List D) (Z5n : List D) (Z5e : List D) (Z6a : Int) (Z2b : Nat) : Z2v m (n0 + 1) a0_0n a0_0c a0_0 a1 Zl Zt Zy Z11 Zs Z1b Z1o Z2r Z3x Zfh Z5n Z5e Z6a Z2b =
 (cond (decide (Zs < Z11))
 (if 0 ≤ Zs ∧ Zs < (Zl : Int) then
 if (((Int.toNat Zs) * 20) + 20) ≤ (List.length Zy) then
 if (List.length ((List.drop ((Int.toNat Zs) * 20) Zy).take 20)) = 20 then
 cond (decide (Zs > (0 : Int)))
 ((rdI .i64 ((List.drop ((Int.toNat Zs) * 20) Zy).take 20)[0]?).bind fun x11 =>
 if 0 ≤ x11 ∧ x11 < (Z2b : Int) then
 (rdI .i64 Zfh[(0 + ((Int.toNat x11) * 1))]?).bind fun x12 =>
 if 0 ≤ Zs ∧ Zs < (Z2b : Int) then
 if 1 = 1 ∧ (0 + ((Int.toNat Zs) * 1)) < Z3x then
 (rdI .i64 ((List.drop ((Int.toNat Zs) * 20) Zy).take 20)[0]?).bind fun x13 =>
 if 0 ≤ x13 ∧ x13 < (Z2b : Int) then
 (rdI .i64 Z5n[(0 + ((Int.toNat x13) * 1))]?).bind fun x14 =>
 if 0 ≤ x13 ∧ x13 < (Z2b : Int) then
 if 1 = 1 ∧ (0 + ((Int.toNat x13) * 1)) < Z3x then
 Z2v m n0 a0_0n a0_0c a0_0 a1 Zl Zt Zy Z11 (IntKind.wrap .i64 (Zs + (1 : Int))) Z1b Z1o Z2r Z3x (List.set Zfh (0 + ((Int.toNat Zs) * 1)) (D.v (.int .i64 (IntKind.wrap .i64 (x12 + (1 : Int)))))) (List.set Z5n (0 + ((Int.toNat x13) * 1)) (D.v (.int .i64 (IntKind.wrap .i64 (x14 + (1 : Int)))))) Z5e Z6a Z2b
 else none
 else none
 else none
 else none
 else none
 else none)
 (Z2v m n0 a0_0n a0_0c a0_0 a1 Zl Zt Zy Z11 (IntKind.wrap .i64 (Zs + (1 : Int))) Z1b Z1o Z2r Z3x Zfh Z5n Z5e Z6a Z2b)
 else none
 else none
 else none)
 (Z14 m m a0_0n a0_0c a0_0 a1 0 (Z2b : Int) (0 : Int) Z1b Z1o Z2r Zl Zt Zy Z3x Zfh Z5n Z5e Z6a Z2b 0 [])) := by kernel_rfl
theorem Zgl (m : Nat) (a0_0n : Nat) (a0_0c : Option Nat) (a0_0 : List D) (a1 : Int) (Z2o : Int) (Z43 : Nat) (Z3v : Option Nat) (Z3o : List D) (Z2d : Nat) (Z6d : Option Nat) (Z7a : List D) : Z85 m a0_0n a0_0c a0_0 a1 Z2o Z43 Z3v Z3o Z2d Z6d Z7a =
 (if 0 ≤ (Z2d : Int) ∧ (Z2d : Int) ≤ (Z2d : Int) ∧ Z1w (Int.toNat (Z2d : Int)) 8 then
 if 0 ≤ (Z2d : Int) ∧ (Z2d : Int) ≤ (Z2d : Int) ∧ Z1w (Int.toNat (Z2d : Int)) 8 then
 if 0 ≤ (Z2d : Int) ∧ (Z2d : Int) ≤ (Z2d : Int) ∧ Z1w (Int.toNat (Z2d : Int)) 1 then
 Z2v m m a0_0n a0_0c a0_0 a1 Z2d Z6d Z7a (Z2d : Int) (0 : Int) Z43 Z3v Z3o ((Int.toNat (Z2d : Int)) * 1) (List.flatten (List.replicate (Int.toNat (Z2d : Int)) [zI])) (List.flatten (List.replicate (Int.toNat (Z2d : Int)) [zI])) (List.flatten (List.replicate (Int.toNat (Z2d : Int)) [(D.v (.bool false))])) Z2o (Int.toNat (Z2d : Int))
 else none
 else none
 else none) := (Z1t m _).trans (by kernel_rfl)
noncomputable def Zca (m : Nat) (a0_0n : Nat) (a0_0c : Option Nat) (a0_0 : List D) (a1 : Int) : Option D :=
 (Z2y [(D.agg [(D.list a0_0n a0_0c a0_0)])]).bind fun d1 =>
 (rdI .i64 (some d1)).bind fun x2 =>
 cond (x2 != (0 : Int))
 (cond (x2 != (0 : Int))
 (some (D.tup [(D.list 0 (some 0) []),(D.v (.int .i64 x2))]))
 (none))
 (cond (decide (a1 < (0 : Int)))
 (some (D.tup [(D.list 0 (some 0) []),(D.v (.int .i64 (1 : Int)))]))
 (cond (decide (a1 > (64 : Int)))
 (some (D.tup [(D.list 0 (some 0) []),(D.v (.int .i64 (1 : Int)))]))
 (Z85 m a0_0n a0_0c a0_0 a1 a1 a0_0n a0_0c a0_0 a0_0n a0_0c a0_0)))
theorem Zxv (m : Nat) (a0_0n : Nat) (a0_0c : Option Nat) (a0_0 : List D) (a1 : Int) : funD Tg Zi m 4 Z2f Tryz.f18 [(D.agg [(D.list a0_0n a0_0c a0_0)]),(D.v (.int .i64 a1))] = Zca m a0_0n a0_0c a0_0 a1 := by kernel_rfl
theorem Z110 : Enters Tg 18 := ⟨Tryz.f18,Tryz.func18,by kernel_rfl,by kernel_rfl⟩
theorem Z111 {ds : List D} {d : D} (h : funD Tg Zi M 4 Z2f Tryz.f18 ds = some d) : DataSem Tg 18 ds d := Z8 (H := Zi) (SpOk.cons Zbl (SpOk.cons Zqf SpOk.nil)) mixed (InlOk.cons Tryz.func64 Zdq (InlOk.cons Tryz.func65 Zpl (InlOk.cons Tryz.func71 Z57 InlOk.nil))) Tryz.func18 Z110 h
noncomputable def Z1j : List D → Option D
  | [.agg [.list a0_0n a0_0c a0_0],.v (.int .i64 a1)] => Zca M a0_0n a0_0c a0_0 a1
  | _ => none
theorem Z112 : ∀ ds d,Z1j ds = some d → DataSem Tg 18 ds d := by
  intro ds d h
  unfold Z1j at h
  split at h
  · exact Z111 ((Zxv M _ _ _ _).trans h)
  · cases h

def Z19 : FnH := ⟨[],[(6,⟨(bm 324 40),[],(some 7)⟩)]⟩
def Z3p : FnH := ⟨[(9,⟨(bm 481036337408 72),[],(some 5)⟩)],[(6,⟨(bm 6 72),[],(some 1)⟩)]⟩
def Zgm : FnH := ⟨[],[]⟩
def Z5f : FnH := ⟨[(3,⟨(bm 14349 34),[(3,1)],(some 2)⟩)],[]⟩
def Zef : FnH := ⟨[],[]⟩
noncomputable def Zf : Hints := ⟨[(50,Z2e),(60,Z2y)],[(64,Tryz.f64,Z3p),(67,Tryz.f67,Zgm),(70,Tryz.f70,Z5f),(71,Tryz.f71,Zef)],[]⟩
noncomputable def Z13a (m : Nat) (Z2o : Int) (Z43 : Nat) (Z3v : Option Nat) (Z3o : List D) (Z2d : Nat) (Z6d : Option Nat) (Z7a : List D) : Option D :=
 cutK m (codeK Tg Zf.sp ⟨0,[],false,[]⟩ (inlK Tg Zf m 4) m Z19 (subc [1,1,1,1] (bodyOf Tryz.f23)) ⟨[Jk,Jk,(AV.d (D.v (.int .i64 Z2o))),Jk,Jk,Jk,(AV.ptr 1 0),Jk,(AV.d (D.v (.pointer none))),Jk,Jk,Jk,Jk,Jk,Jk,Jk,Jk,Jk,Jk,Jk,Jk,Jk,Jk,Jk,Jk,Jk,Jk,Jk,Jk,Jk,Jk,Jk,Jk,Jk,Jk,Jk,Jk,Jk,Jk,Jk],[(Blk.d 1 [(D.list Z43 Z3v Z3o)]),(Blk.d 1 [(D.list 0 (some 0) [])]),(Blk.d 1 [(D.list Z2d Z6d Z7a)])]⟩
  (contK Tg Zf.sp ⟨0,[],false,[]⟩ (inlK Tg Zf m 4) m Z19 (endK Tg Tryz.f23 (fun v L => viewK L 8 v some)) []))
noncomputable def Z9n (m : Nat) (a0_0n : Nat) (a0_0c : Option Nat) (a0_0 : List D) (a1 : Int) (a2 : Int) (Z8i : Int) (Z9q : Nat) (Z9r : Option Nat) (Za9 : List D) (Z80 : Nat) (Z8s : Option Nat) (Zf3 : List D) : Option D :=
 cutK m (codeK Tg Zf.sp ⟨2,[],true,[]⟩ (inlK Tg Zf m 3) m Z3p (subc [1,1,1] (bodyOf Tryz.f64)) ⟨[Jk,(AV.d (D.v (.int .i64 Z8i))),(AV.ptr 2 0),Jk,Jk,Jk,Jk,Jk,Jk,Jk,Jk,Jk,Jk,Jk,Jk,Jk,Jk,Jk,Jk,Jk,Jk,Jk,Jk,Jk,Jk,Jk,Jk,Jk,Jk,Jk,Jk,Jk,Jk,Jk,Jk,Jk,Jk,Jk,Jk,Jk,Jk,Jk,Jk,Jk,Jk,Jk,Jk,Jk,Jk,Jk,Jk,Jk,Jk,Jk,Jk,Jk,Jk,Jk,Jk,Jk,Jk,Jk,Jk,Jk,Jk,Jk,Jk,Jk,Jk,Jk,Jk,Jk],[(Blk.d 1 [(D.list Z9q Z9r Za9)]),(Blk.d 1 [(D.list 0 (some 0) [])]),(Blk.d 1 [(D.list Z80 Z8s Zf3)])]⟩
  (contK Tg Zf.sp ⟨2,[],true,[]⟩ (inlK Tg Zf m 3) m Z3p (endK Tg Tryz.f64 (fun v L => opsK Tg Zf.sp ⟨0,[],false,[]⟩ [] (inlK Tg Zf m 4) (regOps (subc [1,0] (bodyOf Tryz.f23))) (List.drop 3 (Array.toList (regOps (subc [1,0] (bodyOf Tryz.f23))))) ⟨setSl [(AV.d (D.agg [(D.list a0_0n a0_0c a0_0)])),(AV.d (D.v (.int .i64 a1))),(AV.d (D.v (.int .i64 a2))),(AV.ptr 0 0),Jk,Jk,(AV.ptr 1 0),(AV.d zI),Jk,Jk,Jk,(AV.d (D.agg [(D.list a0_0n a0_0c a0_0)])),(AV.d (D.v (.int .i64 a1))),Jk,Jk,Jk,Jk,Jk,Jk,Jk,Jk,Jk,Jk,Jk,Jk,Jk,Jk,Jk,Jk,Jk,Jk,Jk,Jk,Jk,Jk,Jk,Jk,Jk,Jk,Jk] (some 13) v,L⟩ (fun st => contK Tg Zf.sp ⟨0,[],false,[]⟩ (inlK Tg Zf m 4) m Z19 (endK Tg Tryz.f23 (fun v L => viewK L 8 v some)) [.code (subc [1,1] (bodyOf Tryz.f23))] .normal st))) []))
noncomputable def Z3q (m n0 : Nat) (a0_0n : Nat) (a0_0c : Option Nat) (a0_0 : List D) (a1 : Int) (a2 : Int) (Zl : Nat) (Zt : Option Nat) (Zy : List D) (Z11 : Int) (Zs : Int) (Z1b : Nat) (Z1o : Option Nat) (Z2r : List D) (Z3x : Nat) (Zfh : List D) (Z5n : List D) (Z5e : List D) (Z6a : Int) (Z2b : Nat) : Option D :=
 Z15 (bm 481036337408 72) 2 7 (codeK Tg Zf.sp ⟨2,[],true,[]⟩ (inlK Tg Zf m 3) m Z3p (subc [1,1,1,1,1,0,1,0,0] (bodyOf Tryz.f64))) n0 ⟨[Jk,Jk,Jk,Jk,Jk,Jk,Jk,Jk,(AV.ptr 6 0),Jk,Jk,Jk,Jk,Jk,Jk,Jk,Jk,Jk,Jk,Jk,Jk,Jk,Jk,Jk,Jk,Jk,Jk,Jk,Jk,Jk,Jk,Jk,Jk,Jk,Jk,Jk,(AV.d (D.list Zl Zt Zy)),(AV.d (D.v (.int .i64 Z11))),(AV.d (D.v (.int .i64 Zs))),Jk,Jk,Jk,Jk,Jk,Jk,Jk,Jk,Jk,Jk,Jk,Jk,Jk,Jk,Jk,Jk,Jk,Jk,Jk,Jk,Jk,Jk,Jk,Jk,Jk,Jk,Jk,Jk,Jk,Jk,Jk,Jk,Jk],[(Blk.d 1 [(D.list Z1b Z1o Z2r)]),(Blk.d 1 [(D.list 0 (some 0) [])]),(Blk.d 1 [(D.list Zl Zt Zy)]),(Blk.d Z3x Zfh),(Blk.d Z3x Z5n),(Blk.d Z3x Z5e),(Blk.a 5 [(AV.d (D.list Zl Zt Zy)),(AV.d (D.v (.int .i64 Z6a))),(AV.sl 3 0 Z2b (some Z2b) 1),(AV.sl 4 0 Z2b (some Z2b) 1),(AV.sl 5 0 Z2b (some Z2b) 1)])]⟩
  (contK Tg Zf.sp ⟨2,[],true,[]⟩ (inlK Tg Zf m 3) m Z3p (endK Tg Tryz.f64 (fun v L => opsK Tg Zf.sp ⟨0,[],false,[]⟩ [] (inlK Tg Zf m 4) (regOps (subc [1,0] (bodyOf Tryz.f23))) (List.drop 3 (Array.toList (regOps (subc [1,0] (bodyOf Tryz.f23))))) ⟨setSl [(AV.d (D.agg [(D.list a0_0n a0_0c a0_0)])),(AV.d (D.v (.int .i64 a1))),(AV.d (D.v (.int .i64 a2))),(AV.ptr 0 0),Jk,Jk,(AV.ptr 1 0),(AV.d zI),Jk,Jk,Jk,(AV.d (D.agg [(D.list a0_0n a0_0c a0_0)])),(AV.d (D.v (.int .i64 a1))),Jk,Jk,Jk,Jk,Jk,Jk,Jk,Jk,Jk,Jk,Jk,Jk,Jk,Jk,Jk,Jk,Jk,Jk,Jk,Jk,Jk,Jk,Jk,Jk,Jk,Jk,Jk] (some 13) v,L⟩ (fun st => contK Tg Zf.sp ⟨0,[],false,[]⟩ (inlK Tg Zf m 4) m Z19 (endK Tg Tryz.f23 (fun v L => viewK L 8 v some)) [.code (subc [1,1] (bodyOf Tryz.f23))] .normal st))) [.block 0,.code (subc [1,1,1,1,1,1] (bodyOf Tryz.f64))])
noncomputable def Zfy (m : Nat) (Ze6 : Int) (Zvv : Nat) (Zud : Option Nat) (Zvn : List D) (Zvo : Nat) (Zw7 : Option Nat) (Zyi : List D) (Z10e : Nat) (Z10f : List D) (Z14v : Nat) (Zyz : List D) (Z10t : Nat) (Z10u : List D) (Z10v : Nat) (Z137 : Option Nat) (Z10w : List D) (Z10x : Int) (Z10y : Nat) (Z138 : Nat) (Zuo : Nat) (Z1ep : Nat) (Z159 : Nat) (Z15a : Nat) : Option D :=
 cutK m (codeK Tg Zf.sp ⟨0,[],false,[]⟩ (inlK Tg Zf m 4) m Z19 (subc [1,1,1,1] (bodyOf Tryz.f23)) ⟨[Jk,Jk,(AV.d (D.v (.int .i64 Ze6))),Jk,Jk,Jk,(AV.ptr 1 0),Jk,(AV.ptr 6 0),Jk,Jk,Jk,Jk,Jk,Jk,Jk,Jk,Jk,Jk,Jk,Jk,Jk,Jk,Jk,Jk,Jk,Jk,Jk,Jk,Jk,Jk,Jk,Jk,Jk,Jk,Jk,Jk,Jk,Jk,Jk],[(Blk.d 1 [(D.list Zvv Zud Zvn)]),(Blk.d 1 [(D.list 0 (some 0) [])]),(Blk.d 1 [(D.list Zvo Zw7 Zyi)]),(Blk.d Z10e Z10f),(Blk.d Z14v Zyz),(Blk.d Z10t Z10u),(Blk.a 5 [(AV.d (D.list Z10v Z137 Z10w)),(AV.d (D.v (.int .i64 Z10x))),(AV.sl 3 0 Z10y (some Z138) 1),(AV.sl 4 0 Zuo (some Z1ep) 1),(AV.sl 5 0 Z159 (some Z15a) 1)])]⟩
  (contK Tg Zf.sp ⟨0,[],false,[]⟩ (inlK Tg Zf m 4) m Z19 (endK Tg Tryz.f23 (fun v L => viewK L 8 v some)) []))
noncomputable def Z23 (m n0 : Nat) (Ze6 : Int) (x17 : Int) (Z44 : Nat) (Z7b : Nat) (Z5a : Nat) (Z6f : Int) (Z5b : Int) (Z62 : Nat) (Z4q : Option Nat) (Z54 : List D) (Z5c : Nat) (Z5d : Option Nat) (Z3n : List D) (Z3l : Nat) (Z36 : List D) (Z49 : Nat) (Z1i : List D) (Z4e : Nat) (Z55 : List D) (Z6g : Nat) (Z60 : Option Nat) (Z82 : List D) (Z83 : Int) (Z8l : Nat) (Z84 : Nat) (Zw0 : Nat) (Zqo : Nat) (Zw1 : Nat) (Z1kc : List D) : Option D :=
 Z15 (bm 14349 34) 7 9 (codeK Tg Zf.sp ⟨7,[0,2,3,4,5],true,[]⟩ (inlK Tg Zf m 3) m Z5f (subc [1,1,0,1,0,0] (bodyOf Tryz.f70))) n0 ⟨[(AV.ptr 6 0),Jk,(AV.ptr 7 0),(AV.sl 8 0 Z44 none 1),Jk,Jk,Jk,Jk,Jk,Jk,Jk,(AV.sl 5 0 Z7b (some Z5a) 1),(AV.d (D.v (.int .i64 Z6f))),(AV.d (D.v (.int .i64 Z5b))),Jk,Jk,Jk,Jk,Jk,Jk,Jk,Jk,Jk,Jk,Jk,Jk,Jk,Jk,Jk,Jk,Jk,Jk,Jk,Jk],[(Blk.d 1 [(D.list Z62 Z4q Z54)]),(Blk.d 1 [(D.list 0 (some 0) [])]),(Blk.d 1 [(D.list Z5c Z5d Z3n)]),(Blk.d Z3l Z36),(Blk.d Z49 Z1i),(Blk.d Z4e Z55),(Blk.a 5 [(AV.d (D.list Z6g Z60 Z82)),(AV.d (D.v (.int .i64 Z83))),(AV.sl 3 0 Z8l (some Z84) 1),(AV.sl 4 0 Zw0 (some Zqo) 1),(AV.sl 5 0 Z7b (some Z5a) 1)]),(Blk.d 1 [(D.list 0 (some 0) [])]),(Blk.d Zw1 Z1kc)]⟩
  (contK Tg Zf.sp ⟨7,[0,2,3,4,5],true,[]⟩ (inlK Tg Zf m 3) m Z5f (endK Tg Tryz.f70 (fun v L => opsK Tg Zf.sp ⟨0,[],false,[]⟩ [] (inlK Tg Zf m 4) (regOps (subc [1,1,1,1,1,1,0] (bodyOf Tryz.f23))) (List.drop 2 (Array.toList (regOps (subc [1,1,1,1,1,1,0] (bodyOf Tryz.f23))))) ⟨setSl [Jk,Jk,(AV.d (D.v (.int .i64 Ze6))),Jk,Jk,Jk,(AV.ptr 1 0),Jk,(AV.ptr 6 0),Jk,Jk,Jk,Jk,Jk,Jk,Jk,Jk,Jk,Jk,Jk,Jk,Jk,Jk,Jk,Jk,Jk,Jk,Jk,Jk,Jk,(AV.ptr 6 0),(AV.d (D.v (.int .i64 Ze6))),(AV.d (D.v (.bool (x17 == (0 : Int))))),(AV.d (D.v (.bool false))),Jk,(AV.ptr 6 0),(AV.d (D.v (.int .i64 Ze6))),(AV.d (D.tup [])),(AV.ptr 6 0),Jk] (some 39) v,L⟩ (fun st => contK Tg Zf.sp ⟨0,[],false,[]⟩ (inlK Tg Zf m 4) m Z19 (endK Tg Tryz.f23 (fun v L => viewK L 8 v some)) [.code (subc [1,1,1,1,1,1,1] (bodyOf Tryz.f23))] .normal st))) [.block 0,.code (subc [1,1,1] (bodyOf Tryz.f70))])
theorem Zgn (m n0 : Nat) (Ze6 : Int) (x17 : Int) (Z44 : Nat) (Z7b : Nat) (Z5a : Nat) (Z6f : Int) (Z5b : Int) (Z62 : Nat) (Z4q : Option Nat) (Z54 : List D) (Z5c : Nat) (Z5d : Option Nat) (Z3n : List D) (Z3l : Nat) (Z36 : List D) (Z49 : Nat) (Z1i : List D) (Z4e : Nat) (Z55 : List D) (Z6g : Nat) (Z60 : Option Nat) (Z82 : List D) (Z83 : Int) (Z8l : Nat) (Z84 : Nat) (Zw0 : Nat) (Zqo : Nat) (Zw1 : Nat) (Z1kc : List D) : Z23 m (n0 + 1) Ze6 x17 Z44 Z7b Z5a Z6f Z5b Z62 Z4q Z54 Z5c Z5d Z3n Z3l Z36 Z49 Z1i Z4e Z55 Z6g Z60 Z82 Z83 Z8l Z84 Zw0 Zqo Zw1 Z1kc =
 (cond (decide (Z5b < Z6f))
 (if 0 ≤ Z5b ∧ Z5b < (Z7b : Int) then
 (rdB Z55[(0 + ((Int.toNat Z5b) * 1))]?).bind fun b22 =>
 cond b22
 (if ownB ⟨7,[0,2,3,4,5],true,[]⟩ 8 = true ∧ Zw1 = (Z44 * 1) ∧ Z1w (Z44 + 1) 8 ∧ 1 = 1 then
 Z23 m n0 Ze6 x17 (Z44 + 1) Z7b Z5a Z6f (IntKind.wrap .i64 (Z5b + (1 : Int))) Z62 Z4q Z54 Z5c Z5d Z3n Z3l Z36 Z49 Z1i Z4e Z55 Z6g Z60 Z82 Z83 Z8l Z84 Zw0 Zqo ((Z44 + 1) * 1) (Z1kc ++ [(D.v (.int .i64 Z5b))])
 else none)
 (Z23 m n0 Ze6 x17 Z44 Z7b Z5a Z6f (IntKind.wrap .i64 (Z5b + (1 : Int))) Z62 Z4q Z54 Z5c Z5d Z3n Z3l Z36 Z49 Z1i Z4e Z55 Z6g Z60 Z82 Z83 Z8l Z84 Zw0 Zqo Zw1 Z1kc)
 else none)
 (if (0 + (Z44 * 1)) ≤ Zw1 then
 (Z2e [(D.agg [(D.list Z6g Z60 Z82)]),(D.list Z44 none (cutL Zw1 Z1kc 0 (Z44 * 1)))]).bind fun d23 =>
 (rdT d23).bind fun r24 =>
 if List.length r24 = 2 then
 (rdA r24[0]?).bind fun c25 =>
 (rdI .i64 r24[1]?).bind fun x26 =>
 if (0 + (Z44 * 1)) ≤ Zw1 then
 if (0 + (Z44 * 1)) ≤ Zw1 then
 if (List.length c25) = 1 then
 if (List.length c25) = 1 then
 if (List.length c25) = 1 then
 some (D.tup [(D.agg c25),zI])
 else none
 else none
 else none
 else none
 else none
 else none
 else none)) := by kernel_rfl
theorem Zw2 (m : Nat) (Ze6 : Int) (Zvv : Nat) (Zud : Option Nat) (Zvn : List D) (Zvo : Nat) (Zw7 : Option Nat) (Zyi : List D) (Z10e : Nat) (Z10f : List D) (Z14v : Nat) (Zyz : List D) (Z10t : Nat) (Z10u : List D) (Z10v : Nat) (Z137 : Option Nat) (Z10w : List D) (Z10x : Int) (Z10y : Nat) (Z138 : Nat) (Zuo : Nat) (Z1ep : Nat) (Z159 : Nat) (Z15a : Nat) : Zfy m Ze6 Zvv Zud Zvn Zvo Zw7 Zyi Z10e Z10f Z14v Zyz Z10t Z10u Z10v Z137 Z10w Z10x Z10y Z138 Zuo Z1ep Z159 Z15a =
 (if 0 ≤ Ze6 ∧ Ze6 < (Z159 : Int) then
 (rdB Z10u[(0 + ((Int.toNat Ze6) * 1))]?).bind fun b15 =>
 cond (!b15)
 (if 0 ≤ Ze6 ∧ Ze6 < (Z10y : Int) then
 (rdI .i64 Z10f[(0 + ((Int.toNat Ze6) * 1))]?).bind fun x16 =>
 cond (decide (x16 < Z10x))
 (if 0 ≤ Ze6 ∧ Ze6 < (Zuo : Int) then
 (rdI .i64 Zyz[(0 + ((Int.toNat Ze6) * 1))]?).bind fun x17 =>
 cond (!(x17 == (0 : Int)))
 (some (D.tup [(D.agg [(D.list 0 (some 0) [])]),(D.v (.int .i64 (21 : Int)))]))
 (if 0 ≤ Ze6 ∧ Ze6 < (Z159 : Int) then
 if 1 = 1 ∧ (0 + ((Int.toNat Ze6) * 1)) < Z10t then
 cond (decide (Ze6 > (0 : Int)))
 (if 0 ≤ Ze6 ∧ Ze6 < (Z10v : Int) then
 (rdI .i64 Z10w[(((Int.toNat Ze6) * 20) + 0)]?).bind fun x18 =>
 if 0 ≤ x18 ∧ x18 < (Zuo : Int) then
 (rdI .i64 Zyz[(0 + ((Int.toNat x18) * 1))]?).bind fun x19 =>
 if 0 ≤ x18 ∧ x18 < (Zuo : Int) then
 if 1 = 1 ∧ (0 + ((Int.toNat x18) * 1)) < Z14v then
 Z23 m m Ze6 x17 0 Z159 Z15a (Z159 : Int) (0 : Int) Zvv Zud Zvn Zvo Zw7 Zyi Z10e Z10f Z14v (List.set Zyz (0 + ((Int.toNat x18) * 1)) (D.v (.int .i64 (IntKind.wrap .i64 (x19 - (1 : Int)))))) Z10t (List.set Z10u (0 + ((Int.toNat Ze6) * 1)) (D.v (.bool true))) Z10v Z137 Z10w Z10x Z10y Z138 Zuo Z1ep 0 []
 else none
 else none
 else none
 else none)
 (Z23 m m Ze6 x17 0 Z159 Z15a (Z159 : Int) (0 : Int) Zvv Zud Zvn Zvo Zw7 Zyi Z10e Z10f Z14v Zyz Z10t (List.set Z10u (0 + ((Int.toNat Ze6) * 1)) (D.v (.bool true))) Z10v Z137 Z10w Z10x Z10y Z138 Zuo Z1ep 0 [])
 else none
 else none)
 else none)
 (some (D.tup [(D.agg [(D.list 0 (some 0) [])]),(D.v (.int .i64 (21 : Int)))]))
 else none)
 (some (D.tup [(D.agg [(D.list 0 (some 0) [])]),(D.v (.int .i64 (21 : Int)))]))
 else none) := (Z1t m _).trans (by kernel_rfl)
theorem Zkk (m n0 : Nat) (a0_0n : Nat) (a0_0c : Option Nat) (a0_0 : List D) (a1 : Int) (a2 : Int) (Zl : Nat) (Zt : Option Nat) (Zy : List D) (Z11 : Int) (Zs : Int) (Z1b : Nat) (Z1o : Option Nat) (Z2r : List D) (Z3x : Nat) (Zfh : List D) (Z5n : List D) (Z5e : List D) (Z6a : Int) (Z2b : Nat) : Z3q m (n0 + 1) a0_0n a0_0c a0_0 a1 a2 Zl Zt Zy Z11 Zs Z1b Z1o Z2r Z3x Zfh Z5n Z5e Z6a Z2b =
 (cond (decide (Zs < Z11))
 (if 0 ≤ Zs ∧ Zs < (Zl : Int) then
 if (((Int.toNat Zs) * 20) + 20) ≤ (List.length Zy) then
 if (List.length ((List.drop ((Int.toNat Zs) * 20) Zy).take 20)) = 20 then
 cond (decide (Zs > (0 : Int)))
 ((rdI .i64 ((List.drop ((Int.toNat Zs) * 20) Zy).take 20)[0]?).bind fun x11 =>
 if 0 ≤ x11 ∧ x11 < (Z2b : Int) then
 (rdI .i64 Zfh[(0 + ((Int.toNat x11) * 1))]?).bind fun x12 =>
 if 0 ≤ Zs ∧ Zs < (Z2b : Int) then
 if 1 = 1 ∧ (0 + ((Int.toNat Zs) * 1)) < Z3x then
 (rdI .i64 ((List.drop ((Int.toNat Zs) * 20) Zy).take 20)[0]?).bind fun x13 =>
 if 0 ≤ x13 ∧ x13 < (Z2b : Int) then
 (rdI .i64 Z5n[(0 + ((Int.toNat x13) * 1))]?).bind fun x14 =>
 if 0 ≤ x13 ∧ x13 < (Z2b : Int) then
 if 1 = 1 ∧ (0 + ((Int.toNat x13) * 1)) < Z3x then
 Z3q m n0 a0_0n a0_0c a0_0 a1 a2 Zl Zt Zy Z11 (IntKind.wrap .i64 (Zs + (1 : Int))) Z1b Z1o Z2r Z3x (List.set Zfh (0 + ((Int.toNat Zs) * 1)) (D.v (.int .i64 (IntKind.wrap .i64 (x12 + (1 : Int)))))) (List.set Z5n (0 + ((Int.toNat x13) * 1)) (D.v (.int .i64 (IntKind.wrap .i64 (x14 + (1 : Int)))))) Z5e Z6a Z2b
 else none
 else none
 else none
 else none
 else none
 else none)
 (Z3q m n0 a0_0n a0_0c a0_0 a1 a2 Zl Zt Zy Z11 (IntKind.wrap .i64 (Zs + (1 : Int))) Z1b Z1o Z2r Z3x Zfh Z5n Z5e Z6a Z2b)
 else none
 else none
 else none)
 (cond (decide (a2 < (0 : Int)))
 (some (D.tup [(D.agg [(D.list 0 (some 0) [])]),(D.v (.int .i64 (19 : Int)))]))
 (cond (decide (a2 ≥ (Z1b : Int)))
 (some (D.tup [(D.agg [(D.list 0 (some 0) [])]),(D.v (.int .i64 (19 : Int)))]))
 (Zfy m a2 Z1b Z1o Z2r Zl Zt Zy Z3x Zfh Z3x Z5n Z3x Z5e Zl Zt Zy Z6a Z2b Z2b Z2b Z2b Z2b Z2b)))) := by kernel_rfl
theorem Zjz (m : Nat) (a0_0n : Nat) (a0_0c : Option Nat) (a0_0 : List D) (a1 : Int) (a2 : Int) (Z8i : Int) (Z9q : Nat) (Z9r : Option Nat) (Za9 : List D) (Z80 : Nat) (Z8s : Option Nat) (Zf3 : List D) : Z9n m a0_0n a0_0c a0_0 a1 a2 Z8i Z9q Z9r Za9 Z80 Z8s Zf3 =
 (if 0 ≤ (Z80 : Int) ∧ (Z80 : Int) ≤ (Z80 : Int) ∧ Z1w (Int.toNat (Z80 : Int)) 8 then
 if 0 ≤ (Z80 : Int) ∧ (Z80 : Int) ≤ (Z80 : Int) ∧ Z1w (Int.toNat (Z80 : Int)) 8 then
 if 0 ≤ (Z80 : Int) ∧ (Z80 : Int) ≤ (Z80 : Int) ∧ Z1w (Int.toNat (Z80 : Int)) 1 then
 Z3q m m a0_0n a0_0c a0_0 a1 a2 Z80 Z8s Zf3 (Z80 : Int) (0 : Int) Z9q Z9r Za9 ((Int.toNat (Z80 : Int)) * 1) (List.flatten (List.replicate (Int.toNat (Z80 : Int)) [zI])) (List.flatten (List.replicate (Int.toNat (Z80 : Int)) [zI])) (List.flatten (List.replicate (Int.toNat (Z80 : Int)) [(D.v (.bool false))])) Z8i (Int.toNat (Z80 : Int))
 else none
 else none
 else none) := (Z1t m _).trans (by kernel_rfl)
noncomputable def Zk0 (m : Nat) (a0_0n : Nat) (a0_0c : Option Nat) (a0_0 : List D) (a1 : Int) (a2 : Int) : Option D :=
 (Z2y [(D.agg [(D.list a0_0n a0_0c a0_0)])]).bind fun d1 =>
 (rdI .i64 (some d1)).bind fun x2 =>
 cond (x2 != (0 : Int))
 (cond (x2 != (0 : Int))
 (some (D.tup [(D.agg [(D.list 0 (some 0) [])]),(D.v (.int .i64 x2))]))
 (cond (decide (a2 < (0 : Int)))
 (some (D.tup [(D.agg [(D.list 0 (some 0) [])]),(D.v (.int .i64 (19 : Int)))]))
 (cond (decide (a2 ≥ (a0_0n : Int)))
 (some (D.tup [(D.agg [(D.list 0 (some 0) [])]),(D.v (.int .i64 (19 : Int)))]))
 (Z13a m a2 a0_0n a0_0c a0_0 a0_0n a0_0c a0_0))))
 (cond (decide (a1 < (0 : Int)))
 (some (D.tup [(D.agg [(D.list 0 (some 0) [])]),(D.v (.int .i64 (1 : Int)))]))
 (cond (decide (a1 > (64 : Int)))
 (some (D.tup [(D.agg [(D.list 0 (some 0) [])]),(D.v (.int .i64 (1 : Int)))]))
 (Z9n m a0_0n a0_0c a0_0 a1 a2 a1 a0_0n a0_0c a0_0 a0_0n a0_0c a0_0)))
theorem Z13b (m : Nat) (a0_0n : Nat) (a0_0c : Option Nat) (a0_0 : List D) (a1 : Int) (a2 : Int) : funD Tg Zf m 4 Z19 Tryz.f23 [(D.agg [(D.list a0_0n a0_0c a0_0)]),(D.v (.int .i64 a1)),(D.v (.int .i64 a2))] = Zk0 m a0_0n a0_0c a0_0 a1 a2 := by kernel_rfl
theorem Z177 : Enters Tg 23 := ⟨Tryz.f23,Tryz.func23,by kernel_rfl,by kernel_rfl⟩
theorem Z178 {ds : List D} {d : D} (h : funD Tg Zf M 4 Z19 Tryz.f23 ds = some d) : DataSem Tg 23 ds d := Z8 (H := Zf) (SpOk.cons Zqe (SpOk.cons Zbl SpOk.nil)) mixed (InlOk.cons Tryz.func64 Zdq (InlOk.cons Tryz.func67 Z8a (InlOk.cons Tryz.func70 Zh5 (InlOk.cons Tryz.func71 Z57 InlOk.nil)))) Tryz.func23 Z177 h
noncomputable def Z2i : List D → Option D
  | [.agg [.list a0_0n a0_0c a0_0],.v (.int .i64 a1),.v (.int .i64 a2)] => Zk0 M a0_0n a0_0c a0_0 a1 a2
  | _ => none
theorem Z179 : ∀ ds d,Z2i ds = some d → DataSem Tg 23 ds d := by
  intro ds d h
  unfold Z2i at h
  split at h
  · exact Z178 ((Z13b M _ _ _ _ _).trans h)
  · cases h

def Z2c : FnH := ⟨[],[]⟩
def Z3z : FnH := ⟨[(9,⟨(bm 481036337408 72),[],(some 5)⟩)],[(6,⟨(bm 6 72),[],(some 1)⟩)]⟩
def Z32 : FnH := ⟨[(1,⟨(bm 19 21),[],(some 0)⟩)],[(2,⟨(bm 19 21),[],(some 0)⟩)]⟩
def Zhq : FnH := ⟨[],[]⟩
def Z5q : FnH := ⟨[(3,⟨(bm 14349 34),[(3,1)],(some 2)⟩)],[]⟩
def Zf6 : FnH := ⟨[],[]⟩
noncomputable def Zd : Hints := ⟨[(50,Z2e),(60,Z2y)],[(64,Tryz.f64,Z3z),(66,Tryz.f66,Z32),(67,Tryz.f67,Zhq),(70,Tryz.f70,Z5q),(71,Tryz.f71,Zf6)],[]⟩
noncomputable def Zab (m : Nat) (a0_0n : Nat) (a0_0c : Option Nat) (a0_0 : List D) (a1 : Int) (Z2o : Int) (Z43 : Nat) (Z3v : Option Nat) (Z3o : List D) (Z2d : Nat) (Z6d : Option Nat) (Z7a : List D) : Option D :=
 cutK m (codeK Tg Zd.sp ⟨2,[],true,[]⟩ (inlK Tg Zd m 3) m Z3z (subc [1,1,1] (bodyOf Tryz.f64)) ⟨[Jk,(AV.d (D.v (.int .i64 Z2o))),(AV.ptr 2 0),Jk,Jk,Jk,Jk,Jk,Jk,Jk,Jk,Jk,Jk,Jk,Jk,Jk,Jk,Jk,Jk,Jk,Jk,Jk,Jk,Jk,Jk,Jk,Jk,Jk,Jk,Jk,Jk,Jk,Jk,Jk,Jk,Jk,Jk,Jk,Jk,Jk,Jk,Jk,Jk,Jk,Jk,Jk,Jk,Jk,Jk,Jk,Jk,Jk,Jk,Jk,Jk,Jk,Jk,Jk,Jk,Jk,Jk,Jk,Jk,Jk,Jk,Jk,Jk,Jk,Jk,Jk,Jk,Jk],[(Blk.d 1 [(D.list Z43 Z3v Z3o)]),(Blk.d 1 [(D.list 0 (some 0) [])]),(Blk.d 1 [(D.list Z2d Z6d Z7a)])]⟩
  (contK Tg Zd.sp ⟨2,[],true,[]⟩ (inlK Tg Zd m 3) m Z3z (endK Tg Tryz.f64 (fun v L => opsK Tg Zd.sp ⟨0,[],false,[]⟩ [] (inlK Tg Zd m 4) (regOps (subc [1,0] (bodyOf Tryz.f20))) (List.drop 3 (Array.toList (regOps (subc [1,0] (bodyOf Tryz.f20))))) ⟨setSl [(AV.d (D.agg [(D.list a0_0n a0_0c a0_0)])),(AV.d (D.v (.int .i64 a1))),(AV.ptr 0 0),Jk,(AV.ptr 1 0),(AV.d zI),Jk,Jk,Jk,(AV.d (D.agg [(D.list a0_0n a0_0c a0_0)])),(AV.d (D.v (.int .i64 a1))),Jk,Jk,Jk,Jk,Jk,Jk,Jk,Jk,Jk,Jk,Jk,Jk,Jk] (some 11) v,L⟩ (fun st => contK Tg Zd.sp ⟨0,[],false,[]⟩ (inlK Tg Zd m 4) m Z2c (endK Tg Tryz.f20 (fun v L => viewK L 8 v some)) [.code (subc [1,1] (bodyOf Tryz.f20))] .normal st))) []))
noncomputable def Z40 (m n0 : Nat) (a0_0n : Nat) (a0_0c : Option Nat) (a0_0 : List D) (a1 : Int) (Zl : Nat) (Zt : Option Nat) (Zy : List D) (Z11 : Int) (Zs : Int) (Z1b : Nat) (Z1o : Option Nat) (Z2r : List D) (Z3x : Nat) (Zfh : List D) (Z5n : List D) (Z5e : List D) (Z6a : Int) (Z2b : Nat) : Option D :=
 Z15 (bm 481036337408 72) 2 7 (codeK Tg Zd.sp ⟨2,[],true,[]⟩ (inlK Tg Zd m 3) m Z3z (subc [1,1,1,1,1,0,1,0,0] (bodyOf Tryz.f64))) n0 ⟨[Jk,Jk,Jk,Jk,Jk,Jk,Jk,Jk,(AV.ptr 6 0),Jk,Jk,Jk,Jk,Jk,Jk,Jk,Jk,Jk,Jk,Jk,Jk,Jk,Jk,Jk,Jk,Jk,Jk,Jk,Jk,Jk,Jk,Jk,Jk,Jk,Jk,Jk,(AV.d (D.list Zl Zt Zy)),(AV.d (D.v (.int .i64 Z11))),(AV.d (D.v (.int .i64 Zs))),Jk,Jk,Jk,Jk,Jk,Jk,Jk,Jk,Jk,Jk,Jk,Jk,Jk,Jk,Jk,Jk,Jk,Jk,Jk,Jk,Jk,Jk,Jk,Jk,Jk,Jk,Jk,Jk,Jk,Jk,Jk,Jk,Jk],[(Blk.d 1 [(D.list Z1b Z1o Z2r)]),(Blk.d 1 [(D.list 0 (some 0) [])]),(Blk.d 1 [(D.list Zl Zt Zy)]),(Blk.d Z3x Zfh),(Blk.d Z3x Z5n),(Blk.d Z3x Z5e),(Blk.a 5 [(AV.d (D.list Zl Zt Zy)),(AV.d (D.v (.int .i64 Z6a))),(AV.sl 3 0 Z2b (some Z2b) 1),(AV.sl 4 0 Z2b (some Z2b) 1),(AV.sl 5 0 Z2b (some Z2b) 1)])]⟩
  (contK Tg Zd.sp ⟨2,[],true,[]⟩ (inlK Tg Zd m 3) m Z3z (endK Tg Tryz.f64 (fun v L => opsK Tg Zd.sp ⟨0,[],false,[]⟩ [] (inlK Tg Zd m 4) (regOps (subc [1,0] (bodyOf Tryz.f20))) (List.drop 3 (Array.toList (regOps (subc [1,0] (bodyOf Tryz.f20))))) ⟨setSl [(AV.d (D.agg [(D.list a0_0n a0_0c a0_0)])),(AV.d (D.v (.int .i64 a1))),(AV.ptr 0 0),Jk,(AV.ptr 1 0),(AV.d zI),Jk,Jk,Jk,(AV.d (D.agg [(D.list a0_0n a0_0c a0_0)])),(AV.d (D.v (.int .i64 a1))),Jk,Jk,Jk,Jk,Jk,Jk,Jk,Jk,Jk,Jk,Jk,Jk,Jk] (some 11) v,L⟩ (fun st => contK Tg Zd.sp ⟨0,[],false,[]⟩ (inlK Tg Zd m 4) m Z2c (endK Tg Tryz.f20 (fun v L => viewK L 8 v some)) [.code (subc [1,1] (bodyOf Tryz.f20))] .normal st))) [.block 0,.code (subc [1,1,1,1,1,1] (bodyOf Tryz.f64))])
noncomputable def Z33 (m n0 : Nat) (a0_0n : Nat) (a0_0c : Option Nat) (a0_0 : List D) (a1 : Int) (Z44 : Int) (Z7b : Nat) (Z5a : Option Nat) (Z6f : List D) (Z5b : Nat) (Z62 : Option Nat) (Z4q : List D) (Z54 : Nat) (Z5c : List D) (Z5d : Nat) (Z3n : List D) (Z3l : Nat) (Z36 : List D) (Z49 : Nat) (Z1i : Option Nat) (Z4e : List D) (Z55 : Int) (Z6g : Nat) (Z60 : Nat) (Z82 : Nat) (Z83 : Nat) (Z8l : Nat) (Z84 : Nat) : Option D :=
 Z15 (bm 19 21) 7 7 (codeK Tg Zd.sp ⟨7,[2,3,4,5],true,[]⟩ (inlK Tg Zd m 3) m Z32 (subc [1,0,0] (bodyOf Tryz.f66))) n0 ⟨[(AV.ptr 6 0),(AV.bnd 67 [(AV.ptr 6 0)]),Jk,Jk,(AV.d (D.v (.int .i64 Z44))),Jk,Jk,Jk,Jk,Jk,Jk,Jk,Jk,Jk,Jk,Jk,Jk,Jk,Jk,Jk,Jk],[(Blk.d 1 [(D.list Z7b Z5a Z6f)]),(Blk.d 1 [(D.list 0 (some 0) [])]),(Blk.d 1 [(D.list Z5b Z62 Z4q)]),(Blk.d Z54 Z5c),(Blk.d Z5d Z3n),(Blk.d Z3l Z36),(Blk.a 5 [(AV.d (D.list Z49 Z1i Z4e)),(AV.d (D.v (.int .i64 Z55))),(AV.sl 3 0 Z6g (some Z60) 1),(AV.sl 4 0 Z82 (some Z83) 1),(AV.sl 5 0 Z8l (some Z84) 1)])]⟩
  (contK Tg Zd.sp ⟨7,[2,3,4,5],true,[]⟩ (inlK Tg Zd m 3) m Z32 (endK Tg Tryz.f66 (fun v L => opsK Tg Zd.sp ⟨0,[],false,[]⟩ [] (inlK Tg Zd m 4) (regOps (subc [1,1,1,0] (bodyOf Tryz.f20))) (List.drop 4 (Array.toList (regOps (subc [1,1,1,0] (bodyOf Tryz.f20))))) ⟨setSl [(AV.d (D.agg [(D.list a0_0n a0_0c a0_0)])),(AV.d (D.v (.int .i64 a1))),(AV.ptr 0 0),Jk,(AV.ptr 1 0),(AV.d zI),(AV.ptr 6 0),(AV.d zI),(AV.tup [(AV.ptr 6 0),(AV.d zI)]),(AV.d (D.agg [(D.list a0_0n a0_0c a0_0)])),(AV.d (D.v (.int .i64 a1))),(AV.tup [(AV.ptr 6 0),(AV.d zI)]),(AV.ptr 6 0),(AV.d zI),(AV.d zI),(AV.d (D.v (.bool false))),Jk,Jk,(AV.ptr 6 0),(AV.ptr 6 0),(AV.bnd 67 [(AV.ptr 6 0)]),Jk,Jk,Jk] (some 21) v,L⟩ (fun st => contK Tg Zd.sp ⟨0,[],false,[]⟩ (inlK Tg Zd m 4) m Z2c (endK Tg Tryz.f20 (fun v L => viewK L 8 v some)) [.code (subc [1,1,1,1] (bodyOf Tryz.f20))] .normal st))) [.block 0])
noncomputable def Z1q (m n0 : Nat) (a0_0n : Nat) (a0_0c : Option Nat) (a0_0 : List D) (a1 : Int) (Z8i : Int) (Z9q : Nat) (Z9r : Option Nat) (Za9 : List D) (Z80 : Nat) (Z8s : Option Nat) (Zf3 : List D) (Zif : Nat) (Zno : List D) (Zso : Nat) (Zns : List D) (Zun : Nat) (Z10n : List D) (Z10o : Nat) (Z10p : Option Nat) (Z10q : List D) (Zyx : Int) (Zyy : Nat) (Z10r : Nat) (Z10s : Nat) (Z136 : Nat) (Z1eq : Nat) (Z1er : Nat) : Option D :=
 cutK m (codeK Tg Zd.sp ⟨7,[2,3,4,5],true,[]⟩ (inlK Tg Zd m 3) m Z32 (subc [1,0,0,1,1] (bodyOf Tryz.f66)) ⟨[(AV.ptr 6 0),(AV.bnd 67 [(AV.ptr 6 0)]),Jk,Jk,(AV.d (D.v (.int .i64 Z8i))),Jk,Jk,Jk,Jk,Jk,Jk,Jk,Jk,Jk,Jk,Jk,Jk,Jk,Jk,Jk,Jk],[(Blk.d 1 [(D.list Z9q Z9r Za9)]),(Blk.d 1 [(D.list 0 (some 0) [])]),(Blk.d 1 [(D.list Z80 Z8s Zf3)]),(Blk.d Zif Zno),(Blk.d Zso Zns),(Blk.d Zun Z10n),(Blk.a 5 [(AV.d (D.list Z10o Z10p Z10q)),(AV.d (D.v (.int .i64 Zyx))),(AV.sl 3 0 Zyy (some Z10r) 1),(AV.sl 4 0 Z10s (some Z136) 1),(AV.sl 5 0 Z1eq (some Z1er) 1)])]⟩
  (contK Tg Zd.sp ⟨7,[2,3,4,5],true,[]⟩ (inlK Tg Zd m 3) m Z32 (endK Tg Tryz.f66 (fun v L => opsK Tg Zd.sp ⟨0,[],false,[]⟩ [] (inlK Tg Zd m 4) (regOps (subc [1,1,1,0] (bodyOf Tryz.f20))) (List.drop 4 (Array.toList (regOps (subc [1,1,1,0] (bodyOf Tryz.f20))))) ⟨setSl [(AV.d (D.agg [(D.list a0_0n a0_0c a0_0)])),(AV.d (D.v (.int .i64 a1))),(AV.ptr 0 0),Jk,(AV.ptr 1 0),(AV.d zI),(AV.ptr 6 0),(AV.d zI),(AV.tup [(AV.ptr 6 0),(AV.d zI)]),(AV.d (D.agg [(D.list a0_0n a0_0c a0_0)])),(AV.d (D.v (.int .i64 a1))),(AV.tup [(AV.ptr 6 0),(AV.d zI)]),(AV.ptr 6 0),(AV.d zI),(AV.d zI),(AV.d (D.v (.bool false))),Jk,Jk,(AV.ptr 6 0),(AV.ptr 6 0),(AV.bnd 67 [(AV.ptr 6 0)]),Jk,Jk,Jk] (some 21) v,L⟩ (fun st => contK Tg Zd.sp ⟨0,[],false,[]⟩ (inlK Tg Zd m 4) m Z2c (endK Tg Tryz.f20 (fun v L => viewK L 8 v some)) [.code (subc [1,1,1,1] (bodyOf Tryz.f20))] .normal st))) [.loop (bm 19 21) 7 (subc [1,0,0] (bodyOf Tryz.f66)) n0,.block 0]))
theorem Zhr (m n0 : Nat) (a0_0n : Nat) (a0_0c : Option Nat) (a0_0 : List D) (a1 : Int) (Z8i : Int) (Z9q : Nat) (Z9r : Option Nat) (Za9 : List D) (Z80 : Nat) (Z8s : Option Nat) (Zf3 : List D) (Zif : Nat) (Zno : List D) (Zso : Nat) (Zns : List D) (Zun : Nat) (Z10n : List D) (Z10o : Nat) (Z10p : Option Nat) (Z10q : List D) (Zyx : Int) (Zyy : Nat) (Z10r : Nat) (Z10s : Nat) (Z136 : Nat) (Z1eq : Nat) (Z1er : Nat) : Z1q m n0 a0_0n a0_0c a0_0 a1 Z8i Z9q Z9r Za9 Z80 Z8s Zf3 Zif Zno Zso Zns Zun Z10n Z10o Z10p Z10q Zyx Zyy Z10r Z10s Z136 Z1eq Z1er =
 (Z33 m n0 a0_0n a0_0c a0_0 a1 (IntKind.wrap .i64 (Z8i - (1 : Int))) Z9q Z9r Za9 Z80 Z8s Zf3 Zif Zno Zso Zns Zun Z10n Z10o Z10p Z10q Zyx Zyy Z10r Z10s Z136 Z1eq Z1er) := (Z1t m _).trans (by kernel_rfl)
noncomputable def Z28 (m n0 : Nat) (a0_0n : Nat) (a0_0c : Option Nat) (a0_0 : List D) (a1 : Int) (Zfz : Nat) (Zg0 : Nat) (Zij : Nat) (Zfi : Int) (Zz2 : Int) (Zzt : Nat) (Zzu : Option Nat) (Zzv : List D) (Zzw : Nat) (Zzx : Option Nat) (Znt : List D) (Znu : Nat) (Znv : List D) (Znw : Nat) (Znx : List D) (Zqp : Nat) (Zqq : List D) (Zla : Nat) (Zlb : Option Nat) (Zlc : List D) (Zny : Int) (Zgo : Nat) (Znz : Nat) (Zgp : Nat) (Zo0 : Nat) (Zkl : Nat) (Z15b : List D) : Option D :=
 Z15 (bm 14349 34) 7 9 (codeK Tg Zd.sp ⟨7,[2,3,4,5],true,[]⟩ (inlK Tg Zd m 3) m Z5q (subc [1,1,0,1,0,0] (bodyOf Tryz.f70))) n0 ⟨[(AV.ptr 6 0),Jk,(AV.ptr 7 0),(AV.sl 8 0 Zfz none 1),Jk,Jk,Jk,Jk,Jk,Jk,Jk,(AV.sl 5 0 Zg0 (some Zij) 1),(AV.d (D.v (.int .i64 Zfi))),(AV.d (D.v (.int .i64 Zz2))),Jk,Jk,Jk,Jk,Jk,Jk,Jk,Jk,Jk,Jk,Jk,Jk,Jk,Jk,Jk,Jk,Jk,Jk,Jk,Jk],[(Blk.d 1 [(D.list Zzt Zzu Zzv)]),(Blk.d 1 [(D.list 0 (some 0) [])]),(Blk.d 1 [(D.list Zzw Zzx Znt)]),(Blk.d Znu Znv),(Blk.d Znw Znx),(Blk.d Zqp Zqq),(Blk.a 5 [(AV.d (D.list Zla Zlb Zlc)),(AV.d (D.v (.int .i64 Zny))),(AV.sl 3 0 Zgo (some Znz) 1),(AV.sl 4 0 Zgp (some Zo0) 1),(AV.sl 5 0 Zg0 (some Zij) 1)]),(Blk.d 1 [(D.list 0 (some 0) [])]),(Blk.d Zkl Z15b)]⟩
  (contK Tg Zd.sp ⟨7,[2,3,4,5],true,[]⟩ (inlK Tg Zd m 3) m Z5q (endK Tg Tryz.f70 (fun v L => opsK Tg Zd.sp ⟨0,[],false,[]⟩ [] (inlK Tg Zd m 4) (regOps (subc [1,1,1,1,0] (bodyOf Tryz.f20))) (List.drop 2 (Array.toList (regOps (subc [1,1,1,1,0] (bodyOf Tryz.f20))))) ⟨setSl [(AV.d (D.agg [(D.list a0_0n a0_0c a0_0)])),(AV.d (D.v (.int .i64 a1))),(AV.ptr 0 0),Jk,(AV.ptr 1 0),(AV.d zI),(AV.ptr 6 0),(AV.d zI),(AV.tup [(AV.ptr 6 0),(AV.d zI)]),(AV.d (D.agg [(D.list a0_0n a0_0c a0_0)])),(AV.d (D.v (.int .i64 a1))),(AV.tup [(AV.ptr 6 0),(AV.d zI)]),(AV.ptr 6 0),(AV.d zI),(AV.d zI),(AV.d (D.v (.bool false))),Jk,Jk,(AV.ptr 6 0),(AV.ptr 6 0),(AV.bnd 67 [(AV.ptr 6 0)]),(AV.d (D.tup [])),(AV.ptr 6 0),Jk] (some 23) v,L⟩ (fun st => contK Tg Zd.sp ⟨0,[],false,[]⟩ (inlK Tg Zd m 4) m Z2c (endK Tg Tryz.f20 (fun v L => viewK L 8 v some)) [.code (subc [1,1,1,1,1] (bodyOf Tryz.f20))] .normal st))) [.block 0,.code (subc [1,1,1] (bodyOf Tryz.f70))])
theorem Zhs (m n0 : Nat) (a0_0n : Nat) (a0_0c : Option Nat) (a0_0 : List D) (a1 : Int) (Zfz : Nat) (Zg0 : Nat) (Zij : Nat) (Zfi : Int) (Zz2 : Int) (Zzt : Nat) (Zzu : Option Nat) (Zzv : List D) (Zzw : Nat) (Zzx : Option Nat) (Znt : List D) (Znu : Nat) (Znv : List D) (Znw : Nat) (Znx : List D) (Zqp : Nat) (Zqq : List D) (Zla : Nat) (Zlb : Option Nat) (Zlc : List D) (Zny : Int) (Zgo : Nat) (Znz : Nat) (Zgp : Nat) (Zo0 : Nat) (Zkl : Nat) (Z15b : List D) : Z28 m (n0 + 1) a0_0n a0_0c a0_0 a1 Zfz Zg0 Zij Zfi Zz2 Zzt Zzu Zzv Zzw Zzx Znt Znu Znv Znw Znx Zqp Zqq Zla Zlb Zlc Zny Zgo Znz Zgp Zo0 Zkl Z15b =
 (cond (decide (Zz2 < Zfi))
 (if 0 ≤ Zz2 ∧ Zz2 < (Zg0 : Int) then
 (rdB Zqq[(0 + ((Int.toNat Zz2) * 1))]?).bind fun b32 =>
 cond b32
 (if ownB ⟨7,[2,3,4,5],true,[]⟩ 8 = true ∧ Zkl = (Zfz * 1) ∧ Z1w (Zfz + 1) 8 ∧ 1 = 1 then
 Z28 m n0 a0_0n a0_0c a0_0 a1 (Zfz + 1) Zg0 Zij Zfi (IntKind.wrap .i64 (Zz2 + (1 : Int))) Zzt Zzu Zzv Zzw Zzx Znt Znu Znv Znw Znx Zqp Zqq Zla Zlb Zlc Zny Zgo Znz Zgp Zo0 ((Zfz + 1) * 1) (Z15b ++ [(D.v (.int .i64 Zz2))])
 else none)
 (Z28 m n0 a0_0n a0_0c a0_0 a1 Zfz Zg0 Zij Zfi (IntKind.wrap .i64 (Zz2 + (1 : Int))) Zzt Zzu Zzv Zzw Zzx Znt Znu Znv Znw Znx Zqp Zqq Zla Zlb Zlc Zny Zgo Znz Zgp Zo0 Zkl Z15b)
 else none)
 (if (0 + (Zfz * 1)) ≤ Zkl then
 (Z2e [(D.agg [(D.list Zla Zlb Zlc)]),(D.list Zfz none (cutL Zkl Z15b 0 (Zfz * 1)))]).bind fun d33 =>
 (rdT d33).bind fun r34 =>
 if List.length r34 = 2 then
 (rdA r34[0]?).bind fun c35 =>
 (rdI .i64 r34[1]?).bind fun x36 =>
 if (0 + (Zfz * 1)) ≤ Zkl then
 if (0 + (Zfz * 1)) ≤ Zkl then
 if (List.length c35) = 1 then
 if (List.length c35) = 1 then
 if (List.length c35) = 1 then
 some (D.tup [(D.agg c35),zI])
 else none
 else none
 else none
 else none
 else none
 else none
 else none)) := by kernel_rfl
theorem Zig (m n0 : Nat) (a0_0n : Nat) (a0_0c : Option Nat) (a0_0 : List D) (a1 : Int) (Z44 : Int) (Z7b : Nat) (Z5a : Option Nat) (Z6f : List D) (Z5b : Nat) (Z62 : Option Nat) (Z4q : List D) (Z54 : Nat) (Z5c : List D) (Z5d : Nat) (Z3n : List D) (Z3l : Nat) (Z36 : List D) (Z49 : Nat) (Z1i : Option Nat) (Z4e : List D) (Z55 : Int) (Z6g : Nat) (Z60 : Nat) (Z82 : Nat) (Z83 : Nat) (Z8l : Nat) (Z84 : Nat) : Z33 m (n0 + 1) a0_0n a0_0c a0_0 a1 Z44 Z7b Z5a Z6f Z5b Z62 Z4q Z54 Z5c Z5d Z3n Z3l Z36 Z49 Z1i Z4e Z55 Z6g Z60 Z82 Z83 Z8l Z84 =
 (cond (decide (Z44 ≥ (0 : Int)))
 (if 0 ≤ Z44 ∧ Z44 < (Z8l : Int) then
 (rdB Z36[(0 + ((Int.toNat Z44) * 1))]?).bind fun b25 =>
 cond (!b25)
 (if 0 ≤ Z44 ∧ Z44 < (Z6g : Int) then
 (rdI .i64 Z5c[(0 + ((Int.toNat Z44) * 1))]?).bind fun x26 =>
 cond (decide (x26 < Z55))
 (if 0 ≤ Z44 ∧ Z44 < (Z82 : Int) then
 (rdI .i64 Z3n[(0 + ((Int.toNat Z44) * 1))]?).bind fun x27 =>
 cond (x27 == (0 : Int))
 (if 0 ≤ Z44 ∧ Z44 < (Z8l : Int) then
 if 1 = 1 ∧ (0 + ((Int.toNat Z44) * 1)) < Z3l then
 cond (decide (Z44 > (0 : Int)))
 (if 0 ≤ Z44 ∧ Z44 < (Z49 : Int) then
 (rdI .i64 Z4e[(((Int.toNat Z44) * 20) + 0)]?).bind fun x28 =>
 if 0 ≤ x28 ∧ x28 < (Z82 : Int) then
 (rdI .i64 Z3n[(0 + ((Int.toNat x28) * 1))]?).bind fun x29 =>
 if 0 ≤ x28 ∧ x28 < (Z82 : Int) then
 if 1 = 1 ∧ (0 + ((Int.toNat x28) * 1)) < Z5d then
 Z1q m n0 a0_0n a0_0c a0_0 a1 Z44 Z7b Z5a Z6f Z5b Z62 Z4q Z54 Z5c Z5d (List.set Z3n (0 + ((Int.toNat x28) * 1)) (D.v (.int .i64 (IntKind.wrap .i64 (x29 - (1 : Int)))))) Z3l (List.set Z36 (0 + ((Int.toNat Z44) * 1)) (D.v (.bool true))) Z49 Z1i Z4e Z55 Z6g Z60 Z82 Z83 Z8l Z84
 else none
 else none
 else none
 else none)
 (Z1q m n0 a0_0n a0_0c a0_0 a1 Z44 Z7b Z5a Z6f Z5b Z62 Z4q Z54 Z5c Z5d Z3n Z3l (List.set Z36 (0 + ((Int.toNat Z44) * 1)) (D.v (.bool true))) Z49 Z1i Z4e Z55 Z6g Z60 Z82 Z83 Z8l Z84)
 else none
 else none)
 (Z1q m n0 a0_0n a0_0c a0_0 a1 Z44 Z7b Z5a Z6f Z5b Z62 Z4q Z54 Z5c Z5d Z3n Z3l Z36 Z49 Z1i Z4e Z55 Z6g Z60 Z82 Z83 Z8l Z84)
 else none)
 (Z1q m n0 a0_0n a0_0c a0_0 a1 Z44 Z7b Z5a Z6f Z5b Z62 Z4q Z54 Z5c Z5d Z3n Z3l Z36 Z49 Z1i Z4e Z55 Z6g Z60 Z82 Z83 Z8l Z84)
 else none)
 (Z1q m n0 a0_0n a0_0c a0_0 a1 Z44 Z7b Z5a Z6f Z5b Z62 Z4q Z54 Z5c Z5d Z3n Z3l Z36 Z49 Z1i Z4e Z55 Z6g Z60 Z82 Z83 Z8l Z84)
 else none)
 (Z28 m m a0_0n a0_0c a0_0 a1 0 Z8l Z84 (Z8l : Int) (0 : Int) Z7b Z5a Z6f Z5b Z62 Z4q Z54 Z5c Z5d Z3n Z3l Z36 Z49 Z1i Z4e Z55 Z6g Z60 Z82 Z83 0 [])) := by kernel_rfl
theorem Zld (m n0 : Nat) (a0_0n : Nat) (a0_0c : Option Nat) (a0_0 : List D) (a1 : Int) (Zl : Nat) (Zt : Option Nat) (Zy : List D) (Z11 : Int) (Zs : Int) (Z1b : Nat) (Z1o : Option Nat) (Z2r : List D) (Z3x : Nat) (Zfh : List D) (Z5n : List D) (Z5e : List D) (Z6a : Int) (Z2b : Nat) : Z40 m (n0 + 1) a0_0n a0_0c a0_0 a1 Zl Zt Zy Z11 Zs Z1b Z1o Z2r Z3x Zfh Z5n Z5e Z6a Z2b =
 (cond (decide (Zs < Z11))
 (if 0 ≤ Zs ∧ Zs < (Zl : Int) then
 if (((Int.toNat Zs) * 20) + 20) ≤ (List.length Zy) then
 if (List.length ((List.drop ((Int.toNat Zs) * 20) Zy).take 20)) = 20 then
 cond (decide (Zs > (0 : Int)))
 ((rdI .i64 ((List.drop ((Int.toNat Zs) * 20) Zy).take 20)[0]?).bind fun x11 =>
 if 0 ≤ x11 ∧ x11 < (Z2b : Int) then
 (rdI .i64 Zfh[(0 + ((Int.toNat x11) * 1))]?).bind fun x12 =>
 if 0 ≤ Zs ∧ Zs < (Z2b : Int) then
 if 1 = 1 ∧ (0 + ((Int.toNat Zs) * 1)) < Z3x then
 (rdI .i64 ((List.drop ((Int.toNat Zs) * 20) Zy).take 20)[0]?).bind fun x13 =>
 if 0 ≤ x13 ∧ x13 < (Z2b : Int) then
 (rdI .i64 Z5n[(0 + ((Int.toNat x13) * 1))]?).bind fun x14 =>
 if 0 ≤ x13 ∧ x13 < (Z2b : Int) then
 if 1 = 1 ∧ (0 + ((Int.toNat x13) * 1)) < Z3x then
 Z40 m n0 a0_0n a0_0c a0_0 a1 Zl Zt Zy Z11 (IntKind.wrap .i64 (Zs + (1 : Int))) Z1b Z1o Z2r Z3x (List.set Zfh (0 + ((Int.toNat Zs) * 1)) (D.v (.int .i64 (IntKind.wrap .i64 (x12 + (1 : Int)))))) (List.set Z5n (0 + ((Int.toNat x13) * 1)) (D.v (.int .i64 (IntKind.wrap .i64 (x14 + (1 : Int)))))) Z5e Z6a Z2b
 else none
 else none
 else none
 else none
 else none
 else none)
 (Z40 m n0 a0_0n a0_0c a0_0 a1 Zl Zt Zy Z11 (IntKind.wrap .i64 (Zs + (1 : Int))) Z1b Z1o Z2r Z3x Zfh Z5n Z5e Z6a Z2b)
 else none
 else none
 else none)
 (Z33 m m a0_0n a0_0c a0_0 a1 (IntKind.wrap .i64 ((Z2b : Int) - (1 : Int))) Z1b Z1o Z2r Zl Zt Zy Z3x Zfh Z3x Z5n Z3x Z5e Zl Zt Zy Z6a Z2b Z2b Z2b Z2b Z2b Z2b)) := by kernel_rfl
theorem Zkm (m : Nat) (a0_0n : Nat) (a0_0c : Option Nat) (a0_0 : List D) (a1 : Int) (Z2o : Int) (Z43 : Nat) (Z3v : Option Nat) (Z3o : List D) (Z2d : Nat) (Z6d : Option Nat) (Z7a : List D) : Zab m a0_0n a0_0c a0_0 a1 Z2o Z43 Z3v Z3o Z2d Z6d Z7a =
 (if 0 ≤ (Z2d : Int) ∧ (Z2d : Int) ≤ (Z2d : Int) ∧ Z1w (Int.toNat (Z2d : Int)) 8 then
 if 0 ≤ (Z2d : Int) ∧ (Z2d : Int) ≤ (Z2d : Int) ∧ Z1w (Int.toNat (Z2d : Int)) 8 then
 if 0 ≤ (Z2d : Int) ∧ (Z2d : Int) ≤ (Z2d : Int) ∧ Z1w (Int.toNat (Z2d : Int)) 1 then
 Z40 m m a0_0n a0_0c a0_0 a1 Z2d Z6d Z7a (Z2d : Int) (0 : Int) Z43 Z3v Z3o ((Int.toNat (Z2d : Int)) * 1) (List.flatten (List.replicate (Int.toNat (Z2d : Int)) [zI])) (List.flatten (List.replicate (Int.toNat (Z2d : Int)) [zI])) (List.flatten (List.replicate (Int.toNat (Z2d : Int)) [(D.v (.bool false))])) Z2o (Int.toNat (Z2d : Int))
 else none
 else none
 else none) := (Z1t m _).trans (by kernel_rfl)
noncomputable def Zly (m : Nat) (a0_0n : Nat) (a0_0c : Option Nat) (a0_0 : List D) (a1 : Int) : Option D :=
 (Z2y [(D.agg [(D.list a0_0n a0_0c a0_0)])]).bind fun d1 =>
 (rdI .i64 (some d1)).bind fun x2 =>
 cond (x2 != (0 : Int))
 (cond (x2 != (0 : Int))
 (some (D.tup [(D.agg [(D.list 0 (some 0) [])]),(D.v (.int .i64 x2))]))
 (none))
 (cond (decide (a1 < (0 : Int)))
 (some (D.tup [(D.agg [(D.list 0 (some 0) [])]),(D.v (.int .i64 (1 : Int)))]))
 (cond (decide (a1 > (64 : Int)))
 (some (D.tup [(D.agg [(D.list 0 (some 0) [])]),(D.v (.int .i64 (1 : Int)))]))
 (Zab m a0_0n a0_0c a0_0 a1 a1 a0_0n a0_0c a0_0 a0_0n a0_0c a0_0)))
theorem Z15c (m : Nat) (a0_0n : Nat) (a0_0c : Option Nat) (a0_0 : List D) (a1 : Int) : funD Tg Zd m 4 Z2c Tryz.f20 [(D.agg [(D.list a0_0n a0_0c a0_0)]),(D.v (.int .i64 a1))] = Zly m a0_0n a0_0c a0_0 a1 := by kernel_rfl
theorem Z1a6 : Enters Tg 20 := ⟨Tryz.f20,Tryz.func20,by kernel_rfl,by kernel_rfl⟩
theorem Z1a7 {ds : List D} {d : D} (h : funD Tg Zd M 4 Z2c Tryz.f20 ds = some d) : DataSem Tg 20 ds d := Z8 (H := Zd) (SpOk.cons Zqe (SpOk.cons Zbl SpOk.nil)) mixed (InlOk.cons Tryz.func64 Zdq (InlOk.cons Tryz.func66 Zqw (InlOk.cons Tryz.func67 Z8a (InlOk.cons Tryz.func70 Zh5 (InlOk.cons Tryz.func71 Z57 InlOk.nil))))) Tryz.func20 Z1a6 h
noncomputable def Zr : List D → Option D
  | [.agg [.list a0_0n a0_0c a0_0],.v (.int .i64 a1)] => Zly M a0_0n a0_0c a0_0 a1
  | _ => none
theorem Zqg : ∀ ds d,Zr ds = some d → DataSem Tg 20 ds d := by
  intro ds d h
  unfold Zr at h
  split at h
  · exact Z1a7 ((Z15c M _ _ _ _).trans h)
  · cases h

def Zo : FnH := ⟨[(100000,⟨(bm 2628 57),[],(some 7)⟩)],[]⟩
def Z3g : FnH := ⟨[(9,⟨(bm 481036337408 72),[],(some 5)⟩)],[(6,⟨(bm 6 72),[],(some 1)⟩)]⟩
def Z2k : FnH := ⟨[(3,⟨(bm 1545 23),[(3,1)],(some 1)⟩)],[]⟩
def Zg1 : FnH := ⟨[],[]⟩
def Z2l : FnH := ⟨[(3,⟨(bm 14349 34),[(3,1)],(some 2)⟩)],[]⟩
def Zdp : FnH := ⟨[],[]⟩
noncomputable def Z3 : Hints := ⟨[(50,Z2e),(60,Z2y),(69,Z3y)],[(64,Tryz.f64,Z3g),(65,Tryz.f65,Z2k),(67,Tryz.f67,Zg1),(70,Tryz.f70,Z2l),(71,Tryz.f71,Zdp)],[]⟩
noncomputable def Z8u (m : Nat) (a0_0n : Nat) (a0_0c : Option Nat) (a0_0 : List D) (a1 : Int) (a2n : Nat) (a2c : Option Nat) (a2 : List D) (Z2o : Int) (Z43 : Nat) (Z3v : Option Nat) (Z3o : List D) (Z2d : Nat) (Z6d : Option Nat) (Z7a : List D) : Option D :=
 cutK m (codeK Tg Z3.sp ⟨2,[],true,[]⟩ (inlK Tg Z3 m 3) m Z3g (subc [1,1,1] (bodyOf Tryz.f64)) ⟨[Jk,(AV.d (D.v (.int .i64 Z2o))),(AV.ptr 2 0),Jk,Jk,Jk,Jk,Jk,Jk,Jk,Jk,Jk,Jk,Jk,Jk,Jk,Jk,Jk,Jk,Jk,Jk,Jk,Jk,Jk,Jk,Jk,Jk,Jk,Jk,Jk,Jk,Jk,Jk,Jk,Jk,Jk,Jk,Jk,Jk,Jk,Jk,Jk,Jk,Jk,Jk,Jk,Jk,Jk,Jk,Jk,Jk,Jk,Jk,Jk,Jk,Jk,Jk,Jk,Jk,Jk,Jk,Jk,Jk,Jk,Jk,Jk,Jk,Jk,Jk,Jk,Jk,Jk],[(Blk.d 1 [(D.list Z43 Z3v Z3o)]),(Blk.d 1 [(D.list 0 (some 0) [])]),(Blk.d 1 [(D.list Z2d Z6d Z7a)])]⟩
  (contK Tg Z3.sp ⟨2,[],true,[]⟩ (inlK Tg Z3 m 3) m Z3g (endK Tg Tryz.f64 (fun v L => opsK Tg Z3.sp ⟨0,[],false,[]⟩ [] (inlK Tg Z3 m 4) (regOps (subc [1,0,0] (bodyOf Tryz.f21))) (List.drop 3 (Array.toList (regOps (subc [1,0,0] (bodyOf Tryz.f21))))) ⟨setSl [(AV.d (D.agg [(D.list a0_0n a0_0c a0_0)])),(AV.d (D.v (.int .i64 a1))),(AV.d (D.list a2n a2c a2)),(AV.ptr 0 0),Jk,Jk,(AV.ptr 1 0),(AV.d zI),(AV.d zI),Jk,Jk,Jk,Jk,Jk,Jk,(AV.d (D.agg [(D.list a0_0n a0_0c a0_0)])),(AV.d (D.v (.int .i64 a1))),Jk,Jk,Jk,Jk,Jk,Jk,Jk,Jk,Jk,Jk,Jk,Jk,Jk,Jk,Jk,Jk,Jk,Jk,Jk,Jk,Jk,Jk,Jk,Jk,Jk,Jk,Jk,Jk,Jk,Jk,Jk,Jk,Jk,Jk,Jk,Jk,Jk,Jk,Jk,Jk] (some 17) v,L⟩ (fun st => contK Tg Z3.sp ⟨0,[],false,[]⟩ (inlK Tg Z3 m 4) m Zo (endK Tg Tryz.f21 (fun v L => viewK L 8 v some)) [.code (subc [1,0,1] (bodyOf Tryz.f21)),.scope (subc [1,0] (bodyOf Tryz.f21)) m] .normal st))) []))
noncomputable def Z3h (m n0 : Nat) (a0_0n : Nat) (a0_0c : Option Nat) (a0_0 : List D) (a1 : Int) (a2n : Nat) (a2c : Option Nat) (a2 : List D) (Zl : Nat) (Zt : Option Nat) (Zy : List D) (Z11 : Int) (Zs : Int) (Z1b : Nat) (Z1o : Option Nat) (Z2r : List D) (Z3x : Nat) (Zfh : List D) (Z5n : List D) (Z5e : List D) (Z6a : Int) (Z2b : Nat) : Option D :=
 Z15 (bm 481036337408 72) 2 7 (codeK Tg Z3.sp ⟨2,[],true,[]⟩ (inlK Tg Z3 m 3) m Z3g (subc [1,1,1,1,1,0,1,0,0] (bodyOf Tryz.f64))) n0 ⟨[Jk,Jk,Jk,Jk,Jk,Jk,Jk,Jk,(AV.ptr 6 0),Jk,Jk,Jk,Jk,Jk,Jk,Jk,Jk,Jk,Jk,Jk,Jk,Jk,Jk,Jk,Jk,Jk,Jk,Jk,Jk,Jk,Jk,Jk,Jk,Jk,Jk,Jk,(AV.d (D.list Zl Zt Zy)),(AV.d (D.v (.int .i64 Z11))),(AV.d (D.v (.int .i64 Zs))),Jk,Jk,Jk,Jk,Jk,Jk,Jk,Jk,Jk,Jk,Jk,Jk,Jk,Jk,Jk,Jk,Jk,Jk,Jk,Jk,Jk,Jk,Jk,Jk,Jk,Jk,Jk,Jk,Jk,Jk,Jk,Jk,Jk],[(Blk.d 1 [(D.list Z1b Z1o Z2r)]),(Blk.d 1 [(D.list 0 (some 0) [])]),(Blk.d 1 [(D.list Zl Zt Zy)]),(Blk.d Z3x Zfh),(Blk.d Z3x Z5n),(Blk.d Z3x Z5e),(Blk.a 5 [(AV.d (D.list Zl Zt Zy)),(AV.d (D.v (.int .i64 Z6a))),(AV.sl 3 0 Z2b (some Z2b) 1),(AV.sl 4 0 Z2b (some Z2b) 1),(AV.sl 5 0 Z2b (some Z2b) 1)])]⟩
  (contK Tg Z3.sp ⟨2,[],true,[]⟩ (inlK Tg Z3 m 3) m Z3g (endK Tg Tryz.f64 (fun v L => opsK Tg Z3.sp ⟨0,[],false,[]⟩ [] (inlK Tg Z3 m 4) (regOps (subc [1,0,0] (bodyOf Tryz.f21))) (List.drop 3 (Array.toList (regOps (subc [1,0,0] (bodyOf Tryz.f21))))) ⟨setSl [(AV.d (D.agg [(D.list a0_0n a0_0c a0_0)])),(AV.d (D.v (.int .i64 a1))),(AV.d (D.list a2n a2c a2)),(AV.ptr 0 0),Jk,Jk,(AV.ptr 1 0),(AV.d zI),(AV.d zI),Jk,Jk,Jk,Jk,Jk,Jk,(AV.d (D.agg [(D.list a0_0n a0_0c a0_0)])),(AV.d (D.v (.int .i64 a1))),Jk,Jk,Jk,Jk,Jk,Jk,Jk,Jk,Jk,Jk,Jk,Jk,Jk,Jk,Jk,Jk,Jk,Jk,Jk,Jk,Jk,Jk,Jk,Jk,Jk,Jk,Jk,Jk,Jk,Jk,Jk,Jk,Jk,Jk,Jk,Jk,Jk,Jk,Jk,Jk] (some 17) v,L⟩ (fun st => contK Tg Z3.sp ⟨0,[],false,[]⟩ (inlK Tg Z3 m 4) m Zo (endK Tg Tryz.f21 (fun v L => viewK L 8 v some)) [.code (subc [1,0,1] (bodyOf Tryz.f21)),.scope (subc [1,0] (bodyOf Tryz.f21)) m] .normal st))) [.block 0,.code (subc [1,1,1,1,1,1] (bodyOf Tryz.f64))])
noncomputable def Z10 (m n0 : Nat) (a0_0n : Nat) (a0_0c : Option Nat) (a0_0 : List D) (a1 : Int) (a2n : Nat) (a2c : Option Nat) (a2 : List D) (Z44 : Nat) (Z7b : Int) (Z5a : Int) (Z6f : Nat) (Z5b : Option Nat) (Z62 : List D) (Z4q : Nat) (Z54 : Option Nat) (Z5c : List D) (Z5d : Nat) (Z3n : List D) (Z3l : List D) (Z36 : List D) (Z49 : Int) (Z1i : Nat) (Z4e : Nat) (Z55 : List D) : Option D :=
 Z15 (bm 1545 23) 7 8 (codeK Tg Z3.sp ⟨7,[2,3,4,5],true,[]⟩ (inlK Tg Z3 m 3) m Z2k (subc [1,1,0,1,0,0] (bodyOf Tryz.f65))) n0 ⟨[(AV.ptr 6 0),Jk,Jk,(AV.sl 7 0 Z44 none 1),Jk,Jk,Jk,Jk,Jk,(AV.d (D.v (.int .i64 Z7b))),(AV.d (D.v (.int .i64 Z5a))),Jk,Jk,Jk,Jk,Jk,Jk,Jk,Jk,Jk,Jk,Jk,Jk],[(Blk.d 1 [(D.list Z6f Z5b Z62)]),(Blk.d 1 [(D.list 0 (some 0) [])]),(Blk.d 1 [(D.list Z4q Z54 Z5c)]),(Blk.d Z5d Z3n),(Blk.d Z5d Z3l),(Blk.d Z5d Z36),(Blk.a 5 [(AV.d (D.list Z4q Z54 Z5c)),(AV.d (D.v (.int .i64 Z49))),(AV.sl 3 0 Z1i (some Z1i) 1),(AV.sl 4 0 Z1i (some Z1i) 1),(AV.sl 5 0 Z1i (some Z1i) 1)]),(Blk.d Z4e Z55)]⟩
  (contK Tg Z3.sp ⟨7,[2,3,4,5],true,[]⟩ (inlK Tg Z3 m 3) m Z2k (endK Tg Tryz.f65 (fun v L => opsK Tg Z3.sp ⟨0,[],false,[]⟩ [] (inlK Tg Z3 m 4) (regOps (subc [1,0,1,1,1,1,0] (bodyOf Tryz.f21))) (List.drop 2 (Array.toList (regOps (subc [1,0,1,1,1,1,0] (bodyOf Tryz.f21))))) ⟨setSl [(AV.d (D.agg [(D.list a0_0n a0_0c a0_0)])),(AV.d (D.v (.int .i64 a1))),(AV.d (D.list a2n a2c a2)),(AV.ptr 0 0),Jk,Jk,(AV.ptr 1 0),(AV.d zI),(AV.d zI),(AV.ptr 6 0),(AV.d zI),(AV.d zI),Jk,Jk,(AV.tup [(AV.ptr 6 0),(AV.d zI)]),(AV.d (D.agg [(D.list a0_0n a0_0c a0_0)])),(AV.d (D.v (.int .i64 a1))),(AV.tup [(AV.ptr 6 0),(AV.d zI)]),(AV.ptr 6 0),(AV.d zI),(AV.d zI),(AV.d (D.v (.bool false))),Jk,Jk,(AV.ptr 6 0),Jk,Jk,Jk,Jk,Jk,Jk,Jk,Jk,Jk,Jk,Jk,Jk,Jk,Jk,Jk,Jk,Jk,Jk,Jk,Jk,Jk,Jk,Jk,Jk,Jk,Jk,Jk,Jk,Jk,Jk,Jk,Jk] (some 25) v,L⟩ (fun st => contK Tg Z3.sp ⟨0,[],false,[]⟩ (inlK Tg Z3 m 4) m Zo (endK Tg Tryz.f21 (fun v L => viewK L 8 v some)) [.code (subc [1,0,1,1,1,1,1] (bodyOf Tryz.f21)),.scope (subc [1,0] (bodyOf Tryz.f21)) m] .normal st))) [.block 0,.code (subc [1,1,1] (bodyOf Tryz.f65))])
noncomputable def Z6 (m n0 : Nat) (Zfz : Nat) (Zg0 : Option Nat) (Zij : List D) (Zfi : Int) (Zz2 : Nat) (Zzt : Option Nat) (Zzu : List D) (Zzv : Nat) (Zzw : Option Nat) (Zzx : List D) (Znt : Nat) (Znu : List D) (Znv : Nat) (Znw : List D) (Znx : Nat) (Zqp : List D) (Zqq : Nat) (Zla : Option Nat) (Zlb : List D) (Zlc : Int) (Zny : Nat) (Zgo : Nat) (Znz : Nat) (Zgp : Nat) (Zo0 : Nat) (Zkl : Nat) : Option D :=
 Z18b ⟨0,[],false,[]⟩ Zo (subc [1,0] (bodyOf Tryz.f21)) (fun l => codeF Tg Z3.sp ⟨0,[],false,[]⟩ (inlK Tg Z3 m 4) m Zo (subc [1,0] (bodyOf Tryz.f21)) (some l)) (contK Tg Z3.sp ⟨0,[],false,[]⟩ (inlK Tg Z3 m 4) m Zo (endK Tg Tryz.f21 (fun v L => viewK L 8 v some)) []) n0 0 ⟨[Jk,Jk,(AV.d (D.list Zfz Zg0 Zij)),Jk,Jk,Jk,(AV.ptr 1 0),Jk,Jk,(AV.ptr 6 0),Jk,(AV.d (D.v (.int .i64 Zfi))),Jk,Jk,Jk,Jk,Jk,Jk,Jk,Jk,Jk,Jk,Jk,Jk,Jk,Jk,Jk,Jk,Jk,Jk,Jk,Jk,Jk,Jk,Jk,Jk,Jk,Jk,Jk,Jk,Jk,Jk,Jk,Jk,Jk,Jk,Jk,Jk,Jk,Jk,Jk,Jk,Jk,Jk,Jk,Jk,Jk],[(Blk.d 1 [(D.list Zz2 Zzt Zzu)]),(Blk.d 1 [(D.list 0 (some 0) [])]),(Blk.d 1 [(D.list Zzv Zzw Zzx)]),(Blk.d Znt Znu),(Blk.d Znv Znw),(Blk.d Znx Zqp),(Blk.a 5 [(AV.d (D.list Zqq Zla Zlb)),(AV.d (D.v (.int .i64 Zlc))),(AV.sl 3 0 Zny (some Zgo) 1),(AV.sl 4 0 Znz (some Zgp) 1),(AV.sl 5 0 Zo0 (some Zkl) 1)])]⟩
noncomputable def Z1a (m n0 n1 : Nat) (Zfz : Nat) (Zg0 : Option Nat) (Zij : List D) (Zfi : Int) (Z1id : Nat) (Z1nx : Int) (Z1ft : Int) (Z17a : Nat) (Z17b : Option Nat) (Z17c : List D) (Z17d : Nat) (Z17e : Option Nat) (Z17f : List D) (Z1ja : Nat) (Z113 : List D) (Zxw : Nat) (Zw3 : List D) (Zxx : Nat) (Z114 : List D) (Zht : Nat) (Zo1 : Option Nat) (Zhu : List D) (Z115 : Int) (Z116 : Nat) (Zo2 : Nat) (Zsj : Nat) (Zo3 : Nat) (Zup : Nat) (Zo4 : Nat) (Z1a8 : Nat) (Z1h6 : List D) : Option D :=
 Z15 (bm 1545 23) 7 8 (codeK Tg Z3.sp ⟨7,[0,2,3,4,5],true,[]⟩ (inlK Tg Z3 m 3) m Z2k (subc [1,1,0,1,0,0] (bodyOf Tryz.f65))) n1 ⟨[(AV.ptr 6 0),Jk,Jk,(AV.sl 7 0 Z1id none 1),Jk,Jk,Jk,Jk,Jk,(AV.d (D.v (.int .i64 Z1nx))),(AV.d (D.v (.int .i64 Z1ft))),Jk,Jk,Jk,Jk,Jk,Jk,Jk,Jk,Jk,Jk,Jk,Jk],[(Blk.d 1 [(D.list Z17a Z17b Z17c)]),(Blk.d 1 [(D.list 0 (some 0) [])]),(Blk.d 1 [(D.list Z17d Z17e Z17f)]),(Blk.d Z1ja Z113),(Blk.d Zxw Zw3),(Blk.d Zxx Z114),(Blk.a 5 [(AV.d (D.list Zht Zo1 Zhu)),(AV.d (D.v (.int .i64 Z115))),(AV.sl 3 0 Z116 (some Zo2) 1),(AV.sl 4 0 Zsj (some Zo3) 1),(AV.sl 5 0 Zup (some Zo4) 1)]),(Blk.d Z1a8 Z1h6)]⟩
  (contK Tg Z3.sp ⟨7,[0,2,3,4,5],true,[]⟩ (inlK Tg Z3 m 3) m Z2k (endK Tg Tryz.f65 (fun v L => opsK Tg Z3.sp ⟨0,[],false,[]⟩ [] (inlK Tg Z3 m 4) (regOps (subc [1,0,1,1,1,1,0] (bodyOf Tryz.f21))) (List.drop 2 (Array.toList (regOps (subc [1,0,1,1,1,1,0] (bodyOf Tryz.f21))))) ⟨setSl [Jk,Jk,(AV.d (D.list Zfz Zg0 Zij)),Jk,Jk,Jk,(AV.ptr 1 0),Jk,Jk,(AV.ptr 6 0),Jk,(AV.d (D.v (.int .i64 Zfi))),Jk,Jk,Jk,Jk,Jk,Jk,Jk,Jk,Jk,Jk,Jk,Jk,(AV.ptr 6 0),Jk,Jk,Jk,Jk,Jk,Jk,Jk,Jk,Jk,Jk,Jk,Jk,Jk,Jk,Jk,Jk,Jk,Jk,Jk,Jk,Jk,Jk,Jk,Jk,Jk,Jk,Jk,Jk,Jk,Jk,Jk,Jk] (some 25) v,L⟩ (fun st => contK Tg Z3.sp ⟨0,[],false,[]⟩ (inlK Tg Z3 m 4) m Zo (endK Tg Tryz.f21 (fun v L => viewK L 8 v some)) [.code (subc [1,0,1,1,1,1,1] (bodyOf Tryz.f21)),.scope (subc [1,0] (bodyOf Tryz.f21)) n0] .normal st))) [.block 0,.code (subc [1,1,1] (bodyOf Tryz.f65))])
noncomputable def Z1x (m n0 n1 : Nat) (Zfz : Nat) (Zg0 : Option Nat) (Zij : List D) (Zfi : Int) (q96 : Sl) (Z1kd : Nat) (Z1ob : Nat) (Z1mb : Nat) (Z1op : Int) (Z1mc : Int) (Z1na : Nat) (Z1nb : Option Nat) (Z1nc : List D) (Z1nd : Nat) (Z1ne : Option Nat) (Z1es : List D) (Z1et : Nat) (Z1eu : List D) (Z1ev : Nat) (Z1ew : List D) (Z1ex : Nat) (Z1ke : List D) (Z1a9 : Nat) (Z1aa : Option Nat) (Z1ab : List D) (Z1ey : Int) (Z1ez : Nat) (Z1f0 : Nat) (Z1f1 : Nat) (Z1f2 : Nat) (Z1f3 : Nat) (Z1kf : List D) : Option D :=
 Z15 (bm 14349 34) 8 10 (codeK Tg Z3.sp ⟨8,[0,2,3,4,5],true,[]⟩ (inlK Tg Z3 m 3) m Z2l (subc [1,1,0,1,0,0] (bodyOf Tryz.f70))) n1 ⟨[(AV.ptr 6 0),Jk,(AV.ptr 8 0),(AV.sl 9 0 Z1kd none 1),Jk,Jk,Jk,Jk,Jk,Jk,Jk,(AV.sl 5 0 Z1ob (some Z1mb) 1),(AV.d (D.v (.int .i64 Z1op))),(AV.d (D.v (.int .i64 Z1mc))),Jk,Jk,Jk,Jk,Jk,Jk,Jk,Jk,Jk,Jk,Jk,Jk,Jk,Jk,Jk,Jk,Jk,Jk,Jk,Jk],[(Blk.d 1 [(D.list Z1na Z1nb Z1nc)]),(Blk.d 1 [(D.list 0 (some 0) [])]),(Blk.d 1 [(D.list Z1nd Z1ne Z1es)]),(Blk.d Z1et Z1eu),(Blk.d Z1ev Z1ew),(Blk.d Z1ex Z1ke),(Blk.a 5 [(AV.d (D.list Z1a9 Z1aa Z1ab)),(AV.d (D.v (.int .i64 Z1ey))),(AV.sl 3 0 Z1ez (some Z1f0) 1),(AV.sl 4 0 Z1f1 (some Z1f2) 1),(AV.sl 5 0 Z1ob (some Z1mb) 1)]),Blk.dead,(Blk.d 1 [(D.list 0 (some 0) [])]),(Blk.d Z1f3 Z1kf)]⟩
  (contK Tg Z3.sp ⟨8,[0,2,3,4,5],true,[]⟩ (inlK Tg Z3 m 3) m Z2l (endK Tg Tryz.f70 (fun v L => opsK Tg Z3.sp ⟨0,[],false,[]⟩ [] (inlK Tg Z3 m 4) (regOps (subc [1,0,1,1,1,1,1,1,0] (bodyOf Tryz.f21))) (List.drop 2 (Array.toList (regOps (subc [1,0,1,1,1,1,1,1,0] (bodyOf Tryz.f21))))) ⟨setSl [Jk,Jk,(AV.d (D.list Zfz Zg0 Zij)),Jk,Jk,Jk,(AV.ptr 1 0),Jk,Jk,(AV.ptr 6 0),Jk,(AV.d (D.v (.int .i64 Zfi))),(AV.d (D.list q96.n q96.cap q96.cs)),Jk,Jk,Jk,Jk,Jk,Jk,Jk,Jk,Jk,Jk,Jk,(AV.ptr 6 0),(AV.d (D.list q96.n q96.cap q96.cs)),(AV.d (D.list q96.n q96.cap q96.cs)),(AV.d (D.v (.int .i64 (q96.n : Int)))),(AV.d (D.v (.bool false))),Jk,Jk,Jk,Jk,Jk,Jk,Jk,Jk,Jk,Jk,Jk,Jk,Jk,Jk,Jk,Jk,Jk,Jk,Jk,Jk,Jk,Jk,Jk,Jk,Jk,(AV.ptr 6 0),Jk,Jk] (some 55) v,L⟩ (fun st => contK Tg Z3.sp ⟨0,[],false,[]⟩ (inlK Tg Z3 m 4) m Zo (endK Tg Tryz.f21 (fun v L => viewK L 8 v some)) [.code (subc [1,0,1,1,1,1,1,1,1] (bodyOf Tryz.f21)),.scope (subc [1,0] (bodyOf Tryz.f21)) n0] .normal st))) [.block 0,.code (subc [1,1,1] (bodyOf Tryz.f70))])
theorem Zg2 (m n0 n1 : Nat) (Zfz : Nat) (Zg0 : Option Nat) (Zij : List D) (Zfi : Int) (q96 : Sl) (Z1kd : Nat) (Z1ob : Nat) (Z1mb : Nat) (Z1op : Int) (Z1mc : Int) (Z1na : Nat) (Z1nb : Option Nat) (Z1nc : List D) (Z1nd : Nat) (Z1ne : Option Nat) (Z1es : List D) (Z1et : Nat) (Z1eu : List D) (Z1ev : Nat) (Z1ew : List D) (Z1ex : Nat) (Z1ke : List D) (Z1a9 : Nat) (Z1aa : Option Nat) (Z1ab : List D) (Z1ey : Int) (Z1ez : Nat) (Z1f0 : Nat) (Z1f1 : Nat) (Z1f2 : Nat) (Z1f3 : Nat) (Z1kf : List D) : Z1x m n0 (n1 + 1) Zfz Zg0 Zij Zfi q96 Z1kd Z1ob Z1mb Z1op Z1mc Z1na Z1nb Z1nc Z1nd Z1ne Z1es Z1et Z1eu Z1ev Z1ew Z1ex Z1ke Z1a9 Z1aa Z1ab Z1ey Z1ez Z1f0 Z1f1 Z1f2 Z1f3 Z1kf =
 (cond (decide (Z1mc < Z1op))
 (if 0 ≤ Z1mc ∧ Z1mc < (Z1ob : Int) then
 (rdB Z1ke[(0 + ((Int.toNat Z1mc) * 1))]?).bind fun b109 =>
 cond b109
 (if ownB ⟨8,[0,2,3,4,5],true,[]⟩ 9 = true ∧ Z1f3 = (Z1kd * 1) ∧ Z1w (Z1kd + 1) 8 ∧ 1 = 1 then
 Z1x m n0 n1 Zfz Zg0 Zij Zfi q96 (Z1kd + 1) Z1ob Z1mb Z1op (IntKind.wrap .i64 (Z1mc + (1 : Int))) Z1na Z1nb Z1nc Z1nd Z1ne Z1es Z1et Z1eu Z1ev Z1ew Z1ex Z1ke Z1a9 Z1aa Z1ab Z1ey Z1ez Z1f0 Z1f1 Z1f2 ((Z1kd + 1) * 1) (Z1kf ++ [(D.v (.int .i64 Z1mc))])
 else none)
 (Z1x m n0 n1 Zfz Zg0 Zij Zfi q96 Z1kd Z1ob Z1mb Z1op (IntKind.wrap .i64 (Z1mc + (1 : Int))) Z1na Z1nb Z1nc Z1nd Z1ne Z1es Z1et Z1eu Z1ev Z1ew Z1ex Z1ke Z1a9 Z1aa Z1ab Z1ey Z1ez Z1f0 Z1f1 Z1f2 Z1f3 Z1kf)
 else none)
 (if (0 + (Z1kd * 1)) ≤ Z1f3 then
 (Z2e [(D.agg [(D.list Z1a9 Z1aa Z1ab)]),(D.list Z1kd none (cutL Z1f3 Z1kf 0 (Z1kd * 1)))]).bind fun d110 =>
 (rdT d110).bind fun r111 =>
 if List.length r111 = 2 then
 (rdA r111[0]?).bind fun c112 =>
 (rdI .i64 r111[1]?).bind fun x113 =>
 if (0 + (Z1kd * 1)) ≤ Z1f3 then
 if (0 + (Z1kd * 1)) ≤ Z1f3 then
 if (List.length c112) = 1 then
 if (List.length c112) = 1 then
 if (List.length c112) = 1 then
 some (D.tup [(D.agg c112),(D.v (.int .i64 Zfi)),zI])
 else none
 else none
 else none
 else none
 else none
 else none
 else none)) := by kernel_rfl
theorem Zeg (m n0 n1 : Nat) (Zfz : Nat) (Zg0 : Option Nat) (Zij : List D) (Zfi : Int) (Z1id : Nat) (Z1nx : Int) (Z1ft : Int) (Z17a : Nat) (Z17b : Option Nat) (Z17c : List D) (Z17d : Nat) (Z17e : Option Nat) (Z17f : List D) (Z1ja : Nat) (Z113 : List D) (Zxw : Nat) (Zw3 : List D) (Zxx : Nat) (Z114 : List D) (Zht : Nat) (Zo1 : Option Nat) (Zhu : List D) (Z115 : Int) (Z116 : Nat) (Zo2 : Nat) (Zsj : Nat) (Zo3 : Nat) (Zup : Nat) (Zo4 : Nat) (Z1a8 : Nat) (Z1h6 : List D) : Z1a m n0 (n1 + 1) Zfz Zg0 Zij Zfi Z1id Z1nx Z1ft Z17a Z17b Z17c Z17d Z17e Z17f Z1ja Z113 Zxw Zw3 Zxx Z114 Zht Zo1 Zhu Z115 Z116 Zo2 Zsj Zo3 Zup Zo4 Z1a8 Z1h6 =
 (cond (decide (Z1ft < Z1nx))
 (if 0 ≤ Z1ft ∧ Z1ft < (Zup : Int) then
 (rdB Z114[(0 + ((Int.toNat Z1ft) * 1))]?).bind fun b92 =>
 cond (!b92)
 (if 0 ≤ Z1ft ∧ Z1ft < (Z116 : Int) then
 (rdI .i64 Z113[(0 + ((Int.toNat Z1ft) * 1))]?).bind fun x93 =>
 cond (decide (x93 < Z115))
 (if 0 ≤ Z1ft ∧ Z1ft < (Zsj : Int) then
 (rdI .i64 Zw3[(0 + ((Int.toNat Z1ft) * 1))]?).bind fun x94 =>
 cond (x94 == (0 : Int))
 (if ownB ⟨7,[0,2,3,4,5],true,[]⟩ 7 = true ∧ Z1a8 = (Z1id * 1) ∧ Z1w (Z1id + 1) 8 ∧ 1 = 1 then
 Z1a m n0 n1 Zfz Zg0 Zij Zfi (Z1id + 1) Z1nx (IntKind.wrap .i64 (Z1ft + (1 : Int))) Z17a Z17b Z17c Z17d Z17e Z17f Z1ja Z113 Zxw Zw3 Zxx Z114 Zht Zo1 Zhu Z115 Z116 Zo2 Zsj Zo3 Zup Zo4 ((Z1id + 1) * 1) (Z1h6 ++ [(D.v (.int .i64 Z1ft))])
 else none)
 (Z1a m n0 n1 Zfz Zg0 Zij Zfi Z1id Z1nx (IntKind.wrap .i64 (Z1ft + (1 : Int))) Z17a Z17b Z17c Z17d Z17e Z17f Z1ja Z113 Zxw Zw3 Zxx Z114 Zht Zo1 Zhu Z115 Z116 Zo2 Zsj Zo3 Zup Zo4 Z1a8 Z1h6)
 else none)
 (Z1a m n0 n1 Zfz Zg0 Zij Zfi Z1id Z1nx (IntKind.wrap .i64 (Z1ft + (1 : Int))) Z17a Z17b Z17c Z17d Z17e Z17f Z1ja Z113 Zxw Zw3 Zxx Z114 Zht Zo1 Zhu Z115 Z116 Zo2 Zsj Zo3 Zup Zo4 Z1a8 Z1h6)
 else none)
 (Z1a m n0 n1 Zfz Zg0 Zij Zfi Z1id Z1nx (IntKind.wrap .i64 (Z1ft + (1 : Int))) Z17a Z17b Z17c Z17d Z17e Z17f Z1ja Z113 Zxw Zw3 Zxx Z114 Zht Zo1 Zhu Z115 Z116 Zo2 Zsj Zo3 Zup Zo4 Z1a8 Z1h6)
 else none)
 (if (0 + (Z1id * 1)) ≤ Z1a8 then
 (Z3y [(D.list Z1id none (cutL Z1a8 Z1h6 0 (Z1id * 1)))]).bind fun d95 =>
 (rdL (some d95)).bind fun q96 =>
 if (0 + (Z1id * 1)) ≤ Z1a8 then
 if (0 + (Z1id * 1)) ≤ Z1a8 then
 cond (decide ((q96.n : Int) > (0 : Int)))
 (cond (decide (Zfi < (Zfz : Int)))
 (if 0 ≤ Zfi ∧ Zfi < (Zfz : Int) then
 (rdI .i64 Zij[((Int.toNat Zfi) * 1)]?).bind fun x97 =>
 if (q96.n : Int) = 0 then none else
 cond (decide ((Int.tmod x97 (q96.n : Int)) < (0 : Int)))
 (if 0 ≤ (IntKind.wrap .i64 ((Int.tmod x97 (q96.n : Int)) + (q96.n : Int))) ∧ (IntKind.wrap .i64 ((Int.tmod x97 (q96.n : Int)) + (q96.n : Int))) < (q96.n : Int) then
 (rdI .i64 q96.cs[((Int.toNat (IntKind.wrap .i64 ((Int.tmod x97 (q96.n : Int)) + (q96.n : Int)))) * 1)]?).bind fun x98 =>
 if 0 ≤ x98 ∧ x98 < (Zup : Int) then
 if 1 = 1 ∧ (0 + ((Int.toNat x98) * 1)) < Zxx then
 cond (decide (x98 > (0 : Int)))
 (if 0 ≤ x98 ∧ x98 < (Zht : Int) then
 (rdI .i64 Zhu[(((Int.toNat x98) * 20) + 0)]?).bind fun x99 =>
 if 0 ≤ x99 ∧ x99 < (Zsj : Int) then
 (rdI .i64 Zw3[(0 + ((Int.toNat x99) * 1))]?).bind fun x100 =>
 if 0 ≤ x99 ∧ x99 < (Zsj : Int) then
 if 1 = 1 ∧ (0 + ((Int.toNat x99) * 1)) < Zxw then
 Z6 m n0 Zfz Zg0 Zij (IntKind.wrap .i64 (Zfi + (1 : Int))) Z17a Z17b Z17c Z17d Z17e Z17f Z1ja Z113 Zxw (List.set Zw3 (0 + ((Int.toNat x99) * 1)) (D.v (.int .i64 (IntKind.wrap .i64 (x100 - (1 : Int)))))) Zxx (List.set Z114 (0 + ((Int.toNat x98) * 1)) (D.v (.bool true))) Zht Zo1 Zhu Z115 Z116 Zo2 Zsj Zo3 Zup Zo4
 else none
 else none
 else none
 else none)
 (Z6 m n0 Zfz Zg0 Zij (IntKind.wrap .i64 (Zfi + (1 : Int))) Z17a Z17b Z17c Z17d Z17e Z17f Z1ja Z113 Zxw Zw3 Zxx (List.set Z114 (0 + ((Int.toNat x98) * 1)) (D.v (.bool true))) Zht Zo1 Zhu Z115 Z116 Zo2 Zsj Zo3 Zup Zo4)
 else none
 else none
 else none)
 (if 0 ≤ (Int.tmod x97 (q96.n : Int)) ∧ (Int.tmod x97 (q96.n : Int)) < (q96.n : Int) then
 (rdI .i64 q96.cs[((Int.toNat (Int.tmod x97 (q96.n : Int))) * 1)]?).bind fun x101 =>
 if 0 ≤ x101 ∧ x101 < (Zup : Int) then
 if 1 = 1 ∧ (0 + ((Int.toNat x101) * 1)) < Zxx then
 cond (decide (x101 > (0 : Int)))
 (if 0 ≤ x101 ∧ x101 < (Zht : Int) then
 (rdI .i64 Zhu[(((Int.toNat x101) * 20) + 0)]?).bind fun x102 =>
 if 0 ≤ x102 ∧ x102 < (Zsj : Int) then
 (rdI .i64 Zw3[(0 + ((Int.toNat x102) * 1))]?).bind fun x103 =>
 if 0 ≤ x102 ∧ x102 < (Zsj : Int) then
 if 1 = 1 ∧ (0 + ((Int.toNat x102) * 1)) < Zxw then
 Z6 m n0 Zfz Zg0 Zij (IntKind.wrap .i64 (Zfi + (1 : Int))) Z17a Z17b Z17c Z17d Z17e Z17f Z1ja Z113 Zxw (List.set Zw3 (0 + ((Int.toNat x102) * 1)) (D.v (.int .i64 (IntKind.wrap .i64 (x103 - (1 : Int)))))) Zxx (List.set Z114 (0 + ((Int.toNat x101) * 1)) (D.v (.bool true))) Zht Zo1 Zhu Z115 Z116 Zo2 Zsj Zo3 Zup Zo4
 else none
 else none
 else none
 else none)
 (Z6 m n0 Zfz Zg0 Zij (IntKind.wrap .i64 (Zfi + (1 : Int))) Z17a Z17b Z17c Z17d Z17e Z17f Z1ja Z113 Zxw Zw3 Zxx (List.set Z114 (0 + ((Int.toNat x101) * 1)) (D.v (.bool true))) Zht Zo1 Zhu Z115 Z116 Zo2 Zsj Zo3 Zup Zo4)
 else none
 else none
 else none)
 else none)
 (if 0 ≤ (0 : Int) ∧ (0 : Int) < (q96.n : Int) then
 (rdI .i64 q96.cs[0]?).bind fun x104 =>
 if 0 ≤ x104 ∧ x104 < (Zup : Int) then
 if 1 = 1 ∧ (0 + ((Int.toNat x104) * 1)) < Zxx then
 cond (decide (x104 > (0 : Int)))
 (if 0 ≤ x104 ∧ x104 < (Zht : Int) then
 (rdI .i64 Zhu[(((Int.toNat x104) * 20) + 0)]?).bind fun x105 =>
 if 0 ≤ x105 ∧ x105 < (Zsj : Int) then
 (rdI .i64 Zw3[(0 + ((Int.toNat x105) * 1))]?).bind fun x106 =>
 if 0 ≤ x105 ∧ x105 < (Zsj : Int) then
 if 1 = 1 ∧ (0 + ((Int.toNat x105) * 1)) < Zxw then
 Z6 m n0 Zfz Zg0 Zij (IntKind.wrap .i64 (Zfi + (1 : Int))) Z17a Z17b Z17c Z17d Z17e Z17f Z1ja Z113 Zxw (List.set Zw3 (0 + ((Int.toNat x105) * 1)) (D.v (.int .i64 (IntKind.wrap .i64 (x106 - (1 : Int)))))) Zxx (List.set Z114 (0 + ((Int.toNat x104) * 1)) (D.v (.bool true))) Zht Zo1 Zhu Z115 Z116 Zo2 Zsj Zo3 Zup Zo4
 else none
 else none
 else none
 else none)
 (Z6 m n0 Zfz Zg0 Zij (IntKind.wrap .i64 (Zfi + (1 : Int))) Z17a Z17b Z17c Z17d Z17e Z17f Z1ja Z113 Zxw Zw3 Zxx (List.set Z114 (0 + ((Int.toNat x104) * 1)) (D.v (.bool true))) Zht Zo1 Zhu Z115 Z116 Zo2 Zsj Zo3 Zup Zo4)
 else none
 else none
 else none))
 (Z1x m n0 m Zfz Zg0 Zij Zfi q96 0 Zup Zo4 (Zup : Int) (0 : Int) Z17a Z17b Z17c Z17d Z17e Z17f Z1ja Z113 Zxw Zw3 Zxx Z114 Zht Zo1 Zhu Z115 Z116 Zo2 Zsj Zo3 0 [])
 else none
 else none
 else none)) := by kernel_rfl
theorem Zsk (m n0 : Nat) (Zfz : Nat) (Zg0 : Option Nat) (Zij : List D) (Zfi : Int) (Zz2 : Nat) (Zzt : Option Nat) (Zzu : List D) (Zzv : Nat) (Zzw : Option Nat) (Zzx : List D) (Znt : Nat) (Znu : List D) (Znv : Nat) (Znw : List D) (Znx : Nat) (Zqp : List D) (Zqq : Nat) (Zla : Option Nat) (Zlb : List D) (Zlc : Int) (Zny : Nat) (Zgo : Nat) (Znz : Nat) (Zgp : Nat) (Zo0 : Nat) (Zkl : Nat) : Z6 m (n0 + 1) Zfz Zg0 Zij Zfi Zz2 Zzt Zzu Zzv Zzw Zzx Znt Znu Znv Znw Znx Zqp Zqq Zla Zlb Zlc Zny Zgo Znz Zgp Zo0 Zkl =
 (Z1a m n0 m Zfz Zg0 Zij Zfi 0 (Zo0 : Int) (0 : Int) Zz2 Zzt Zzu Zzv Zzw Zzx Znt Znu Znv Znw Znx Zqp Zqq Zla Zlb Zlc Zny Zgo Znz Zgp Zo0 Zkl 0 []) := by kernel_rfl
noncomputable def Z1s (m n0 : Nat) (a0_0n : Nat) (a0_0c : Option Nat) (a0_0 : List D) (a1 : Int) (a2n : Nat) (a2c : Option Nat) (a2 : List D) (q25 : Sl) (Z1kg : Nat) (Z1kh : Nat) (Z1oq : Int) (Z1md : Int) (Z1nf : Nat) (Z1ng : Option Nat) (Z1nh : List D) (Z1kq : Nat) (Z1kr : Option Nat) (Z1ks : List D) (Z1ac : Nat) (Z1f4 : List D) (Z1f5 : List D) (Z1ki : List D) (Z1f6 : Int) (Z1f7 : Nat) (Z1kj : List D) : Option D :=
 Z15 (bm 14349 34) 8 10 (codeK Tg Z3.sp ⟨8,[2,3,4,5],true,[]⟩ (inlK Tg Z3 m 3) m Z2l (subc [1,1,0,1,0,0] (bodyOf Tryz.f70))) n0 ⟨[(AV.ptr 6 0),Jk,(AV.ptr 8 0),(AV.sl 9 0 Z1kg none 1),Jk,Jk,Jk,Jk,Jk,Jk,Jk,(AV.sl 5 0 Z1kh (some Z1kh) 1),(AV.d (D.v (.int .i64 Z1oq))),(AV.d (D.v (.int .i64 Z1md))),Jk,Jk,Jk,Jk,Jk,Jk,Jk,Jk,Jk,Jk,Jk,Jk,Jk,Jk,Jk,Jk,Jk,Jk,Jk,Jk],[(Blk.d 1 [(D.list Z1nf Z1ng Z1nh)]),(Blk.d 1 [(D.list 0 (some 0) [])]),(Blk.d 1 [(D.list Z1kq Z1kr Z1ks)]),(Blk.d Z1ac Z1f4),(Blk.d Z1ac Z1f5),(Blk.d Z1ac Z1ki),(Blk.a 5 [(AV.d (D.list Z1kq Z1kr Z1ks)),(AV.d (D.v (.int .i64 Z1f6))),(AV.sl 3 0 Z1kh (some Z1kh) 1),(AV.sl 4 0 Z1kh (some Z1kh) 1),(AV.sl 5 0 Z1kh (some Z1kh) 1)]),Blk.dead,(Blk.d 1 [(D.list 0 (some 0) [])]),(Blk.d Z1f7 Z1kj)]⟩
  (contK Tg Z3.sp ⟨8,[2,3,4,5],true,[]⟩ (inlK Tg Z3 m 3) m Z2l (endK Tg Tryz.f70 (fun v L => opsK Tg Z3.sp ⟨0,[],false,[]⟩ [] (inlK Tg Z3 m 4) (regOps (subc [1,0,1,1,1,1,1,1,0] (bodyOf Tryz.f21))) (List.drop 2 (Array.toList (regOps (subc [1,0,1,1,1,1,1,1,0] (bodyOf Tryz.f21))))) ⟨setSl [(AV.d (D.agg [(D.list a0_0n a0_0c a0_0)])),(AV.d (D.v (.int .i64 a1))),(AV.d (D.list a2n a2c a2)),(AV.ptr 0 0),Jk,Jk,(AV.ptr 1 0),(AV.d zI),(AV.d zI),(AV.ptr 6 0),(AV.d zI),(AV.d zI),(AV.d (D.list q25.n q25.cap q25.cs)),Jk,(AV.tup [(AV.ptr 6 0),(AV.d zI)]),(AV.d (D.agg [(D.list a0_0n a0_0c a0_0)])),(AV.d (D.v (.int .i64 a1))),(AV.tup [(AV.ptr 6 0),(AV.d zI)]),(AV.ptr 6 0),(AV.d zI),(AV.d zI),(AV.d (D.v (.bool false))),Jk,Jk,(AV.ptr 6 0),(AV.d (D.list q25.n q25.cap q25.cs)),(AV.d (D.list q25.n q25.cap q25.cs)),(AV.d (D.v (.int .i64 (q25.n : Int)))),(AV.d (D.v (.bool false))),Jk,Jk,Jk,Jk,Jk,Jk,Jk,Jk,Jk,Jk,Jk,Jk,Jk,Jk,Jk,Jk,Jk,Jk,Jk,Jk,Jk,Jk,Jk,Jk,Jk,(AV.ptr 6 0),Jk,Jk] (some 55) v,L⟩ (fun st => contK Tg Z3.sp ⟨0,[],false,[]⟩ (inlK Tg Z3 m 4) m Zo (endK Tg Tryz.f21 (fun v L => viewK L 8 v some)) [.code (subc [1,0,1,1,1,1,1,1,1] (bodyOf Tryz.f21)),.scope (subc [1,0] (bodyOf Tryz.f21)) m] .normal st))) [.block 0,.code (subc [1,1,1] (bodyOf Tryz.f70))])
theorem Zeh (m n0 : Nat) (a0_0n : Nat) (a0_0c : Option Nat) (a0_0 : List D) (a1 : Int) (a2n : Nat) (a2c : Option Nat) (a2 : List D) (q25 : Sl) (Z1kg : Nat) (Z1kh : Nat) (Z1oq : Int) (Z1md : Int) (Z1nf : Nat) (Z1ng : Option Nat) (Z1nh : List D) (Z1kq : Nat) (Z1kr : Option Nat) (Z1ks : List D) (Z1ac : Nat) (Z1f4 : List D) (Z1f5 : List D) (Z1ki : List D) (Z1f6 : Int) (Z1f7 : Nat) (Z1kj : List D) : Z1s m (n0 + 1) a0_0n a0_0c a0_0 a1 a2n a2c a2 q25 Z1kg Z1kh Z1oq Z1md Z1nf Z1ng Z1nh Z1kq Z1kr Z1ks Z1ac Z1f4 Z1f5 Z1ki Z1f6 Z1f7 Z1kj =
 (cond (decide (Z1md < Z1oq))
 (if 0 ≤ Z1md ∧ Z1md < (Z1kh : Int) then
 (rdB Z1ki[(0 + ((Int.toNat Z1md) * 1))]?).bind fun b402 =>
 cond b402
 (if ownB ⟨8,[2,3,4,5],true,[]⟩ 9 = true ∧ Z1f7 = (Z1kg * 1) ∧ Z1w (Z1kg + 1) 8 ∧ 1 = 1 then
 Z1s m n0 a0_0n a0_0c a0_0 a1 a2n a2c a2 q25 (Z1kg + 1) Z1kh Z1oq (IntKind.wrap .i64 (Z1md + (1 : Int))) Z1nf Z1ng Z1nh Z1kq Z1kr Z1ks Z1ac Z1f4 Z1f5 Z1ki Z1f6 ((Z1kg + 1) * 1) (Z1kj ++ [(D.v (.int .i64 Z1md))])
 else none)
 (Z1s m n0 a0_0n a0_0c a0_0 a1 a2n a2c a2 q25 Z1kg Z1kh Z1oq (IntKind.wrap .i64 (Z1md + (1 : Int))) Z1nf Z1ng Z1nh Z1kq Z1kr Z1ks Z1ac Z1f4 Z1f5 Z1ki Z1f6 Z1f7 Z1kj)
 else none)
 (if (0 + (Z1kg * 1)) ≤ Z1f7 then
 (Z2e [(D.agg [(D.list Z1kq Z1kr Z1ks)]),(D.list Z1kg none (cutL Z1f7 Z1kj 0 (Z1kg * 1)))]).bind fun d403 =>
 (rdT d403).bind fun r404 =>
 if List.length r404 = 2 then
 (rdA r404[0]?).bind fun c405 =>
 (rdI .i64 r404[1]?).bind fun x406 =>
 if (0 + (Z1kg * 1)) ≤ Z1f7 then
 if (0 + (Z1kg * 1)) ≤ Z1f7 then
 if (List.length c405) = 1 then
 if (List.length c405) = 1 then
 if (List.length c405) = 1 then
 some (D.tup [(D.agg c405),zI,zI])
 else none
 else none
 else none
 else none
 else none
 else none
 else none)) := by kernel_rfl
theorem Zg3 (m n0 : Nat) (a0_0n : Nat) (a0_0c : Option Nat) (a0_0 : List D) (a1 : Int) (a2n : Nat) (a2c : Option Nat) (a2 : List D) (Z44 : Nat) (Z7b : Int) (Z5a : Int) (Z6f : Nat) (Z5b : Option Nat) (Z62 : List D) (Z4q : Nat) (Z54 : Option Nat) (Z5c : List D) (Z5d : Nat) (Z3n : List D) (Z3l : List D) (Z36 : List D) (Z49 : Int) (Z1i : Nat) (Z4e : Nat) (Z55 : List D) : Z10 m (n0 + 1) a0_0n a0_0c a0_0 a1 a2n a2c a2 Z44 Z7b Z5a Z6f Z5b Z62 Z4q Z54 Z5c Z5d Z3n Z3l Z36 Z49 Z1i Z4e Z55 =
 (cond (decide (Z5a < Z7b))
 (if 0 ≤ Z5a ∧ Z5a < (Z1i : Int) then
 (rdB Z36[(0 + ((Int.toNat Z5a) * 1))]?).bind fun b21 =>
 cond (!b21)
 (if 0 ≤ Z5a ∧ Z5a < (Z1i : Int) then
 (rdI .i64 Z3n[(0 + ((Int.toNat Z5a) * 1))]?).bind fun x22 =>
 cond (decide (x22 < Z49))
 (if 0 ≤ Z5a ∧ Z5a < (Z1i : Int) then
 (rdI .i64 Z3l[(0 + ((Int.toNat Z5a) * 1))]?).bind fun x23 =>
 cond (x23 == (0 : Int))
 (if ownB ⟨7,[2,3,4,5],true,[]⟩ 7 = true ∧ Z4e = (Z44 * 1) ∧ Z1w (Z44 + 1) 8 ∧ 1 = 1 then
 Z10 m n0 a0_0n a0_0c a0_0 a1 a2n a2c a2 (Z44 + 1) Z7b (IntKind.wrap .i64 (Z5a + (1 : Int))) Z6f Z5b Z62 Z4q Z54 Z5c Z5d Z3n Z3l Z36 Z49 Z1i ((Z44 + 1) * 1) (Z55 ++ [(D.v (.int .i64 Z5a))])
 else none)
 (Z10 m n0 a0_0n a0_0c a0_0 a1 a2n a2c a2 Z44 Z7b (IntKind.wrap .i64 (Z5a + (1 : Int))) Z6f Z5b Z62 Z4q Z54 Z5c Z5d Z3n Z3l Z36 Z49 Z1i Z4e Z55)
 else none)
 (Z10 m n0 a0_0n a0_0c a0_0 a1 a2n a2c a2 Z44 Z7b (IntKind.wrap .i64 (Z5a + (1 : Int))) Z6f Z5b Z62 Z4q Z54 Z5c Z5d Z3n Z3l Z36 Z49 Z1i Z4e Z55)
 else none)
 (Z10 m n0 a0_0n a0_0c a0_0 a1 a2n a2c a2 Z44 Z7b (IntKind.wrap .i64 (Z5a + (1 : Int))) Z6f Z5b Z62 Z4q Z54 Z5c Z5d Z3n Z3l Z36 Z49 Z1i Z4e Z55)
 else none)
 (if (0 + (Z44 * 1)) ≤ Z4e then
 (Z3y [(D.list Z44 none (cutL Z4e Z55 0 (Z44 * 1)))]).bind fun d24 =>
 (rdL (some d24)).bind fun q25 =>
 if (0 + (Z44 * 1)) ≤ Z4e then
 if (0 + (Z44 * 1)) ≤ Z4e then
 cond (decide ((q25.n : Int) > (0 : Int)))
 (cond (decide ((0 : Int) < (a2n : Int)))
 (if 0 ≤ (0 : Int) ∧ (0 : Int) < (a2n : Int) then
 (rdI .i64 a2[0]?).bind fun x26 =>
 if (q25.n : Int) = 0 then none else
 cond (decide ((Int.tmod x26 (q25.n : Int)) < (0 : Int)))
 (if 0 ≤ (IntKind.wrap .i64 ((Int.tmod x26 (q25.n : Int)) + (q25.n : Int))) ∧ (IntKind.wrap .i64 ((Int.tmod x26 (q25.n : Int)) + (q25.n : Int))) < (q25.n : Int) then
 (rdI .i64 q25.cs[((Int.toNat (IntKind.wrap .i64 ((Int.tmod x26 (q25.n : Int)) + (q25.n : Int)))) * 1)]?).bind fun x27 =>
 if 0 ≤ x27 ∧ x27 < (Z1i : Int) then
 if 1 = 1 ∧ (0 + ((Int.toNat x27) * 1)) < Z5d then
 cond (decide (x27 > (0 : Int)))
 (if 0 ≤ x27 ∧ x27 < (Z4q : Int) then
 (rdI .i64 Z5c[(((Int.toNat x27) * 20) + 0)]?).bind fun x28 =>
 if 0 ≤ x28 ∧ x28 < (Z1i : Int) then
 (rdI .i64 Z3l[(0 + ((Int.toNat x28) * 1))]?).bind fun x29 =>
 if 0 ≤ x28 ∧ x28 < (Z1i : Int) then
 if 1 = 1 ∧ (0 + ((Int.toNat x28) * 1)) < Z5d then
 Z6 m m a2n a2c a2 (1 : Int) Z6f Z5b Z62 Z4q Z54 Z5c Z5d Z3n Z5d (List.set Z3l (0 + ((Int.toNat x28) * 1)) (D.v (.int .i64 (IntKind.wrap .i64 (x29 - (1 : Int)))))) Z5d (List.set Z36 (0 + ((Int.toNat x27) * 1)) (D.v (.bool true))) Z4q Z54 Z5c Z49 Z1i Z1i Z1i Z1i Z1i Z1i
 else none
 else none
 else none
 else none)
 (Z6 m m a2n a2c a2 (1 : Int) Z6f Z5b Z62 Z4q Z54 Z5c Z5d Z3n Z5d Z3l Z5d (List.set Z36 (0 + ((Int.toNat x27) * 1)) (D.v (.bool true))) Z4q Z54 Z5c Z49 Z1i Z1i Z1i Z1i Z1i Z1i)
 else none
 else none
 else none)
 (if 0 ≤ (Int.tmod x26 (q25.n : Int)) ∧ (Int.tmod x26 (q25.n : Int)) < (q25.n : Int) then
 (rdI .i64 q25.cs[((Int.toNat (Int.tmod x26 (q25.n : Int))) * 1)]?).bind fun x170 =>
 if 0 ≤ x170 ∧ x170 < (Z1i : Int) then
 if 1 = 1 ∧ (0 + ((Int.toNat x170) * 1)) < Z5d then
 cond (decide (x170 > (0 : Int)))
 (if 0 ≤ x170 ∧ x170 < (Z4q : Int) then
 (rdI .i64 Z5c[(((Int.toNat x170) * 20) + 0)]?).bind fun x171 =>
 if 0 ≤ x171 ∧ x171 < (Z1i : Int) then
 (rdI .i64 Z3l[(0 + ((Int.toNat x171) * 1))]?).bind fun x172 =>
 if 0 ≤ x171 ∧ x171 < (Z1i : Int) then
 if 1 = 1 ∧ (0 + ((Int.toNat x171) * 1)) < Z5d then
 Z6 m m a2n a2c a2 (1 : Int) Z6f Z5b Z62 Z4q Z54 Z5c Z5d Z3n Z5d (List.set Z3l (0 + ((Int.toNat x171) * 1)) (D.v (.int .i64 (IntKind.wrap .i64 (x172 - (1 : Int)))))) Z5d (List.set Z36 (0 + ((Int.toNat x170) * 1)) (D.v (.bool true))) Z4q Z54 Z5c Z49 Z1i Z1i Z1i Z1i Z1i Z1i
 else none
 else none
 else none
 else none)
 (Z6 m m a2n a2c a2 (1 : Int) Z6f Z5b Z62 Z4q Z54 Z5c Z5d Z3n Z5d Z3l Z5d (List.set Z36 (0 + ((Int.toNat x170) * 1)) (D.v (.bool true))) Z4q Z54 Z5c Z49 Z1i Z1i Z1i Z1i Z1i Z1i)
 else none
 else none
 else none)
 else none)
 (if 0 ≤ (0 : Int) ∧ (0 : Int) < (q25.n : Int) then
 (rdI .i64 q25.cs[0]?).bind fun x285 =>
 if 0 ≤ x285 ∧ x285 < (Z1i : Int) then
 if 1 = 1 ∧ (0 + ((Int.toNat x285) * 1)) < Z5d then
 cond (decide (x285 > (0 : Int)))
 (if 0 ≤ x285 ∧ x285 < (Z4q : Int) then
 (rdI .i64 Z5c[(((Int.toNat x285) * 20) + 0)]?).bind fun x286 =>
 if 0 ≤ x286 ∧ x286 < (Z1i : Int) then
 (rdI .i64 Z3l[(0 + ((Int.toNat x286) * 1))]?).bind fun x287 =>
 if 0 ≤ x286 ∧ x286 < (Z1i : Int) then
 if 1 = 1 ∧ (0 + ((Int.toNat x286) * 1)) < Z5d then
 Z6 m m a2n a2c a2 (1 : Int) Z6f Z5b Z62 Z4q Z54 Z5c Z5d Z3n Z5d (List.set Z3l (0 + ((Int.toNat x286) * 1)) (D.v (.int .i64 (IntKind.wrap .i64 (x287 - (1 : Int)))))) Z5d (List.set Z36 (0 + ((Int.toNat x285) * 1)) (D.v (.bool true))) Z4q Z54 Z5c Z49 Z1i Z1i Z1i Z1i Z1i Z1i
 else none
 else none
 else none
 else none)
 (Z6 m m a2n a2c a2 (1 : Int) Z6f Z5b Z62 Z4q Z54 Z5c Z5d Z3n Z5d Z3l Z5d (List.set Z36 (0 + ((Int.toNat x285) * 1)) (D.v (.bool true))) Z4q Z54 Z5c Z49 Z1i Z1i Z1i Z1i Z1i Z1i)
 else none
 else none
 else none))
 (Z1s m m a0_0n a0_0c a0_0 a1 a2n a2c a2 q25 0 Z1i (Z1i : Int) (0 : Int) Z6f Z5b Z62 Z4q Z54 Z5c Z5d Z3n Z3l Z36 Z49 0 [])
 else none
 else none
 else none)) := by kernel_rfl
theorem Zk1 (m n0 : Nat) (a0_0n : Nat) (a0_0c : Option Nat) (a0_0 : List D) (a1 : Int) (a2n : Nat) (a2c : Option Nat) (a2 : List D) (Zl : Nat) (Zt : Option Nat) (Zy : List D) (Z11 : Int) (Zs : Int) (Z1b : Nat) (Z1o : Option Nat) (Z2r : List D) (Z3x : Nat) (Zfh : List D) (Z5n : List D) (Z5e : List D) (Z6a : Int) (Z2b : Nat) : Z3h m (n0 + 1) a0_0n a0_0c a0_0 a1 a2n a2c a2 Zl Zt Zy Z11 Zs Z1b Z1o Z2r Z3x Zfh Z5n Z5e Z6a Z2b =
 (cond (decide (Zs < Z11))
 (if 0 ≤ Zs ∧ Zs < (Zl : Int) then
 if (((Int.toNat Zs) * 20) + 20) ≤ (List.length Zy) then
 if (List.length ((List.drop ((Int.toNat Zs) * 20) Zy).take 20)) = 20 then
 cond (decide (Zs > (0 : Int)))
 ((rdI .i64 ((List.drop ((Int.toNat Zs) * 20) Zy).take 20)[0]?).bind fun x11 =>
 if 0 ≤ x11 ∧ x11 < (Z2b : Int) then
 (rdI .i64 Zfh[(0 + ((Int.toNat x11) * 1))]?).bind fun x12 =>
 if 0 ≤ Zs ∧ Zs < (Z2b : Int) then
 if 1 = 1 ∧ (0 + ((Int.toNat Zs) * 1)) < Z3x then
 (rdI .i64 ((List.drop ((Int.toNat Zs) * 20) Zy).take 20)[0]?).bind fun x13 =>
 if 0 ≤ x13 ∧ x13 < (Z2b : Int) then
 (rdI .i64 Z5n[(0 + ((Int.toNat x13) * 1))]?).bind fun x14 =>
 if 0 ≤ x13 ∧ x13 < (Z2b : Int) then
 if 1 = 1 ∧ (0 + ((Int.toNat x13) * 1)) < Z3x then
 Z3h m n0 a0_0n a0_0c a0_0 a1 a2n a2c a2 Zl Zt Zy Z11 (IntKind.wrap .i64 (Zs + (1 : Int))) Z1b Z1o Z2r Z3x (List.set Zfh (0 + ((Int.toNat Zs) * 1)) (D.v (.int .i64 (IntKind.wrap .i64 (x12 + (1 : Int)))))) (List.set Z5n (0 + ((Int.toNat x13) * 1)) (D.v (.int .i64 (IntKind.wrap .i64 (x14 + (1 : Int)))))) Z5e Z6a Z2b
 else none
 else none
 else none
 else none
 else none
 else none)
 (Z3h m n0 a0_0n a0_0c a0_0 a1 a2n a2c a2 Zl Zt Zy Z11 (IntKind.wrap .i64 (Zs + (1 : Int))) Z1b Z1o Z2r Z3x Zfh Z5n Z5e Z6a Z2b)
 else none
 else none
 else none)
 (Z10 m m a0_0n a0_0c a0_0 a1 a2n a2c a2 0 (Z2b : Int) (0 : Int) Z1b Z1o Z2r Zl Zt Zy Z3x Zfh Z5n Z5e Z6a Z2b 0 [])) := by kernel_rfl
theorem Zih (m : Nat) (a0_0n : Nat) (a0_0c : Option Nat) (a0_0 : List D) (a1 : Int) (a2n : Nat) (a2c : Option Nat) (a2 : List D) (Z2o : Int) (Z43 : Nat) (Z3v : Option Nat) (Z3o : List D) (Z2d : Nat) (Z6d : Option Nat) (Z7a : List D) : Z8u m a0_0n a0_0c a0_0 a1 a2n a2c a2 Z2o Z43 Z3v Z3o Z2d Z6d Z7a =
 (if 0 ≤ (Z2d : Int) ∧ (Z2d : Int) ≤ (Z2d : Int) ∧ Z1w (Int.toNat (Z2d : Int)) 8 then
 if 0 ≤ (Z2d : Int) ∧ (Z2d : Int) ≤ (Z2d : Int) ∧ Z1w (Int.toNat (Z2d : Int)) 8 then
 if 0 ≤ (Z2d : Int) ∧ (Z2d : Int) ≤ (Z2d : Int) ∧ Z1w (Int.toNat (Z2d : Int)) 1 then
 Z3h m m a0_0n a0_0c a0_0 a1 a2n a2c a2 Z2d Z6d Z7a (Z2d : Int) (0 : Int) Z43 Z3v Z3o ((Int.toNat (Z2d : Int)) * 1) (List.flatten (List.replicate (Int.toNat (Z2d : Int)) [zI])) (List.flatten (List.replicate (Int.toNat (Z2d : Int)) [zI])) (List.flatten (List.replicate (Int.toNat (Z2d : Int)) [(D.v (.bool false))])) Z2o (Int.toNat (Z2d : Int))
 else none
 else none
 else none) := (Z1t m _).trans (by kernel_rfl)
noncomputable def Zh0 (m : Nat) (a0_0n : Nat) (a0_0c : Option Nat) (a0_0 : List D) (a1 : Int) (a2n : Nat) (a2c : Option Nat) (a2 : List D) : Option D :=
 (Z2y [(D.agg [(D.list a0_0n a0_0c a0_0)])]).bind fun d1 =>
 (rdI .i64 (some d1)).bind fun x2 =>
 cond (x2 != (0 : Int))
 (cond (x2 != (0 : Int))
 (some (D.tup [(D.agg [(D.list 0 (some 0) [])]),zI,(D.v (.int .i64 x2))]))
 (none))
 (cond (decide (a1 < (0 : Int)))
 (some (D.tup [(D.agg [(D.list 0 (some 0) [])]),zI,(D.v (.int .i64 (1 : Int)))]))
 (cond (decide (a1 > (64 : Int)))
 (some (D.tup [(D.agg [(D.list 0 (some 0) [])]),zI,(D.v (.int .i64 (1 : Int)))]))
 (Z8u m a0_0n a0_0c a0_0 a1 a2n a2c a2 a1 a0_0n a0_0c a0_0 a0_0n a0_0c a0_0)))
theorem Z117 (m : Nat) (a0_0n : Nat) (a0_0c : Option Nat) (a0_0 : List D) (a1 : Int) (a2n : Nat) (a2c : Option Nat) (a2 : List D) : funD Tg Z3 m 4 Zo Tryz.f21 [(D.agg [(D.list a0_0n a0_0c a0_0)]),(D.v (.int .i64 a1)),(D.list a2n a2c a2)] = Zh0 m a0_0n a0_0c a0_0 a1 a2n a2c a2 := by kernel_rfl
theorem Z15d : Enters Tg 21 := ⟨Tryz.f21,Tryz.func21,by kernel_rfl,by kernel_rfl⟩
theorem Z15e {ds : List D} {d : D} (h : funD Tg Z3 M 4 Zo Tryz.f21 ds = some d) : DataSem Tg 21 ds d := Z8 (H := Z3) (SpOk.cons Zqe (SpOk.cons Zbl (SpOk.cons Zqf SpOk.nil))) mixed (InlOk.cons Tryz.func64 Zdq (InlOk.cons Tryz.func65 Zpl (InlOk.cons Tryz.func67 Z8a (InlOk.cons Tryz.func70 Zh5 (InlOk.cons Tryz.func71 Z57 InlOk.nil))))) Tryz.func21 Z15d h
noncomputable def Zq : List D → Option D
  | [.agg [.list a0_0n a0_0c a0_0],.v (.int .i64 a1),.list a2n a2c a2] => Zh0 M a0_0n a0_0c a0_0 a1 a2n a2c a2
  | _ => none
theorem Zle : ∀ ds d,Zq ds = some d → DataSem Tg 21 ds d := by
  intro ds d h
  unfold Zq at h
  split at h
  · exact Z15e ((Z117 M _ _ _ _ _ _ _).trans h)
  · cases h

def Z12 : FnH := ⟨[(7,⟨(bm 304 32),[],none⟩)],[(9,⟨(bm 256 32),[],(some 10)⟩)]⟩
def Z41 : FnH := ⟨[(9,⟨(bm 481036337408 72),[],(some 5)⟩)],[(6,⟨(bm 6 72),[],(some 1)⟩)]⟩
def Z34 : FnH := ⟨[(1,⟨(bm 19 21),[],(some 0)⟩)],[(2,⟨(bm 19 21),[],(some 0)⟩)]⟩
def Zhv : FnH := ⟨[],[]⟩
def Zk2 : FnH := ⟨[],[]⟩
def Z56 : FnH := ⟨[(1,⟨(bm 1793 24),[(1006000,1)],(some 1)⟩)],[]⟩
def Zf7 : FnH := ⟨[],[]⟩
noncomputable def Zc : Hints := ⟨[(60,Z2y),(69,Z3y)],[(64,Tryz.f64,Z41),(66,Tryz.f66,Z34),(67,Tryz.f67,Zhv),(68,Tryz.f68,Zk2),(105,Tryz.f105,Z56),(71,Tryz.f71,Zf7)],[]⟩
noncomputable def Zac (m : Nat) (a0_0n : Nat) (a0_0c : Option Nat) (a0_0 : List D) (a1 : Int) (Z2o : Int) (Z43 : Nat) (Z3v : Option Nat) (Z3o : List D) (Z2d : Nat) (Z6d : Option Nat) (Z7a : List D) : Option D :=
 cutK m (codeK Tg Zc.sp ⟨1,[],true,[]⟩ (inlK Tg Zc m 3) m Z41 (subc [1,1,1] (bodyOf Tryz.f64)) ⟨[Jk,(AV.d (D.v (.int .i64 Z2o))),(AV.ptr 1 0),Jk,Jk,Jk,Jk,Jk,Jk,Jk,Jk,Jk,Jk,Jk,Jk,Jk,Jk,Jk,Jk,Jk,Jk,Jk,Jk,Jk,Jk,Jk,Jk,Jk,Jk,Jk,Jk,Jk,Jk,Jk,Jk,Jk,Jk,Jk,Jk,Jk,Jk,Jk,Jk,Jk,Jk,Jk,Jk,Jk,Jk,Jk,Jk,Jk,Jk,Jk,Jk,Jk,Jk,Jk,Jk,Jk,Jk,Jk,Jk,Jk,Jk,Jk,Jk,Jk,Jk,Jk,Jk,Jk],[(Blk.d 1 [(D.list Z43 Z3v Z3o)]),(Blk.d 1 [(D.list Z2d Z6d Z7a)])]⟩
  (contK Tg Zc.sp ⟨1,[],true,[]⟩ (inlK Tg Zc m 3) m Z41 (endK Tg Tryz.f64 (fun v L => opsK Tg Zc.sp ⟨0,[],false,[]⟩ [] (inlK Tg Zc m 4) (regOps (subc [1,0] (bodyOf Tryz.f19))) (List.drop 3 (Array.toList (regOps (subc [1,0] (bodyOf Tryz.f19))))) ⟨setSl [(AV.d (D.agg [(D.list a0_0n a0_0c a0_0)])),(AV.d (D.v (.int .i64 a1))),(AV.ptr 0 0),Jk,(AV.d (D.list 0 (some 0) [])),(AV.d zI),Jk,Jk,Jk,Jk,Jk,(AV.d (D.agg [(D.list a0_0n a0_0c a0_0)])),(AV.d (D.v (.int .i64 a1))),Jk,Jk,Jk,Jk,Jk,Jk,Jk,Jk,Jk,Jk,Jk,Jk,Jk,Jk,Jk,Jk,Jk,Jk,Jk] (some 13) v,L⟩ (fun st => contK Tg Zc.sp ⟨0,[],false,[]⟩ (inlK Tg Zc m 4) m Z12 (endK Tg Tryz.f19 (fun v L => viewK L 8 v some)) [.code (subc [1,1] (bodyOf Tryz.f19))] .normal st))) []))
noncomputable def Z42 (m n0 : Nat) (a0_0n : Nat) (a0_0c : Option Nat) (a0_0 : List D) (a1 : Int) (Zl : Nat) (Zt : Option Nat) (Zy : List D) (Z11 : Int) (Zs : Int) (Z1b : Nat) (Z1o : Option Nat) (Z2r : List D) (Z3x : Nat) (Zfh : List D) (Z5n : List D) (Z5e : List D) (Z6a : Int) (Z2b : Nat) : Option D :=
 Z15 (bm 481036337408 72) 1 6 (codeK Tg Zc.sp ⟨1,[],true,[]⟩ (inlK Tg Zc m 3) m Z41 (subc [1,1,1,1,1,0,1,0,0] (bodyOf Tryz.f64))) n0 ⟨[Jk,Jk,Jk,Jk,Jk,Jk,Jk,Jk,(AV.ptr 5 0),Jk,Jk,Jk,Jk,Jk,Jk,Jk,Jk,Jk,Jk,Jk,Jk,Jk,Jk,Jk,Jk,Jk,Jk,Jk,Jk,Jk,Jk,Jk,Jk,Jk,Jk,Jk,(AV.d (D.list Zl Zt Zy)),(AV.d (D.v (.int .i64 Z11))),(AV.d (D.v (.int .i64 Zs))),Jk,Jk,Jk,Jk,Jk,Jk,Jk,Jk,Jk,Jk,Jk,Jk,Jk,Jk,Jk,Jk,Jk,Jk,Jk,Jk,Jk,Jk,Jk,Jk,Jk,Jk,Jk,Jk,Jk,Jk,Jk,Jk,Jk],[(Blk.d 1 [(D.list Z1b Z1o Z2r)]),(Blk.d 1 [(D.list Zl Zt Zy)]),(Blk.d Z3x Zfh),(Blk.d Z3x Z5n),(Blk.d Z3x Z5e),(Blk.a 5 [(AV.d (D.list Zl Zt Zy)),(AV.d (D.v (.int .i64 Z6a))),(AV.sl 2 0 Z2b (some Z2b) 1),(AV.sl 3 0 Z2b (some Z2b) 1),(AV.sl 4 0 Z2b (some Z2b) 1)])]⟩
  (contK Tg Zc.sp ⟨1,[],true,[]⟩ (inlK Tg Zc m 3) m Z41 (endK Tg Tryz.f64 (fun v L => opsK Tg Zc.sp ⟨0,[],false,[]⟩ [] (inlK Tg Zc m 4) (regOps (subc [1,0] (bodyOf Tryz.f19))) (List.drop 3 (Array.toList (regOps (subc [1,0] (bodyOf Tryz.f19))))) ⟨setSl [(AV.d (D.agg [(D.list a0_0n a0_0c a0_0)])),(AV.d (D.v (.int .i64 a1))),(AV.ptr 0 0),Jk,(AV.d (D.list 0 (some 0) [])),(AV.d zI),Jk,Jk,Jk,Jk,Jk,(AV.d (D.agg [(D.list a0_0n a0_0c a0_0)])),(AV.d (D.v (.int .i64 a1))),Jk,Jk,Jk,Jk,Jk,Jk,Jk,Jk,Jk,Jk,Jk,Jk,Jk,Jk,Jk,Jk,Jk,Jk,Jk] (some 13) v,L⟩ (fun st => contK Tg Zc.sp ⟨0,[],false,[]⟩ (inlK Tg Zc m 4) m Z12 (endK Tg Tryz.f19 (fun v L => viewK L 8 v some)) [.code (subc [1,1] (bodyOf Tryz.f19))] .normal st))) [.block 0,.code (subc [1,1,1,1,1,1] (bodyOf Tryz.f64))])
noncomputable def Z35 (m n0 : Nat) (a0_0n : Nat) (a0_0c : Option Nat) (a0_0 : List D) (a1 : Int) (Z44 : Int) (Z7b : Nat) (Z5a : Option Nat) (Z6f : List D) (Z5b : Nat) (Z62 : Option Nat) (Z4q : List D) (Z54 : Nat) (Z5c : List D) (Z5d : Nat) (Z3n : List D) (Z3l : Nat) (Z36 : List D) (Z49 : Nat) (Z1i : Option Nat) (Z4e : List D) (Z55 : Int) (Z6g : Nat) (Z60 : Nat) (Z82 : Nat) (Z83 : Nat) (Z8l : Nat) (Z84 : Nat) : Option D :=
 Z15 (bm 19 21) 6 6 (codeK Tg Zc.sp ⟨6,[1,2,3,4],true,[]⟩ (inlK Tg Zc m 3) m Z34 (subc [1,0,0] (bodyOf Tryz.f66))) n0 ⟨[(AV.ptr 5 0),(AV.bnd 67 [(AV.ptr 5 0)]),Jk,Jk,(AV.d (D.v (.int .i64 Z44))),Jk,Jk,Jk,Jk,Jk,Jk,Jk,Jk,Jk,Jk,Jk,Jk,Jk,Jk,Jk,Jk],[(Blk.d 1 [(D.list Z7b Z5a Z6f)]),(Blk.d 1 [(D.list Z5b Z62 Z4q)]),(Blk.d Z54 Z5c),(Blk.d Z5d Z3n),(Blk.d Z3l Z36),(Blk.a 5 [(AV.d (D.list Z49 Z1i Z4e)),(AV.d (D.v (.int .i64 Z55))),(AV.sl 2 0 Z6g (some Z60) 1),(AV.sl 3 0 Z82 (some Z83) 1),(AV.sl 4 0 Z8l (some Z84) 1)])]⟩
  (contK Tg Zc.sp ⟨6,[1,2,3,4],true,[]⟩ (inlK Tg Zc m 3) m Z34 (endK Tg Tryz.f66 (fun v L => opsK Tg Zc.sp ⟨0,[],false,[]⟩ [] (inlK Tg Zc m 4) (regOps (subc [1,1,1,0] (bodyOf Tryz.f19))) (List.drop 4 (Array.toList (regOps (subc [1,1,1,0] (bodyOf Tryz.f19))))) ⟨setSl [(AV.d (D.agg [(D.list a0_0n a0_0c a0_0)])),(AV.d (D.v (.int .i64 a1))),(AV.ptr 0 0),Jk,(AV.d (D.list 0 (some 0) [])),(AV.d zI),(AV.ptr 5 0),(AV.d zI),Jk,Jk,(AV.tup [(AV.ptr 5 0),(AV.d zI)]),(AV.d (D.agg [(D.list a0_0n a0_0c a0_0)])),(AV.d (D.v (.int .i64 a1))),(AV.tup [(AV.ptr 5 0),(AV.d zI)]),(AV.ptr 5 0),(AV.d zI),(AV.d zI),(AV.d (D.v (.bool false))),Jk,(AV.ptr 5 0),(AV.ptr 5 0),(AV.bnd 67 [(AV.ptr 5 0)]),Jk,Jk,Jk,Jk,Jk,Jk,Jk,Jk,Jk,Jk] (some 22) v,L⟩ (fun st => contK Tg Zc.sp ⟨0,[],false,[]⟩ (inlK Tg Zc m 4) m Z12 (endK Tg Tryz.f19 (fun v L => viewK L 8 v some)) [.code (subc [1,1,1,1] (bodyOf Tryz.f19))] .normal st))) [.block 0])
noncomputable def Z1r (m n0 : Nat) (a0_0n : Nat) (a0_0c : Option Nat) (a0_0 : List D) (a1 : Int) (Z8i : Int) (Z9q : Nat) (Z9r : Option Nat) (Za9 : List D) (Z80 : Nat) (Z8s : Option Nat) (Zf3 : List D) (Zif : Nat) (Zno : List D) (Zso : Nat) (Zns : List D) (Zun : Nat) (Z10n : List D) (Z10o : Nat) (Z10p : Option Nat) (Z10q : List D) (Zyx : Int) (Zyy : Nat) (Z10r : Nat) (Z10s : Nat) (Z136 : Nat) (Z1eq : Nat) (Z1er : Nat) : Option D :=
 cutK m (codeK Tg Zc.sp ⟨6,[1,2,3,4],true,[]⟩ (inlK Tg Zc m 3) m Z34 (subc [1,0,0,1,1] (bodyOf Tryz.f66)) ⟨[(AV.ptr 5 0),(AV.bnd 67 [(AV.ptr 5 0)]),Jk,Jk,(AV.d (D.v (.int .i64 Z8i))),Jk,Jk,Jk,Jk,Jk,Jk,Jk,Jk,Jk,Jk,Jk,Jk,Jk,Jk,Jk,Jk],[(Blk.d 1 [(D.list Z9q Z9r Za9)]),(Blk.d 1 [(D.list Z80 Z8s Zf3)]),(Blk.d Zif Zno),(Blk.d Zso Zns),(Blk.d Zun Z10n),(Blk.a 5 [(AV.d (D.list Z10o Z10p Z10q)),(AV.d (D.v (.int .i64 Zyx))),(AV.sl 2 0 Zyy (some Z10r) 1),(AV.sl 3 0 Z10s (some Z136) 1),(AV.sl 4 0 Z1eq (some Z1er) 1)])]⟩
  (contK Tg Zc.sp ⟨6,[1,2,3,4],true,[]⟩ (inlK Tg Zc m 3) m Z34 (endK Tg Tryz.f66 (fun v L => opsK Tg Zc.sp ⟨0,[],false,[]⟩ [] (inlK Tg Zc m 4) (regOps (subc [1,1,1,0] (bodyOf Tryz.f19))) (List.drop 4 (Array.toList (regOps (subc [1,1,1,0] (bodyOf Tryz.f19))))) ⟨setSl [(AV.d (D.agg [(D.list a0_0n a0_0c a0_0)])),(AV.d (D.v (.int .i64 a1))),(AV.ptr 0 0),Jk,(AV.d (D.list 0 (some 0) [])),(AV.d zI),(AV.ptr 5 0),(AV.d zI),Jk,Jk,(AV.tup [(AV.ptr 5 0),(AV.d zI)]),(AV.d (D.agg [(D.list a0_0n a0_0c a0_0)])),(AV.d (D.v (.int .i64 a1))),(AV.tup [(AV.ptr 5 0),(AV.d zI)]),(AV.ptr 5 0),(AV.d zI),(AV.d zI),(AV.d (D.v (.bool false))),Jk,(AV.ptr 5 0),(AV.ptr 5 0),(AV.bnd 67 [(AV.ptr 5 0)]),Jk,Jk,Jk,Jk,Jk,Jk,Jk,Jk,Jk,Jk] (some 22) v,L⟩ (fun st => contK Tg Zc.sp ⟨0,[],false,[]⟩ (inlK Tg Zc m 4) m Z12 (endK Tg Tryz.f19 (fun v L => viewK L 8 v some)) [.code (subc [1,1,1,1] (bodyOf Tryz.f19))] .normal st))) [.loop (bm 19 21) 6 (subc [1,0,0] (bodyOf Tryz.f66)) n0,.block 0]))
theorem Zhw (m n0 : Nat) (a0_0n : Nat) (a0_0c : Option Nat) (a0_0 : List D) (a1 : Int) (Z8i : Int) (Z9q : Nat) (Z9r : Option Nat) (Za9 : List D) (Z80 : Nat) (Z8s : Option Nat) (Zf3 : List D) (Zif : Nat) (Zno : List D) (Zso : Nat) (Zns : List D) (Zun : Nat) (Z10n : List D) (Z10o : Nat) (Z10p : Option Nat) (Z10q : List D) (Zyx : Int) (Zyy : Nat) (Z10r : Nat) (Z10s : Nat) (Z136 : Nat) (Z1eq : Nat) (Z1er : Nat) : Z1r m n0 a0_0n a0_0c a0_0 a1 Z8i Z9q Z9r Za9 Z80 Z8s Zf3 Zif Zno Zso Zns Zun Z10n Z10o Z10p Z10q Zyx Zyy Z10r Z10s Z136 Z1eq Z1er =
 (Z35 m n0 a0_0n a0_0c a0_0 a1 (IntKind.wrap .i64 (Z8i - (1 : Int))) Z9q Z9r Za9 Z80 Z8s Zf3 Zif Zno Zso Zns Zun Z10n Z10o Z10p Z10q Zyx Zyy Z10r Z10s Z136 Z1eq Z1er) := (Z1t m _).trans (by kernel_rfl)
noncomputable def Z1y (m n0 : Nat) (Zfz : Nat) (Zg0 : Nat) (Zij : Int) (Zfi : Int) (Zz2 : Nat) (Zzt : Option Nat) (Zzu : List D) (Zzv : Nat) (Zzw : Option Nat) (Zzx : List D) (Znt : Nat) (Znu : List D) (Znv : Nat) (Znw : List D) (Znx : Nat) (Zqp : List D) (Zqq : Nat) (Zla : Option Nat) (Zlb : List D) (Zlc : Int) (Zny : Nat) (Zgo : Nat) (Znz : Nat) (Zgp : Nat) (Zo0 : Nat) (Zkl : Nat) (Z15b : List D) : Option D :=
 Z15 (bm 1793 24) 9 10 (codeK Tg Zc.sp ⟨9,[0,1,2,3,4,6],true,[]⟩ (inlK Tg Zc m 3) m Z56 (subc [1,0,0] (bodyOf Tryz.f105))) n0 ⟨[(AV.yld 8),Jk,Jk,Jk,Jk,Jk,Jk,Jk,(AV.sl 4 0 Zfz (some Zg0) 1),(AV.d (D.v (.int .i64 Zij))),(AV.d (D.v (.int .i64 Zfi))),Jk,Jk,Jk,Jk,Jk,Jk,Jk,Jk,Jk,Jk,Jk,Jk,Jk],[(Blk.d 1 [(D.list Zz2 Zzt Zzu)]),(Blk.d 1 [(D.list Zzv Zzw Zzx)]),(Blk.d Znt Znu),(Blk.d Znv Znw),(Blk.d Znx Zqp),(Blk.a 5 [(AV.d (D.list Zqq Zla Zlb)),(AV.d (D.v (.int .i64 Zlc))),(AV.sl 2 0 Zny (some Zgo) 1),(AV.sl 3 0 Znz (some Zgp) 1),(AV.sl 4 0 Zfz (some Zg0) 1)]),(Blk.a 1 [(AV.sl 9 0 Zo0 none 1)]),(Blk.a 1 [(AV.ptr 5 0)]),(Blk.loop 0 none [Jk,Jk,Jk,Jk,(AV.d (D.list 0 (some 0) [])),(AV.d zI),Jk,Jk,(AV.ptr 6 0),Jk,Jk,Jk,Jk,Jk,Jk,Jk,Jk,Jk,Jk,Jk,Jk,Jk,Jk,Jk,Jk,Jk,Jk,Jk,Jk,Jk,Jk,Jk] [25] (subc [1,1,1,1,1,0,1,0,0] (bodyOf Tryz.f19)) (subc [1,1,1,1,1,0,1,0,1] (bodyOf Tryz.f19)) Z12),(Blk.d Zkl Z15b)]⟩
  (contK Tg Zc.sp ⟨9,[0,1,2,3,4,6],true,[]⟩ (inlK Tg Zc m 3) m Z56 (endK Tg Tryz.f105 (Z11i 8 32 (contK Tg Zc.sp ⟨0,[],false,[]⟩ (inlK Tg Zc m 4) m Z12 (endK Tg Tryz.f19 (fun v L => viewK L 8 v some)) [.block 0,.code (subc [1,1,1,1,1,1] (bodyOf Tryz.f19))]))) [.block 0])
noncomputable def Ztj (m : Nat) (Ze6 : Nat) (Zvv : Option Nat) (Zud : List D) (Zvn : Nat) (Zvo : Option Nat) (Zw7 : List D) (Zyi : Nat) (Z10e : List D) (Z10f : Nat) (Z14v : List D) (Zyz : Nat) (Z10t : List D) (Z10u : Nat) (Z10v : Option Nat) (Z137 : List D) (Z10w : Int) (Z10x : Nat) (Z10y : Nat) (Z138 : Nat) (Zuo : Nat) (Z1ep : Nat) (Z159 : Nat) (Z15a : Nat) (Z1oc : Int) (Z1kk : Nat) (Z1ni : List D) : Option D :=
 cutK m (codeK Tg Zc.sp ⟨0,[],false,[]⟩ (inlK Tg Zc m 4) m Z12 (subc [1,1,1,1,1,1] (bodyOf Tryz.f19)) ⟨[Jk,Jk,Jk,Jk,Jk,Jk,Jk,Jk,(AV.ptr 6 0),Jk,Jk,Jk,Jk,Jk,Jk,Jk,Jk,Jk,Jk,Jk,Jk,Jk,Jk,Jk,Jk,Jk,Jk,Jk,Jk,Jk,Jk,Jk],[(Blk.d 1 [(D.list Ze6 Zvv Zud)]),(Blk.d 1 [(D.list Zvn Zvo Zw7)]),(Blk.d Zyi Z10e),(Blk.d Z10f Z14v),(Blk.d Zyz Z10t),(Blk.a 5 [(AV.d (D.list Z10u Z10v Z137)),(AV.d (D.v (.int .i64 Z10w))),(AV.sl 2 0 Z10x (some Z10y) 1),(AV.sl 3 0 Z138 (some Zuo) 1),(AV.sl 4 0 Z1ep (some Z159) 1)]),(Blk.a 1 [(AV.sl 9 0 Z15a none 1)]),(Blk.a 1 [(AV.ptr 5 0)]),(Blk.loop 3 none [Jk,Jk,Jk,Jk,(AV.d (D.list 0 (some 0) [])),(AV.d (D.v (.int .i64 Z1oc))),Jk,Jk,(AV.ptr 6 0),Jk,Jk,Jk,Jk,Jk,Jk,Jk,Jk,Jk,Jk,Jk,Jk,Jk,Jk,Jk,Jk,Jk,Jk,Jk,Jk,Jk,Jk,Jk] [25] (subc [1,1,1,1,1,0,1,0,0] (bodyOf Tryz.f19)) (subc [1,1,1,1,1,0,1,0,1] (bodyOf Tryz.f19)) Z12),(Blk.d Z1kk Z1ni)]⟩
  (contK Tg Zc.sp ⟨0,[],false,[]⟩ (inlK Tg Zc m 4) m Z12 (endK Tg Tryz.f19 (fun v L => viewK L 8 v some)) []))
theorem Z118 (m : Nat) (Ze6 : Nat) (Zvv : Option Nat) (Zud : List D) (Zvn : Nat) (Zvo : Option Nat) (Zw7 : List D) (Zyi : Nat) (Z10e : List D) (Z10f : Nat) (Z14v : List D) (Zyz : Nat) (Z10t : List D) (Z10u : Nat) (Z10v : Option Nat) (Z137 : List D) (Z10w : Int) (Z10x : Nat) (Z10y : Nat) (Z138 : Nat) (Zuo : Nat) (Z1ep : Nat) (Z159 : Nat) (Z15a : Nat) (Z1oc : Int) (Z1kk : Nat) (Z1ni : List D) : Ztj m Ze6 Zvv Zud Zvn Zvo Zw7 Zyi Z10e Z10f Z14v Zyz Z10t Z10u Z10v Z137 Z10w Z10x Z10y Z138 Zuo Z1ep Z159 Z15a Z1oc Z1kk Z1ni =
 (if (0 + (Z15a * 1)) ≤ Z1kk then
 (Z3y [(D.list Z15a none (cutL Z1kk Z1ni 0 (Z15a * 1)))]).bind fun d33 =>
 (rdL (some d33)).bind fun q34 =>
 if (0 + (Z15a * 1)) ≤ Z1kk then
 some (D.tup [(D.list q34.n q34.cap q34.cs),zI])
 else none
 else none) := (Z1t m _).trans (by kernel_rfl)
theorem Zg4 (m n0 : Nat) (Zfz : Nat) (Zg0 : Nat) (Zij : Int) (Zfi : Int) (Zz2 : Nat) (Zzt : Option Nat) (Zzu : List D) (Zzv : Nat) (Zzw : Option Nat) (Zzx : List D) (Znt : Nat) (Znu : List D) (Znv : Nat) (Znw : List D) (Znx : Nat) (Zqp : List D) (Zqq : Nat) (Zla : Option Nat) (Zlb : List D) (Zlc : Int) (Zny : Nat) (Zgo : Nat) (Znz : Nat) (Zgp : Nat) (Zo0 : Nat) (Zkl : Nat) (Z15b : List D) : Z1y m (n0 + 1) Zfz Zg0 Zij Zfi Zz2 Zzt Zzu Zzv Zzw Zzx Znt Znu Znv Znw Znx Zqp Zqq Zla Zlb Zlc Zny Zgo Znz Zgp Zo0 Zkl Z15b =
 (cond (decide (Zfi < Zij))
 (if 0 ≤ Zfi ∧ Zfi < (Zfz : Int) then
 (rdB Zqp[(0 + ((Int.toNat Zfi) * 1))]?).bind fun b32 =>
 cond (!b32)
 (if ownB ⟨10,[0,1,2,3,9],true,[]⟩ 9 = true ∧ Zkl = (Zo0 * 1) ∧ Z1w (Zo0 + 1) 8 ∧ 1 = 1 then
 Z1y m n0 Zfz Zg0 Zij (IntKind.wrap .i64 (Zfi + (1 : Int))) Zz2 Zzt Zzu Zzv Zzw Zzx Znt Znu Znv Znw Znx Zqp Zqq Zla Zlb Zlc Zny Zgo Znz Zgp (Zo0 + 1) ((Zo0 + 1) * 1) (Z15b ++ [(D.v (.int .i64 Zfi))])
 else none)
 (Z1y m n0 Zfz Zg0 Zij (IntKind.wrap .i64 (Zfi + (1 : Int))) Zz2 Zzt Zzu Zzv Zzw Zzx Znt Znu Znv Znw Znx Zqp Zqq Zla Zlb Zlc Zny Zgo Znz Zgp Zo0 Zkl Z15b)
 else none)
 (Ztj m Zz2 Zzt Zzu Zzv Zzw Zzx Znt Znu Znv Znw Znx Zqp Zqq Zla Zlb Zlc Zny Zgo Znz Zgp Zfz Zg0 Zo0 (0 : Int) Zkl Z15b)) := by kernel_rfl
theorem Zii (m n0 : Nat) (a0_0n : Nat) (a0_0c : Option Nat) (a0_0 : List D) (a1 : Int) (Z44 : Int) (Z7b : Nat) (Z5a : Option Nat) (Z6f : List D) (Z5b : Nat) (Z62 : Option Nat) (Z4q : List D) (Z54 : Nat) (Z5c : List D) (Z5d : Nat) (Z3n : List D) (Z3l : Nat) (Z36 : List D) (Z49 : Nat) (Z1i : Option Nat) (Z4e : List D) (Z55 : Int) (Z6g : Nat) (Z60 : Nat) (Z82 : Nat) (Z83 : Nat) (Z8l : Nat) (Z84 : Nat) : Z35 m (n0 + 1) a0_0n a0_0c a0_0 a1 Z44 Z7b Z5a Z6f Z5b Z62 Z4q Z54 Z5c Z5d Z3n Z3l Z36 Z49 Z1i Z4e Z55 Z6g Z60 Z82 Z83 Z8l Z84 =
 (cond (decide (Z44 ≥ (0 : Int)))
 (if 0 ≤ Z44 ∧ Z44 < (Z8l : Int) then
 (rdB Z36[(0 + ((Int.toNat Z44) * 1))]?).bind fun b25 =>
 cond (!b25)
 (if 0 ≤ Z44 ∧ Z44 < (Z6g : Int) then
 (rdI .i64 Z5c[(0 + ((Int.toNat Z44) * 1))]?).bind fun x26 =>
 cond (decide (x26 < Z55))
 (if 0 ≤ Z44 ∧ Z44 < (Z82 : Int) then
 (rdI .i64 Z3n[(0 + ((Int.toNat Z44) * 1))]?).bind fun x27 =>
 cond (x27 == (0 : Int))
 (if 0 ≤ Z44 ∧ Z44 < (Z8l : Int) then
 if 1 = 1 ∧ (0 + ((Int.toNat Z44) * 1)) < Z3l then
 cond (decide (Z44 > (0 : Int)))
 (if 0 ≤ Z44 ∧ Z44 < (Z49 : Int) then
 (rdI .i64 Z4e[(((Int.toNat Z44) * 20) + 0)]?).bind fun x28 =>
 if 0 ≤ x28 ∧ x28 < (Z82 : Int) then
 (rdI .i64 Z3n[(0 + ((Int.toNat x28) * 1))]?).bind fun x29 =>
 if 0 ≤ x28 ∧ x28 < (Z82 : Int) then
 if 1 = 1 ∧ (0 + ((Int.toNat x28) * 1)) < Z5d then
 Z1r m n0 a0_0n a0_0c a0_0 a1 Z44 Z7b Z5a Z6f Z5b Z62 Z4q Z54 Z5c Z5d (List.set Z3n (0 + ((Int.toNat x28) * 1)) (D.v (.int .i64 (IntKind.wrap .i64 (x29 - (1 : Int)))))) Z3l (List.set Z36 (0 + ((Int.toNat Z44) * 1)) (D.v (.bool true))) Z49 Z1i Z4e Z55 Z6g Z60 Z82 Z83 Z8l Z84
 else none
 else none
 else none
 else none)
 (Z1r m n0 a0_0n a0_0c a0_0 a1 Z44 Z7b Z5a Z6f Z5b Z62 Z4q Z54 Z5c Z5d Z3n Z3l (List.set Z36 (0 + ((Int.toNat Z44) * 1)) (D.v (.bool true))) Z49 Z1i Z4e Z55 Z6g Z60 Z82 Z83 Z8l Z84)
 else none
 else none)
 (Z1r m n0 a0_0n a0_0c a0_0 a1 Z44 Z7b Z5a Z6f Z5b Z62 Z4q Z54 Z5c Z5d Z3n Z3l Z36 Z49 Z1i Z4e Z55 Z6g Z60 Z82 Z83 Z8l Z84)
 else none)
 (Z1r m n0 a0_0n a0_0c a0_0 a1 Z44 Z7b Z5a Z6f Z5b Z62 Z4q Z54 Z5c Z5d Z3n Z3l Z36 Z49 Z1i Z4e Z55 Z6g Z60 Z82 Z83 Z8l Z84)
 else none)
 (Z1r m n0 a0_0n a0_0c a0_0 a1 Z44 Z7b Z5a Z6f Z5b Z62 Z4q Z54 Z5c Z5d Z3n Z3l Z36 Z49 Z1i Z4e Z55 Z6g Z60 Z82 Z83 Z8l Z84)
 else none)
 (Z1y m m Z8l Z84 (Z8l : Int) (0 : Int) Z7b Z5a Z6f Z5b Z62 Z4q Z54 Z5c Z5d Z3n Z3l Z36 Z49 Z1i Z4e Z55 Z6g Z60 Z82 Z83 0 0 [])) := by kernel_rfl
theorem Zlf (m n0 : Nat) (a0_0n : Nat) (a0_0c : Option Nat) (a0_0 : List D) (a1 : Int) (Zl : Nat) (Zt : Option Nat) (Zy : List D) (Z11 : Int) (Zs : Int) (Z1b : Nat) (Z1o : Option Nat) (Z2r : List D) (Z3x : Nat) (Zfh : List D) (Z5n : List D) (Z5e : List D) (Z6a : Int) (Z2b : Nat) : Z42 m (n0 + 1) a0_0n a0_0c a0_0 a1 Zl Zt Zy Z11 Zs Z1b Z1o Z2r Z3x Zfh Z5n Z5e Z6a Z2b =
 (cond (decide (Zs < Z11))
 (if 0 ≤ Zs ∧ Zs < (Zl : Int) then
 if (((Int.toNat Zs) * 20) + 20) ≤ (List.length Zy) then
 if (List.length ((List.drop ((Int.toNat Zs) * 20) Zy).take 20)) = 20 then
 cond (decide (Zs > (0 : Int)))
 ((rdI .i64 ((List.drop ((Int.toNat Zs) * 20) Zy).take 20)[0]?).bind fun x11 =>
 if 0 ≤ x11 ∧ x11 < (Z2b : Int) then
 (rdI .i64 Zfh[(0 + ((Int.toNat x11) * 1))]?).bind fun x12 =>
 if 0 ≤ Zs ∧ Zs < (Z2b : Int) then
 if 1 = 1 ∧ (0 + ((Int.toNat Zs) * 1)) < Z3x then
 (rdI .i64 ((List.drop ((Int.toNat Zs) * 20) Zy).take 20)[0]?).bind fun x13 =>
 if 0 ≤ x13 ∧ x13 < (Z2b : Int) then
 (rdI .i64 Z5n[(0 + ((Int.toNat x13) * 1))]?).bind fun x14 =>
 if 0 ≤ x13 ∧ x13 < (Z2b : Int) then
 if 1 = 1 ∧ (0 + ((Int.toNat x13) * 1)) < Z3x then
 Z42 m n0 a0_0n a0_0c a0_0 a1 Zl Zt Zy Z11 (IntKind.wrap .i64 (Zs + (1 : Int))) Z1b Z1o Z2r Z3x (List.set Zfh (0 + ((Int.toNat Zs) * 1)) (D.v (.int .i64 (IntKind.wrap .i64 (x12 + (1 : Int)))))) (List.set Z5n (0 + ((Int.toNat x13) * 1)) (D.v (.int .i64 (IntKind.wrap .i64 (x14 + (1 : Int)))))) Z5e Z6a Z2b
 else none
 else none
 else none
 else none
 else none
 else none)
 (Z42 m n0 a0_0n a0_0c a0_0 a1 Zl Zt Zy Z11 (IntKind.wrap .i64 (Zs + (1 : Int))) Z1b Z1o Z2r Z3x Zfh Z5n Z5e Z6a Z2b)
 else none
 else none
 else none)
 (Z35 m m a0_0n a0_0c a0_0 a1 (IntKind.wrap .i64 ((Z2b : Int) - (1 : Int))) Z1b Z1o Z2r Zl Zt Zy Z3x Zfh Z3x Z5n Z3x Z5e Zl Zt Zy Z6a Z2b Z2b Z2b Z2b Z2b Z2b)) := by kernel_rfl
theorem Zkn (m : Nat) (a0_0n : Nat) (a0_0c : Option Nat) (a0_0 : List D) (a1 : Int) (Z2o : Int) (Z43 : Nat) (Z3v : Option Nat) (Z3o : List D) (Z2d : Nat) (Z6d : Option Nat) (Z7a : List D) : Zac m a0_0n a0_0c a0_0 a1 Z2o Z43 Z3v Z3o Z2d Z6d Z7a =
 (if 0 ≤ (Z2d : Int) ∧ (Z2d : Int) ≤ (Z2d : Int) ∧ Z1w (Int.toNat (Z2d : Int)) 8 then
 if 0 ≤ (Z2d : Int) ∧ (Z2d : Int) ≤ (Z2d : Int) ∧ Z1w (Int.toNat (Z2d : Int)) 8 then
 if 0 ≤ (Z2d : Int) ∧ (Z2d : Int) ≤ (Z2d : Int) ∧ Z1w (Int.toNat (Z2d : Int)) 1 then
 Z42 m m a0_0n a0_0c a0_0 a1 Z2d Z6d Z7a (Z2d : Int) (0 : Int) Z43 Z3v Z3o ((Int.toNat (Z2d : Int)) * 1) (List.flatten (List.replicate (Int.toNat (Z2d : Int)) [zI])) (List.flatten (List.replicate (Int.toNat (Z2d : Int)) [zI])) (List.flatten (List.replicate (Int.toNat (Z2d : Int)) [(D.v (.bool false))])) Z2o (Int.toNat (Z2d : Int))
 else none
 else none
 else none) := (Z1t m _).trans (by kernel_rfl)
noncomputable def Zlz (m : Nat) (a0_0n : Nat) (a0_0c : Option Nat) (a0_0 : List D) (a1 : Int) : Option D :=
 (Z2y [(D.agg [(D.list a0_0n a0_0c a0_0)])]).bind fun d1 =>
 (rdI .i64 (some d1)).bind fun x2 =>
 cond (x2 != (0 : Int))
 (cond (x2 != (0 : Int))
 (some (D.tup [(D.list 0 (some 0) []),(D.v (.int .i64 x2))]))
 (none))
 (cond (decide (a1 < (0 : Int)))
 (some (D.tup [(D.list 0 (some 0) []),(D.v (.int .i64 (1 : Int)))]))
 (cond (decide (a1 > (64 : Int)))
 (some (D.tup [(D.list 0 (some 0) []),(D.v (.int .i64 (1 : Int)))]))
 (Zac m a0_0n a0_0c a0_0 a1 a1 a0_0n a0_0c a0_0 a0_0n a0_0c a0_0)))
theorem Z15f (m : Nat) (a0_0n : Nat) (a0_0c : Option Nat) (a0_0 : List D) (a1 : Int) : funD Tg Zc m 4 Z12 Tryz.f19 [(D.agg [(D.list a0_0n a0_0c a0_0)]),(D.v (.int .i64 a1))] = Zlz m a0_0n a0_0c a0_0 a1 := by kernel_rfl
theorem Z1ad : Enters Tg 19 := ⟨Tryz.f19,Tryz.func19,by kernel_rfl,by kernel_rfl⟩
theorem Z1ae {ds : List D} {d : D} (h : funD Tg Zc M 4 Z12 Tryz.f19 ds = some d) : DataSem Tg 19 ds d := Z8 (H := Zc) (SpOk.cons Zbl (SpOk.cons Zqf SpOk.nil)) mixed (InlOk.cons Tryz.func64 Zdq (InlOk.cons Tryz.func66 Zqw (InlOk.cons Tryz.func67 Z8a (InlOk.cons Tryz.func68 Z104 (InlOk.cons Tryz.func105 Zwk (InlOk.cons Tryz.func71 Z57 InlOk.nil)))))) Tryz.func19 Z1ad h
noncomputable def Z3i : List D → Option D
  | [.agg [.list a0_0n a0_0c a0_0],.v (.int .i64 a1)] => Zlz M a0_0n a0_0c a0_0 a1
  | _ => none
theorem Z1af : ∀ ds d,Z3i ds = some d → DataSem Tg 19 ds d := by
  intro ds d h
  unfold Z3i at h
  split at h
  · exact Z1ae ((Z15f M _ _ _ _).trans h)
  · cases h

end Go.Ev
