/- Functions of the given program in plain form,printed: each with the proof that it is what the evaluator comes to,and that the program function returns what it says. No conditions. -/
import Derived.Test.YtnghcoghbbapgaaGreatDoorEzGa
set_option linter.unusedVariables false
set_option maxRecDepth 100000
namespace Go.Ev
open Go Go.Proofs
def Z6f : FnH := ⟨[],[(4,⟨(bm 192 28),[],(some 0)⟩)]⟩
noncomputable def Zfu : Hints := ⟨[(50,Z2x)],[],[]⟩
noncomputable def Zfv (m : Nat) (Z2z : Nat) (Z4j : Option Nat) (Z3v : List D) (Z3t : Int) : Option D :=
 cutK m (codeK Tg Zfu.sp ⟨0,[],false,[]⟩ (inlK Tg Zfu m 4) m Z6f (subc [1,1,1] (bodyOf Tryz.f48)) ⟨[Jk,Jk,Jk,Jk,Jk,Jk,(AV.d (D.list Z2z Z4j Z3v)),(AV.d (D.v (.int .i64 Z3t))),Jk,Jk,Jk,Jk,Jk,Jk,Jk,Jk,Jk,Jk,Jk,Jk,Jk,Jk,Jk,Jk,Jk,Jk,Jk,Jk],[]⟩
  (contK Tg Zfu.sp ⟨0,[],false,[]⟩ (inlK Tg Zfu m 4) m Z6f (endK Tg Tryz.f48 endV) []))
theorem Z1hh (m : Nat) (Z2z : Nat) (Z4j : Option Nat) (Z3v : List D) (Z3t : Int) : Zfv m Z2z Z4j Z3v Z3t =
 (some (D.tup [(D.list Z2z Z4j Z3v),(D.v (.int .i64 Z3t))])) := (Z1w m _).trans (by kernel_rfl)
noncomputable def Zzg (m : Nat) (a0_0n : Nat) (a0_0c : Option Nat) (a0_0 : List D) (a1 : Int) : Option D :=
 (Z2x [(D.agg [(D.list a0_0n a0_0c a0_0)])]).bind fun d1 =>
 (rdT d1).bind fun r2 =>
 if List.length r2 = 2 then
 (rdL r2[0]?).bind fun q3 =>
 (rdI .i64 r2[1]?).bind fun x4 =>
 cond (x4 == (0 : Int))
 (cond (decide (a1 < (0 : Int)))
 (Zfv m q3.n q3.cap q3.cs (19 : Int))
 (cond (decide (a1 ≥ (a0_0n : Int)))
 (Zfv m q3.n q3.cap q3.cs (19 : Int))
 (Zfv m q3.n q3.cap q3.cs x4)))
 (Zfv m q3.n q3.cap q3.cs x4)
 else none
theorem Z1nd (m : Nat) (a0_0n : Nat) (a0_0c : Option Nat) (a0_0 : List D) (a1 : Int) : funD Tg Zfu m 4 Z6f Tryz.f48 [(D.agg [(D.list a0_0n a0_0c a0_0)]),(D.v (.int .i64 a1))] = Zzg m a0_0n a0_0c a0_0 a1 := by kernel_rfl
theorem Z1tf : Enters Tg 48 := ⟨Tryz.f48,Tryz.func48,by kernel_rfl,by kernel_rfl⟩
theorem Z1tg {ds : List D} {d : D} (h : funD Tg Zfu M 4 Z6f Tryz.f48 ds = some d) : DataSem Tg 48 ds d := Z5 (H := Zfu) (SpOk.cons Zk5 SpOk.nil) mixed InlOk.nil Tryz.func48 Z1tf h
noncomputable def Z5n : List D → Option D
 | [.agg [.list a0_0n a0_0c a0_0],.v (.int .i64 a1)] => Zzg M a0_0n a0_0c a0_0 a1
 | _ => none
theorem Zvo : ∀ ds d,Z5n ds = some d → DataSem Tg 48 ds d := by
 intro ds d h
 unfold Z5n at h
 split at h
 ·exact Z1tg ((Z1nd M _ _ _ _).trans h)
 ·cases h
def Z2p : FnH := ⟨[(3,⟨(bm 462 34),[(1002000,20)],(some 4)⟩)],[(8,⟨(bm 974 34),[],(some 5)⟩)]⟩
noncomputable def Z4x : Hints := ⟨[],[],[]⟩
noncomputable def Zk9 (m n0 : Nat) (Zq : Int) (Zv : Nat) (Zz : Option Nat) (Zy : List D) (Z11 : Int) (Z13 : Nat) (Z1d : Option Nat) (Z1q : List D) (Z4t : Nat) (Zho : Nat) (Z6b : List D) : Option D :=
 Z1k (bm 462 34) 0 4 (codeK Tg Z4x.sp ⟨0,[],false,[]⟩ (inlK Tg Z4x m 4) m Z2p (subc [1,1,0,1,0,0] (bodyOf Tryz.f32))) n0 ⟨[Jk,(AV.d (D.v (.int .i64 Zq))),(AV.d (D.list Zv Zz Zy)),(AV.ptr 0 0),Jk,Jk,(AV.ptr 1 0),(AV.ptr 2 0),(AV.d (D.v (.int .i64 Z11))),Jk,Jk,Jk,Jk,Jk,Jk,Jk,Jk,Jk,Jk,Jk,Jk,Jk,Jk,Jk,Jk,Jk,Jk,Jk,Jk,Jk,Jk,Jk,Jk,Jk],[(Blk.d 1 [(D.list Z13 Z1d Z1q)]),(Blk.d 1 [(D.list 0 (some 0) [])]),(Blk.a 1 [(AV.sl 3 0 Z4t none 20)]),(Blk.d Zho Z6b)]⟩
  (contK Tg Z4x.sp ⟨0,[],false,[]⟩ (inlK Tg Z4x m 4) m Z2p (endK Tg Tryz.f32 endV) [.block 0,.code (subc [1,1,1] (bodyOf Tryz.f32))])
noncomputable def Zh8 (m n0 : Nat) (Z2z : Int) (Z4j : Nat) (Z3v : Option Nat) (Z3t : List D) (Z6p : Int) (Za0 : Nat) (Z91 : Option Nat) (Zph : List D) (Zx1 : Nat) (Z1ac : Nat) (Zx5 : List D) (Z146 : List D) : Option D :=
 cutK m (codeK Tg Z4x.sp ⟨0,[],false,[]⟩ (inlK Tg Z4x m 4) m Z2p (subc [1,1,0,1,0,0,1,0,0,1,1] (bodyOf Tryz.f32)) ⟨[Jk,(AV.d (D.v (.int .i64 Z2z))),(AV.d (D.list Z4j Z3v Z3t)),(AV.ptr 0 0),Jk,Jk,(AV.ptr 1 0),(AV.ptr 2 0),(AV.d (D.v (.int .i64 Z6p))),(AV.ptr 4 0),Jk,Jk,Jk,Jk,Jk,Jk,Jk,Jk,Jk,Jk,Jk,Jk,Jk,Jk,Jk,Jk,Jk,Jk,Jk,Jk,Jk,Jk,Jk,Jk],[(Blk.d 1 [(D.list Za0 Z91 Zph)]),(Blk.d 1 [(D.list 0 (some 0) [])]),(Blk.a 1 [(AV.sl 3 0 Zx1 none 20)]),(Blk.d Z1ac Zx5),(Blk.d 20 Z146)]⟩
  (contK Tg Z4x.sp ⟨0,[],false,[]⟩ (inlK Tg Z4x m 4) m Z2p (endK Tg Tryz.f32 endV) [.block 1,.code (subc [1,1,0,1,0,0,1,1] (bodyOf Tryz.f32)),.loop (bm 462 34) 4 (subc [1,1,0,1,0,0] (bodyOf Tryz.f32)) n0,.block 0,.code (subc [1,1,1] (bodyOf Tryz.f32))]))
theorem Z1cx (m n0 : Nat) (Z2z : Int) (Z4j : Nat) (Z3v : Option Nat) (Z3t : List D) (Z6p : Int) (Za0 : Nat) (Z91 : Option Nat) (Zph : List D) (Zx1 : Nat) (Z1ac : Nat) (Zx5 : List D) (Z146 : List D) : Zh8 m n0 Z2z Z4j Z3v Z3t Z6p Za0 Z91 Zph Zx1 Z1ac Zx5 Z146 =
 (if (List.length Z146) = 20 then
 if ownB ⟨0,[],false,[]⟩ 3 = true ∧ Z1ac = (Zx1 * 20) ∧ Z2v (Zx1 + 1) 128 ∧ (List.length Z146) = 20 then
 Zk9 m n0 Z2z Z4j Z3v Z3t (IntKind.wrap .i64 (Z6p + (1 : Int))) Za0 Z91 Zph (Zx1 + 1) ((Zx1 + 1) * 20) (Zx5 ++ Z146)
 else none
 else none) := (Z1w m _).trans (by kernel_rfl)
theorem Z1fh (m n0 : Nat) (Zq : Int) (Zv : Nat) (Zz : Option Nat) (Zy : List D) (Z11 : Int) (Z13 : Nat) (Z1d : Option Nat) (Z1q : List D) (Z4t : Nat) (Zho : Nat) (Z6b : List D) : Zk9 m (n0 + 1) Zq Zv Zz Zy Z11 Z13 Z1d Z1q Z4t Zho Z6b =
 (cond (decide (Z11 < (Z13 : Int)))
 (if 0 ≤ Z11 ∧ Z11 < (Z13 : Int) then
 if (((Int.toNat Z11) * 20) + 20) ≤ (List.length Z1q) then
 if (List.length ((List.drop ((Int.toNat Z11) * 20) Z1q).take 20)) = 20 then
 cond (Z11 == Zq)
 (Zh8 m n0 Zq Zv Zz Zy Z11 Z13 Z1d Z1q Z4t Zho Z6b (List.set ((List.drop ((Int.toNat Z11) * 20) Z1q).take 20) 18 (D.list Zv Zz Zy)))
 (Zh8 m n0 Zq Zv Zz Zy Z11 Z13 Z1d Z1q Z4t Zho Z6b ((List.drop ((Int.toNat Z11) * 20) Z1q).take 20))
 else none
 else none
 else none)
 (if (0 + (Z4t * 20)) ≤ Zho then
 some (D.agg [(D.list Z4t none (cutL Zho Z6b 0 (Z4t * 20)))])
 else none)) := by kernel_rfl
noncomputable def Zrt (m : Nat) (a0_0n : Nat) (a0_0c : Option Nat) (a0_0 : List D) (a1 : Int) (a2n : Nat) (a2c : Option Nat) (a2 : List D) : Option D :=
 Zk9 m m a1 a2n a2c a2 (0 : Int) a0_0n a0_0c a0_0 0 0 []
theorem Z1hm (m : Nat) (a0_0n : Nat) (a0_0c : Option Nat) (a0_0 : List D) (a1 : Int) (a2n : Nat) (a2c : Option Nat) (a2 : List D) : funD Tg Z4x m 4 Z2p Tryz.f32 [(D.agg [(D.list a0_0n a0_0c a0_0)]),(D.v (.int .i64 a1)),(D.list a2n a2c a2)] = Zrt m a0_0n a0_0c a0_0 a1 a2n a2c a2 := by kernel_rfl
theorem Z1nf : Enters Tg 32 := ⟨Tryz.f32,Tryz.func32,by kernel_rfl,by kernel_rfl⟩
theorem Z1ng {ds : List D} {d : D} (h : funD Tg Z4x M 4 Z2p Tryz.f32 ds = some d) : DataSem Tg 32 ds d := Z5 (H := Z4x) SpOk.nil mixed InlOk.nil Tryz.func32 Z1nf h
noncomputable def Z4y : List D → Option D
 | [.agg [.list a0_0n a0_0c a0_0],.v (.int .i64 a1),.list a2n a2c a2] => Zrt M a0_0n a0_0c a0_0 a1 a2n a2c a2
 | _ => none
theorem Z1nh : ∀ ds d,Z4y ds = some d → DataSem Tg 32 ds d := by
 intro ds d h
 unfold Z4y at h
 split at h
 ·exact Z1ng ((Z1hm M _ _ _ _ _ _ _).trans h)
 ·cases h
def Z53 : FnH := ⟨[(9,⟨(bm 240518170694 56),[],(some 3)⟩)],[]⟩
noncomputable def Z96 : Hints := ⟨[(48,Z5n),(53,Z2k),(58,Z7a),(59,Z3q)],[],[]⟩
noncomputable def Zka (m n0 : Nat) (Zq : Int) (Zv : Nat) (Zz : Option Nat) (Zy : List D) (Z11 : Nat) (Z13 : Nat) (Z1d : Option Nat) (Z1q : List D) (Z4t : Int) (Zho : Int) (Z6b : Nat) (Zxa : List D) : Option D :=
 Z1k (bm 240518170694 56) 0 3 (codeK Tg Z96.sp ⟨0,[],false,[]⟩ (inlK Tg Z96 m 4) m Z53 (subc [1,1,1,1,0,1,0,0] (bodyOf Tryz.f30))) n0 ⟨[Jk,(AV.d (D.v (.int .i64 Zq))),(AV.d (D.list Zv Zz Zy)),Jk,Jk,Jk,(AV.ptr 1 0),Jk,Jk,Jk,Jk,(AV.sl 2 0 Z11 (some Z11) 20),Jk,Jk,Jk,Jk,Jk,Jk,Jk,Jk,Jk,Jk,Jk,Jk,Jk,Jk,Jk,Jk,Jk,Jk,Jk,Jk,Jk,Jk,Jk,(AV.d (D.list Z13 Z1d Z1q)),(AV.d (D.v (.int .i64 Z4t))),(AV.d (D.v (.int .i64 Zho))),Jk,Jk,Jk,Jk,Jk,Jk,Jk,Jk,Jk,Jk,Jk,Jk,Jk,Jk,Jk,Jk,Jk,Jk],[(Blk.d 1 [(D.list Z13 Z1d Z1q)]),(Blk.d 1 [(D.list 0 (some 0) [])]),(Blk.d Z6b Zxa)]⟩
  (contK Tg Z96.sp ⟨0,[],false,[]⟩ (inlK Tg Z96 m 4) m Z53 (endK Tg Tryz.f30 endV) [.block 0,.code (subc [1,1,1,1,1] (bodyOf Tryz.f30))])
theorem Z1fi (m n0 : Nat) (Zq : Int) (Zv : Nat) (Zz : Option Nat) (Zy : List D) (Z11 : Nat) (Z13 : Nat) (Z1d : Option Nat) (Z1q : List D) (Z4t : Int) (Zho : Int) (Z6b : Nat) (Zxa : List D) : Zka m (n0 + 1) Zq Zv Zz Zy Z11 Z13 Z1d Z1q Z4t Zho Z6b Zxa =
 (cond (decide (Zho < Z4t))
 (if 0 ≤ Zho ∧ Zho < (Z13 : Int) then
 if (((Int.toNat Zho) * 20) + 20) ≤ (List.length Z1q) then
 if (List.length ((List.drop ((Int.toNat Zho) * 20) Z1q).take 20)) = 20 then
 (Z2k [(D.agg ((List.drop ((Int.toNat Zho) * 20) Z1q).take 20))]).bind fun d11 =>
 (rdA (some d11)).bind fun c12 =>
 if 0 ≤ Zho ∧ Zho < (Z11 : Int) then
 if (List.length c12) = 20 then
 if ((0 + ((Int.toNat Zho) * 20)) + 20) ≤ Z6b then
 Zka m n0 Zq Zv Zz Zy Z11 Z13 Z1d Z1q Z4t (IntKind.wrap .i64 (Zho + (1 : Int))) Z6b (putL Z6b Zxa (0 + ((Int.toNat Zho) * 20)) 20 c12)
 else none
 else none
 else none
 else none
 else none
 else none)
 ((Z3q [(D.list Zv Zz Zy)]).bind fun d13 =>
 (rdL (some d13)).bind fun q14 =>
 if 0 ≤ Zq ∧ Zq < (Z11 : Int) then
 if 1 = 1 ∧ ((0 + ((Int.toNat Zq) * 20)) + 18) < Z6b then
 if (0 + (Z11 * 20)) ≤ Z6b then
 some (D.tup [(D.agg [(D.list Z11 (some Z11) (cutL Z6b (List.set Zxa ((0 + ((Int.toNat Zq) * 20)) + 18) (D.list q14.n q14.cap q14.cs)) 0 (Z11 * 20)))]),zI])
 else none
 else none
 else none)) := by kernel_rfl
noncomputable def Zru (m : Nat) (a0_0n : Nat) (a0_0c : Option Nat) (a0_0 : List D) (a1 : Int) (a2n : Nat) (a2c : Option Nat) (a2 : List D) : Option D :=
 (Z5n [(D.agg [(D.list a0_0n a0_0c a0_0)]),(D.v (.int .i64 a1))]).bind fun d1 =>
 (rdT d1).bind fun r2 =>
 if List.length r2 = 2 then
 (rdL r2[0]?).bind fun q3 =>
 (rdI .i64 r2[1]?).bind fun x4 =>
 cond (x4 != (0 : Int))
 (some (D.tup [(D.agg [(D.list 0 (some 0) [])]),(D.v (.int .i64 x4))]))
 ((Z7a [(D.list a2n a2c a2)]).bind fun d5 =>
 (rdI .i64 (some d5)).bind fun x6 =>
 cond (x6 != (0 : Int))
 (some (D.tup [(D.agg [(D.list 0 (some 0) [])]),(D.v (.int .i64 x6))]))
 (if 0 ≤ (a0_0n : Int) ∧ (a0_0n : Int) ≤ (a0_0n : Int) ∧ Z2v (Int.toNat (a0_0n : Int)) 128 then
 Zka m m a1 a2n a2c a2 (Int.toNat (a0_0n : Int)) a0_0n a0_0c a0_0 (a0_0n : Int) (0 : Int) ((Int.toNat (a0_0n : Int)) * 20) (List.flatten (List.replicate (Int.toNat (a0_0n : Int)) [zI,(D.v (.int .u8 (0 : Int))),zU,zU,zU,zU,zU,zU,zU,zU,zU,zU,zU,zU,zU,zU,zU,zU,(D.list 0 (some 0) []),(D.list 0 (some 0) [])]))
 else none))
 else none
theorem Z1hn (m : Nat) (a0_0n : Nat) (a0_0c : Option Nat) (a0_0 : List D) (a1 : Int) (a2n : Nat) (a2c : Option Nat) (a2 : List D) : funD Tg Z96 m 4 Z53 Tryz.f30 [(D.agg [(D.list a0_0n a0_0c a0_0)]),(D.v (.int .i64 a1)),(D.list a2n a2c a2)] = Zru m a0_0n a0_0c a0_0 a1 a2n a2c a2 := by kernel_rfl
theorem Z1ni : Enters Tg 30 := ⟨Tryz.f30,Tryz.func30,by kernel_rfl,by kernel_rfl⟩
theorem Z1nj {ds : List D} {d : D} (h : funD Tg Z96 M 4 Z53 Tryz.f30 ds = some d) : DataSem Tg 30 ds d := Z5 (H := Z96) (SpOk.cons Zvo (SpOk.cons Zxb (SpOk.cons Z15a (SpOk.cons Zq8 SpOk.nil)))) mixed InlOk.nil Tryz.func30 Z1ni h
noncomputable def Z4z : List D → Option D
 | [.agg [.list a0_0n a0_0c a0_0],.v (.int .i64 a1),.list a2n a2c a2] => Zru M a0_0n a0_0c a0_0 a1 a2n a2c a2
 | _ => none
theorem Z1nk : ∀ ds d,Z4z ds = some d → DataSem Tg 30 ds d := by
 intro ds d h
 unfold Z4z at h
 split at h
 ·exact Z1nj ((Z1hn M _ _ _ _ _ _ _).trans h)
 ·cases h
end Go.Ev