/- Functions of the given program in plain form,printed: each with the proof that it is what the evaluator comes to,and that the program function returns what it says. No conditions. -/
import Derived.Test.YtnghcoghbbapgaaGreatDoorEzG3
set_option linter.unusedVariables false
set_option maxRecDepth 100000
namespace Go.Ev
open Go Go.Proofs
def Z36 : FnH := ⟨[(1,⟨(bm 14 28),[],(some 1)⟩),(3,⟨(bm 142 28),[],(some 1)⟩)],[]⟩
noncomputable def Z5k : Hints := ⟨[],[],[]⟩
noncomputable def Zad (m n0 : Nat) (Zq : Int) (Zv : Nat) (Zz : Option Nat) (Zy : List D) (Z11 : Nat) (Z13 : Option Nat) (Z1d : List D) : Option D :=
 Z1k (bm 14 28) 0 1 (codeK Tg Z5k.sp ⟨0,[],false,[]⟩ (inlK Tg Z5k m 4) m Z36 (subc [1,0,0,0] (bodyOf Tryz.f61))) n0 ⟨[Jk,(AV.d (D.v (.int .i64 Zq))),(AV.d (D.list Zv Zz Zy)),(AV.ptr 0 0),Jk,Jk,Jk,Jk,Jk,Jk,Jk,Jk,Jk,Jk,Jk,Jk,Jk,Jk,Jk,Jk,Jk,Jk,Jk,Jk,Jk,Jk,Jk,Jk],[(Blk.d 1 [(D.list Z11 Z13 Z1d)])]⟩
  (contK Tg Z5k.sp ⟨0,[],false,[]⟩ (inlK Tg Z5k m 4) m Z36 (endK Tg Tryz.f61 endV) [.block 0,.code (subc [1,1] (bodyOf Tryz.f61))])
noncomputable def Zof (m n0 n1 : Nat) (Zf5 : Int) (Zav : Nat) (Zic : Option Nat) (Zug : List D) (Zn0 : Int) (Zq7 : Nat) (Zpc : Option Nat) (Zh1 : List D) : Option D :=
 Z1k (bm 142 28) 0 1 (codeK Tg Z5k.sp ⟨0,[],false,[]⟩ (inlK Tg Z5k m 4) m Z36 (subc [1,0,0,0,1,0,0,1,0,0] (bodyOf Tryz.f61))) n1 ⟨[Jk,(AV.d (D.v (.int .i64 Zf5))),(AV.d (D.list Zav Zic Zug)),(AV.ptr 0 0),Jk,Jk,Jk,(AV.d (D.v (.int .i64 Zn0))),Jk,Jk,Jk,Jk,Jk,Jk,Jk,Jk,Jk,Jk,Jk,Jk,Jk,Jk,Jk,Jk,Jk,Jk,Jk,Jk],[(Blk.d 1 [(D.list Zq7 Zpc Zh1)])]⟩
  (contK Tg Z5k.sp ⟨0,[],false,[]⟩ (inlK Tg Z5k m 4) m Z36 (endK Tg Tryz.f61 endV) [.block 2,.code (subc [1,0,0,0,1,0,1] (bodyOf Tryz.f61)),.block 1,.loop (bm 14 28) 1 (subc [1,0,0,0] (bodyOf Tryz.f61)) n0,.block 0,.code (subc [1,1] (bodyOf Tryz.f61))])
theorem Z1hc (m n0 n1 : Nat) (Zf5 : Int) (Zav : Nat) (Zic : Option Nat) (Zug : List D) (Zn0 : Int) (Zq7 : Nat) (Zpc : Option Nat) (Zh1 : List D) : Zof m n0 (n1 + 1) Zf5 Zav Zic Zug Zn0 Zq7 Zpc Zh1 =
 (cond (decide (Zn0 < (Zav : Int)))
 (if 0 ≤ Zn0 ∧ Zn0 < (Zav : Int) then
 (rdI .i64 Zug[((Int.toNat Zn0) * 1)]?).bind fun x7 =>
 cond (x7 == Zf5)
 (some (D.v (.int .i64 (1 : Int))))
 (Zof m n0 n1 Zf5 Zav Zic Zug (IntKind.wrap .i64 (Zn0 + (1 : Int))) Zq7 Zpc Zh1)
 else none)
 (if 0 ≤ Zf5 ∧ Zf5 < (Zq7 : Int) then
 (rdI .i64 Zh1[(((Int.toNat Zf5) * 20) + 0)]?).bind fun x8 =>
 Zad m n0 x8 Zav Zic Zug Zq7 Zpc Zh1
 else none)) := by kernel_rfl
theorem Z124 (m n0 : Nat) (Zq : Int) (Zv : Nat) (Zz : Option Nat) (Zy : List D) (Z11 : Nat) (Z13 : Option Nat) (Z1d : List D) : Zad m (n0 + 1) Zq Zv Zz Zy Z11 Z13 Z1d =
 (cond (decide (Zq ≥ (0 : Int)))
 (Zof m n0 m Zq Zv Zz Zy (0 : Int) Z11 Z13 Z1d)
 (some zI)) := by kernel_rfl
noncomputable def Zvl (m : Nat) (a0_0n : Nat) (a0_0c : Option Nat) (a0_0 : List D) (a1 : Int) (a2n : Nat) (a2c : Option Nat) (a2 : List D) : Option D :=
 Zad m m a1 a2n a2c a2 a0_0n a0_0c a0_0
theorem Z1jt (m : Nat) (a0_0n : Nat) (a0_0c : Option Nat) (a0_0 : List D) (a1 : Int) (a2n : Nat) (a2c : Option Nat) (a2 : List D) : funD Tg Z5k m 4 Z36 Tryz.f61 [(D.agg [(D.list a0_0n a0_0c a0_0)]),(D.v (.int .i64 a1)),(D.list a2n a2c a2)] = Zvl m a0_0n a0_0c a0_0 a1 a2n a2c a2 := by kernel_rfl
theorem Z1pf : Enters Tg 61 := ⟨Tryz.f61,Tryz.func61,by kernel_rfl,by kernel_rfl⟩
theorem Z1pg {ds : List D} {d : D} (h : funD Tg Z5k M 4 Z36 Tryz.f61 ds = some d) : DataSem Tg 61 ds d := Z5 (H := Z5k) SpOk.nil mixed InlOk.nil Tryz.func61 Z1pf h
noncomputable def Zcf : List D → Option D
 | [.agg [.list a0_0n a0_0c a0_0],.v (.int .i64 a1),.list a2n a2c a2] => Zvl M a0_0n a0_0c a0_0 a1 a2n a2c a2
 | _ => none
theorem Z1ph : ∀ ds d,Zcf ds = some d → DataSem Tg 61 ds d := by
 intro ds d h
 unfold Zcf at h
 split at h
 ·exact Z1pg ((Z1jt M _ _ _ _ _ _ _).trans h)
 ·cases h
def Z1c : FnH := ⟨[(3,⟨(bm 118 51),[(1002000,20)],(some 4)⟩),(9,⟨(bm 1014 51),[],(some 5)⟩)],[(4,⟨(bm 118 51),[],(some 6)⟩)]⟩
noncomputable def Z1y : Hints := ⟨[(61,Zcf)],[],[]⟩
noncomputable def Z8i (m n0 : Nat) (Zq : Nat) (Zv : Option Nat) (Zz : List D) (Zy : Int) (Z11 : Nat) (Z13 : Option Nat) (Z1d : List D) (Z1q : Nat) (Z4t : Nat) (Zho : List D) : Option D :=
 Z1k (bm 118 51) 0 4 (codeK Tg Z1y.sp ⟨0,[],false,[]⟩ (inlK Tg Z1y m 4) m Z1c (subc [1,1,0,1,0,0] (bodyOf Tryz.f33))) n0 ⟨[Jk,(AV.d (D.list Zq Zv Zz)),(AV.ptr 0 0),Jk,(AV.ptr 1 0),(AV.ptr 2 0),(AV.d (D.v (.int .i64 Zy))),Jk,Jk,Jk,Jk,Jk,Jk,Jk,Jk,Jk,Jk,Jk,Jk,Jk,Jk,Jk,Jk,Jk,Jk,Jk,Jk,Jk,Jk,Jk,Jk,Jk,Jk,Jk,Jk,Jk,Jk,Jk,Jk,Jk,Jk,Jk,Jk,Jk,Jk,Jk,Jk,Jk,Jk,Jk,Jk],[(Blk.d 1 [(D.list Z11 Z13 Z1d)]),(Blk.d 1 [(D.list 0 (some 0) [])]),(Blk.a 1 [(AV.sl 3 0 Z1q none 20)]),(Blk.d Z4t Zho)]⟩
  (contK Tg Z1y.sp ⟨0,[],false,[]⟩ (inlK Tg Z1y m 4) m Z1c (endK Tg Tryz.f33 endV) [.block 0,.code (subc [1,1,1] (bodyOf Tryz.f33))])
noncomputable def Z125 (m n0 : Nat) (Z2z : Nat) (Z4j : Option Nat) (Z3v : List D) (Z3t : Int) (Z6p : Nat) (Za0 : Option Nat) (Z91 : List D) (Zph : Nat) (Zx1 : Nat) (Z1ac : List D) : Option D :=
 cutK m (codeK Tg Z1y.sp ⟨0,[],false,[]⟩ (inlK Tg Z1y m 4) m Z1c (subc [1,1,0,1,0,0,1,1] (bodyOf Tryz.f33)) ⟨[Jk,(AV.d (D.list Z2z Z4j Z3v)),(AV.ptr 0 0),Jk,(AV.ptr 1 0),(AV.ptr 2 0),(AV.d (D.v (.int .i64 Z3t))),Jk,Jk,Jk,Jk,Jk,Jk,Jk,Jk,Jk,Jk,Jk,Jk,Jk,Jk,Jk,Jk,Jk,Jk,Jk,Jk,Jk,Jk,Jk,Jk,Jk,Jk,Jk,Jk,Jk,Jk,Jk,Jk,Jk,Jk,Jk,Jk,Jk,Jk,Jk,Jk,Jk,Jk,Jk,Jk],[(Blk.d 1 [(D.list Z6p Za0 Z91)]),(Blk.d 1 [(D.list 0 (some 0) [])]),(Blk.a 1 [(AV.sl 3 0 Zph none 20)]),(Blk.d Zx1 Z1ac)]⟩
  (contK Tg Z1y.sp ⟨0,[],false,[]⟩ (inlK Tg Z1y m 4) m Z1c (endK Tg Tryz.f33 endV) [.loop (bm 118 51) 4 (subc [1,1,0,1,0,0] (bodyOf Tryz.f33)) n0,.block 0,.code (subc [1,1,1] (bodyOf Tryz.f33))]))
theorem Z1ct (m n0 : Nat) (Z2z : Nat) (Z4j : Option Nat) (Z3v : List D) (Z3t : Int) (Z6p : Nat) (Za0 : Option Nat) (Z91 : List D) (Zph : Nat) (Zx1 : Nat) (Z1ac : List D) : Z125 m n0 Z2z Z4j Z3v Z3t Z6p Za0 Z91 Zph Zx1 Z1ac =
 (Z8i m n0 Z2z Z4j Z3v (IntKind.wrap .i64 (Z3t + (1 : Int))) Z6p Za0 Z91 Zph Zx1 Z1ac) := (Z1w m _).trans (by kernel_rfl)
noncomputable def Zk7 (m n0 n1 : Nat) (Zf5 : Nat) (Zav : Option Nat) (Zic : List D) (Zug : Int) (Zn0 : Int) (Zq7 : Int) (Zpc : Nat) (Zh1 : Option Nat) (Zrj : List D) (Zpi : Nat) (Zj6 : Nat) (Zh4 : List D) (Z8t : List D) : Option D :=
 Z1k (bm 1014 51) 0 5 (codeK Tg Z1y.sp ⟨0,[],false,[]⟩ (inlK Tg Z1y m 4) m Z1c (subc [1,1,0,1,0,0,1,0,0,1,1,1,0,1,0,0] (bodyOf Tryz.f33))) n1 ⟨[Jk,(AV.d (D.list Zf5 Zav Zic)),(AV.ptr 0 0),Jk,(AV.ptr 1 0),(AV.ptr 2 0),(AV.d (D.v (.int .i64 Zug))),(AV.ptr 4 0),(AV.d (D.v (.int .i64 Zn0))),(AV.d (D.v (.int .i64 Zq7))),Jk,Jk,Jk,Jk,Jk,Jk,Jk,Jk,Jk,Jk,Jk,Jk,Jk,Jk,Jk,Jk,Jk,Jk,Jk,Jk,Jk,Jk,Jk,Jk,Jk,Jk,Jk,Jk,Jk,Jk,Jk,Jk,Jk,Jk,Jk,Jk,Jk,Jk,Jk,Jk,Jk],[(Blk.d 1 [(D.list Zpc Zh1 Zrj)]),(Blk.d 1 [(D.list 0 (some 0) [])]),(Blk.a 1 [(AV.sl 3 0 Zpi none 20)]),(Blk.d Zj6 Zh4),(Blk.d 20 Z8t)]⟩
  (contK Tg Z1y.sp ⟨0,[],false,[]⟩ (inlK Tg Z1y m 4) m Z1c (endK Tg Tryz.f33 endV) [.block 2,.code (subc [1,1,0,1,0,0,1,0,0,1,1,1,1] (bodyOf Tryz.f33)),.block 1,.code (subc [1,1,0,1,0,0,1,1] (bodyOf Tryz.f33)),.loop (bm 118 51) 4 (subc [1,1,0,1,0,0] (bodyOf Tryz.f33)) n0,.block 0,.code (subc [1,1,1] (bodyOf Tryz.f33))])
noncomputable def Zxd (m n0 : Nat) (Zd7 : Nat) (Zis : Option Nat) (Zit : List D) (Zgz : Int) (Zo0 : Nat) (Zme : Option Nat) (Zz4 : List D) (Z11x : Nat) (Z16k : Nat) (Z1cg : List D) (Z1cq : List D) (Z1sk : List D) : Option D :=
 cutK m (codeK Tg Z1y.sp ⟨0,[],false,[]⟩ (inlK Tg Z1y m 4) m Z1c (subc [1,1,0,1,0,0,1,1] (bodyOf Tryz.f33)) ⟨[Jk,(AV.d (D.list Zd7 Zis Zit)),(AV.ptr 0 0),Jk,(AV.ptr 1 0),(AV.ptr 2 0),(AV.d (D.v (.int .i64 Zgz))),Jk,Jk,Jk,Jk,Jk,Jk,Jk,Jk,Jk,Jk,Jk,Jk,Jk,Jk,Jk,Jk,Jk,Jk,Jk,Jk,Jk,Jk,Jk,Jk,Jk,Jk,Jk,Jk,Jk,Jk,Jk,Jk,Jk,Jk,Jk,Jk,Jk,Jk,Jk,Jk,Jk,Jk,Jk,Jk],[(Blk.d 1 [(D.list Zo0 Zme Zz4)]),(Blk.d 1 [(D.list 0 (some 0) [])]),(Blk.a 1 [(AV.sl 3 0 Z11x none 20)]),(Blk.d Z16k Z1cg),(Blk.d 20 Z1cq),(Blk.d 20 Z1sk)]⟩
  (contK Tg Z1y.sp ⟨0,[],false,[]⟩ (inlK Tg Z1y m 4) m Z1c (endK Tg Tryz.f33 endV) [.loop (bm 118 51) 4 (subc [1,1,0,1,0,0] (bodyOf Tryz.f33)) n0,.block 0,.code (subc [1,1,1] (bodyOf Tryz.f33))]))
theorem Z18e (m n0 : Nat) (Zd7 : Nat) (Zis : Option Nat) (Zit : List D) (Zgz : Int) (Zo0 : Nat) (Zme : Option Nat) (Zz4 : List D) (Z11x : Nat) (Z16k : Nat) (Z1cg : List D) (Z1cq : List D) (Z1sk : List D) : Zxd m n0 Zd7 Zis Zit Zgz Zo0 Zme Zz4 Z11x Z16k Z1cg Z1cq Z1sk =
 (Z8i m n0 Zd7 Zis Zit (IntKind.wrap .i64 (Zgz + (1 : Int))) Zo0 Zme Zz4 Z11x Z16k Z1cg) := (Z1w m _).trans (by kernel_rfl)
theorem Z1f4 (m n0 n1 : Nat) (Zf5 : Nat) (Zav : Option Nat) (Zic : List D) (Zug : Int) (Zn0 : Int) (Zq7 : Int) (Zpc : Nat) (Zh1 : Option Nat) (Zrj : List D) (Zpi : Nat) (Zj6 : Nat) (Zh4 : List D) (Z8t : List D) : Zk7 m n0 (n1 + 1) Zf5 Zav Zic Zug Zn0 Zq7 Zpc Zh1 Zrj Zpi Zj6 Zh4 Z8t =
 ((rdI .i64 Z8t[0]?).bind fun x33 =>
 cond (decide (Zq7 < x33))
 ((Zcf [(D.agg [(D.list Zpc Zh1 Zrj)]),(D.v (.int .i64 Zq7)),(D.list Zf5 Zav Zic)]).bind fun d34 =>
 (rdI .i64 (some d34)).bind fun x35 =>
 Zk7 m n0 n1 Zf5 Zav Zic Zug (IntKind.wrap .i64 (Zn0 + x35)) (IntKind.wrap .i64 (Zq7 + (1 : Int))) Zpc Zh1 Zrj Zpi Zj6 Zh4 Z8t)
 ((rdI .i64 Z8t[0]?).bind fun x36 =>
 if (List.length (List.set Z8t 0 (D.v (.int .i64 (IntKind.wrap .i64 (x36 - Zn0)))))) = 20 then
 if ownB ⟨0,[],false,[]⟩ 3 = true ∧ Zj6 = (Zpi * 20) ∧ Z2v (Zpi + 1) 128 ∧ (List.length (List.set Z8t 0 (D.v (.int .i64 (IntKind.wrap .i64 (x36 - Zn0)))))) = 20 then
 Zxd m n0 Zf5 Zav Zic Zug Zpc Zh1 Zrj (Zpi + 1) ((Zpi + 1) * 20) (Zh4 ++ (List.set Z8t 0 (D.v (.int .i64 (IntKind.wrap .i64 (x36 - Zn0)))))) (List.set Z8t 0 (D.v (.int .i64 (IntKind.wrap .i64 (x36 - Zn0))))) (List.set Z8t 0 (D.v (.int .i64 (IntKind.wrap .i64 (x36 - Zn0)))))
 else none
 else none)) := by kernel_rfl
theorem Z1f5 (m n0 : Nat) (Zq : Nat) (Zv : Option Nat) (Zz : List D) (Zy : Int) (Z11 : Nat) (Z13 : Option Nat) (Z1d : List D) (Z1q : Nat) (Z4t : Nat) (Zho : List D) : Z8i m (n0 + 1) Zq Zv Zz Zy Z11 Z13 Z1d Z1q Z4t Zho =
 (cond (decide (Zy < (Z11 : Int)))
 ((Zcf [(D.agg [(D.list Z11 Z13 Z1d)]),(D.v (.int .i64 Zy)),(D.list Zq Zv Zz)]).bind fun d25 =>
 (rdI .i64 (some d25)).bind fun x26 =>
 cond (x26 == (1 : Int))
 (Z125 m n0 Zq Zv Zz Zy Z11 Z13 Z1d Z1q Z4t Zho)
 (if 0 ≤ Zy ∧ Zy < (Z11 : Int) then
 if (((Int.toNat Zy) * 20) + 20) ≤ (List.length Z1d) then
 if (List.length ((List.drop ((Int.toNat Zy) * 20) Z1d).take 20)) = 20 then
 Zk7 m n0 m Zq Zv Zz Zy (0 : Int) (0 : Int) Z11 Z13 Z1d Z1q Z4t Zho ((List.drop ((Int.toNat Zy) * 20) Z1d).take 20)
 else none
 else none
 else none))
 (if (0 + (Z1q * 20)) ≤ Z4t then
 some (D.agg [(D.list Z1q none (cutL Z4t Zho 0 (Z1q * 20)))])
 else none)) := by kernel_rfl
noncomputable def Zrn (m : Nat) (a0_0n : Nat) (a0_0c : Option Nat) (a0_0 : List D) (a1n : Nat) (a1c : Option Nat) (a1 : List D) : Option D :=
 Z8i m m a1n a1c a1 (0 : Int) a0_0n a0_0c a0_0 0 0 []
theorem Z1hd (m : Nat) (a0_0n : Nat) (a0_0c : Option Nat) (a0_0 : List D) (a1n : Nat) (a1c : Option Nat) (a1 : List D) : funD Tg Z1y m 4 Z1c Tryz.f33 [(D.agg [(D.list a0_0n a0_0c a0_0)]),(D.list a1n a1c a1)] = Zrn m a0_0n a0_0c a0_0 a1n a1c a1 := by kernel_rfl
theorem Z1my : Enters Tg 33 := ⟨Tryz.f33,Tryz.func33,by kernel_rfl,by kernel_rfl⟩
theorem Z1mz {ds : List D} {d : D} (h : funD Tg Z1y M 4 Z1c Tryz.f33 ds = some d) : DataSem Tg 33 ds d := Z5 (H := Z1y) (SpOk.cons Z1ph SpOk.nil) mixed InlOk.nil Tryz.func33 Z1my h
noncomputable def Z4w : List D → Option D
 | [.agg [.list a0_0n a0_0c a0_0],.list a1n a1c a1] => Zrn M a0_0n a0_0c a0_0 a1n a1c a1
 | _ => none
theorem Z1n0 : ∀ ds d,Z4w ds = some d → DataSem Tg 33 ds d := by
 intro ds d h
 unfold Z4w at h
 split at h
 ·exact Z1mz ((Z1hd M _ _ _ _ _ _).trans h)
 ·cases h
def Z3l : FnH := ⟨[(2,⟨(bm 38 36),[],(some 1)⟩)],[(3,⟨(bm 38 36),[],(some 1)⟩)]⟩
noncomputable def Z6u : Hints := ⟨[],[],[]⟩
noncomputable def Zcg (m n0 : Nat) (Zq : Int) (Zv : Nat) (Zz : Option Nat) (Zy : List D) (Z11 : Nat) (Z13 : Option Nat) (Z1d : List D) : Option D :=
 Z1k (bm 38 36) 0 1 (codeK Tg Z6u.sp ⟨0,[],false,[]⟩ (inlK Tg Z6u m 4) m Z3l (subc [1,1,0,0,0] (bodyOf Tryz.f22))) n0 ⟨[Jk,(AV.d (D.v (.int .i64 Zq))),(AV.ptr 0 0),Jk,Jk,(AV.d (D.list Zv Zz Zy)),Jk,Jk,Jk,Jk,Jk,Jk,Jk,Jk,Jk,Jk,Jk,Jk,Jk,Jk,Jk,Jk,Jk,Jk,Jk,Jk,Jk,Jk,Jk,Jk,Jk,Jk,Jk,Jk,Jk,Jk],[(Blk.d 1 [(D.list Z11 Z13 Z1d)])]⟩
  (contK Tg Z6u.sp ⟨0,[],false,[]⟩ (inlK Tg Z6u m 4) m Z3l (endK Tg Tryz.f22 endV) [.block 0,.code (subc [1,1,1] (bodyOf Tryz.f22))])
noncomputable def Zog (m n0 : Nat) (Z2z : Int) (Z4j : Nat) (Z3v : Option Nat) (Z3t : List D) (Z6p : Nat) (Za0 : Option Nat) (Z91 : List D) : Option D :=
 cutK m (codeK Tg Z6u.sp ⟨0,[],false,[]⟩ (inlK Tg Z6u m 4) m Z3l (subc [1,1,0,0,0,1] (bodyOf Tryz.f22)) ⟨[Jk,(AV.d (D.v (.int .i64 Z2z))),(AV.ptr 0 0),Jk,Jk,(AV.d (D.list Z4j Z3v Z3t)),Jk,Jk,Jk,Jk,Jk,Jk,Jk,Jk,Jk,Jk,Jk,Jk,Jk,Jk,Jk,Jk,Jk,Jk,Jk,Jk,Jk,Jk,Jk,Jk,Jk,Jk,Jk,Jk,Jk,Jk],[(Blk.d 1 [(D.list Z6p Za0 Z91)])]⟩
  (contK Tg Z6u.sp ⟨0,[],false,[]⟩ (inlK Tg Z6u m 4) m Z3l (endK Tg Tryz.f22 endV) [.loop (bm 38 36) 1 (subc [1,1,0,0,0] (bodyOf Tryz.f22)) n0,.block 0,.code (subc [1,1,1] (bodyOf Tryz.f22))]))
theorem Z126 (m n0 : Nat) (Z2z : Int) (Z4j : Nat) (Z3v : Option Nat) (Z3t : List D) (Z6p : Nat) (Za0 : Option Nat) (Z91 : List D) : Zog m n0 Z2z Z4j Z3v Z3t Z6p Za0 Z91 =
 (if 0 ≤ Z2z ∧ Z2z < (Z6p : Int) then
 if ((((Int.toNat Z2z) * 20) + 1) + 17) ≤ (List.length Z91) then
 if (List.length ((List.drop (((Int.toNat Z2z) * 20) + 1) Z91).take 17)) = 17 then
 if (List.length Z3t) = (Z4j * 17) then
 if (1 + Z4j) ≤ 1 then
 (if (0 + ((1 + Z4j) * 17)) ≤ 17 ∧ (List.length Z3t) = (Z4j * 17) then
 if 0 ≤ Z2z ∧ Z2z < (Z6p : Int) then
 (rdI .i64 Z91[(((Int.toNat Z2z) * 20) + 0)]?).bind fun x6 =>
 if (0 + ((1 + Z4j) * 17)) ≤ 17 then
 Zcg m n0 x6 (1 + Z4j) (some 1) (cutL 17 (List.take 17 ((List.drop (((Int.toNat Z2z) * 20) + 1) Z91).take 17) ++ (Z3t ++ List.drop (0 + ((1 + Z4j) * 17)) ((List.drop (((Int.toNat Z2z) * 20) + 1) Z91).take 17))) 0 ((1 + Z4j) * 17)) Z6p Za0 Z91
 else none
 else none
 else none)
 else
 (if Z2v (1 + Z4j) 68 ∧ (List.length Z3t) = (Z4j * 17) then
 if 0 ≤ Z2z ∧ Z2z < (Z6p : Int) then
 (rdI .i64 Z91[(((Int.toNat Z2z) * 20) + 0)]?).bind fun x7 =>
 if (0 + ((1 + Z4j) * 17)) ≤ ((1 + Z4j) * 17) then
 Zcg m n0 x7 (1 + Z4j) none (cutL ((1 + Z4j) * 17) (((List.drop (((Int.toNat Z2z) * 20) + 1) Z91).take 17) ++ Z3t) 0 ((1 + Z4j) * 17)) Z6p Za0 Z91
 else none
 else none
 else none)
 else none
 else none
 else none
 else none) := (Z1w m _).trans (by kernel_rfl)
theorem Z15e (m n0 : Nat) (Zq : Int) (Zv : Nat) (Zz : Option Nat) (Zy : List D) (Z11 : Nat) (Z13 : Option Nat) (Z1d : List D) : Zcg m (n0 + 1) Zq Zv Zz Zy Z11 Z13 Z1d =
 (cond (decide (Zq ≥ (0 : Int)))
 (cond (decide (Zq < (Z11 : Int)))
 (cond (decide ((Zv : Int) < (100 : Int)))
 (Zog m n0 Zq Zv Zz Zy Z11 Z13 Z1d)
 (some (D.list Zv Zz Zy)))
 (some (D.list Zv Zz Zy)))
 (some (D.list Zv Zz Zy))) := by kernel_rfl
noncomputable def Z1in (m : Nat) (a0_0n : Nat) (a0_0c : Option Nat) (a0_0 : List D) (a1 : Int) : Option D :=
 Zcg m m a1 0 (some 0) [] a0_0n a0_0c a0_0
theorem Z1n1 (m : Nat) (a0_0n : Nat) (a0_0c : Option Nat) (a0_0 : List D) (a1 : Int) : funD Tg Z6u m 4 Z3l Tryz.f22 [(D.agg [(D.list a0_0n a0_0c a0_0)]),(D.v (.int .i64 a1))] = Z1in m a0_0n a0_0c a0_0 a1 := by kernel_rfl
theorem Z1st : Enters Tg 22 := ⟨Tryz.f22,Tryz.func22,by kernel_rfl,by kernel_rfl⟩
theorem Z1su {ds : List D} {d : D} (h : funD Tg Z6u M 4 Z3l Tryz.f22 ds = some d) : DataSem Tg 22 ds d := Z5 (H := Z6u) SpOk.nil mixed InlOk.nil Tryz.func22 Z1st h
noncomputable def Z26 : List D → Option D
 | [.agg [.list a0_0n a0_0c a0_0],.v (.int .i64 a1)] => Z1in M a0_0n a0_0c a0_0 a1
 | _ => none
theorem Z1f6 : ∀ ds d,Z26 ds = some d → DataSem Tg 22 ds d := by
 intro ds d h
 unfold Z26 at h
 split at h
 ·exact Z1su ((Z1n1 M _ _ _ _).trans h)
 ·cases h
def Z4f : FnH := ⟨[(4,⟨(bm 35 26),[],(some 0)⟩)],[]⟩
noncomputable def Z80 : Hints := ⟨[],[],[]⟩
noncomputable def Zh6 (m n0 : Nat) (Zq : Nat) (Zv : Option Nat) (Zz : List D) (Zy : Nat) (Z11 : Option Nat) (Z13 : List D) (Z1d : Int) : Option D :=
 Z1k (bm 35 26) 0 0 (codeK Tg Z80.sp ⟨0,[],false,[]⟩ (inlK Tg Z80 m 4) m Z4f (subc [1,1,0,1,0,0] (bodyOf Tryz.f21))) n0 ⟨[(AV.d (D.list Zq Zv Zz)),(AV.d (D.list Zy Z11 Z13)),Jk,Jk,Jk,(AV.d (D.v (.int .i64 Z1d))),Jk,Jk,Jk,Jk,Jk,Jk,Jk,Jk,Jk,Jk,Jk,Jk,Jk,Jk,Jk,Jk,Jk,Jk,Jk,Jk],[]⟩
  (contK Tg Z80.sp ⟨0,[],false,[]⟩ (inlK Tg Z80 m 4) m Z4f (endK Tg Tryz.f21 endV) [.block 0,.code (subc [1,1,1] (bodyOf Tryz.f21))])
theorem Z1cu (m n0 : Nat) (Zq : Nat) (Zv : Option Nat) (Zz : List D) (Zy : Nat) (Z11 : Option Nat) (Z13 : List D) (Z1d : Int) : Zh6 m (n0 + 1) Zq Zv Zz Zy Z11 Z13 Z1d =
 (cond (decide (Z1d < (Zq : Int)))
 (if 0 ≤ Z1d ∧ Z1d < (Zq : Int) then
 if (((Int.toNat Z1d) * 17) + 17) ≤ (List.length Zz) then
 if 0 ≤ Z1d ∧ Z1d < (Zy : Int) then
 if (((Int.toNat Z1d) * 17) + 17) ≤ (List.length Z13) then
 (cellsEq [.int,.int,.int,.int,.int,.int,.int,.int,.int,.int,.int,.int,.int,.int,.int,.int,.int] ((List.drop ((Int.toNat Z1d) * 17) Zz).take 17) ((List.drop ((Int.toNat Z1d) * 17) Z13).take 17)).bind fun b3 =>
 cond (!b3)
 (some zI)
 (Zh6 m n0 Zq Zv Zz Zy Z11 Z13 (IntKind.wrap .i64 (Z1d + (1 : Int))))
 else none
 else none
 else none
 else none)
 (some (D.v (.int .i64 (1 : Int))))) := by kernel_rfl
noncomputable def Zoh (m : Nat) (a0n : Nat) (a0c : Option Nat) (a0 : List D) (a1n : Nat) (a1c : Option Nat) (a1 : List D) : Option D :=
 cond ((a0n : Int) != (a1n : Int))
 (some zI)
 (Zh6 m m a0n a0c a0 a1n a1c a1 (0 : Int))
theorem Z1f7 (m : Nat) (a0n : Nat) (a0c : Option Nat) (a0 : List D) (a1n : Nat) (a1c : Option Nat) (a1 : List D) : funD Tg Z80 m 4 Z4f Tryz.f21 [(D.list a0n a0c a0),(D.list a1n a1c a1)] = Zoh m a0n a0c a0 a1n a1c a1 := by kernel_rfl
theorem Z1ju : Enters Tg 21 := ⟨Tryz.f21,Tryz.func21,by kernel_rfl,by kernel_rfl⟩
theorem Z1jv {ds : List D} {d : D} (h : funD Tg Z80 M 4 Z4f Tryz.f21 ds = some d) : DataSem Tg 21 ds d := Z5 (H := Z80) SpOk.nil mixed InlOk.nil Tryz.func21 Z1ju h
noncomputable def Z29 : List D → Option D
 | [.list a0n a0c a0,.list a1n a1c a1] => Zoh M a0n a0c a0 a1n a1c a1
 | _ => none
theorem Z15f : ∀ ds d,Z29 ds = some d → DataSem Tg 21 ds d := by
 intro ds d h
 unfold Z29 at h
 split at h
 ·exact Z1jv ((Z1f7 M _ _ _ _ _ _).trans h)
 ·cases h
def Z5l : FnH := ⟨[(4,⟨(bm 44 89),[],(some 2)⟩)],[(3,⟨(bm 12 89),[],(some 2)⟩)]⟩
noncomputable def Zbh : Hints := ⟨[],[],[]⟩
noncomputable def Z1jw (m : Nat) (Z2z : List D) (Z4j : List D) : Option D :=
 cutK m (codeK Tg Zbh.sp ⟨0,[],false,[]⟩ (inlK Tg Zbh m 4) m Z5l (subc [1,1] (bodyOf Tryz.f85)) ⟨[Jk,Jk,(AV.ptr 0 0),(AV.ptr 1 0),Jk,Jk,Jk,Jk,Jk,Jk,Jk,Jk,Jk,Jk,Jk,Jk,Jk,Jk,Jk,Jk,Jk,Jk,Jk,Jk,Jk,Jk,Jk,Jk,Jk,Jk,Jk,Jk,Jk,Jk,Jk,Jk,Jk,Jk,Jk,Jk,Jk,Jk,Jk,Jk,Jk,Jk,Jk,Jk,Jk,Jk,Jk,Jk,Jk,Jk,Jk,Jk,Jk,Jk,Jk,Jk,Jk,Jk,Jk,Jk,Jk,Jk,Jk,Jk,Jk,Jk,Jk,Jk,Jk,Jk,Jk,Jk,Jk,Jk,Jk,Jk,Jk,Jk,Jk,Jk,Jk,Jk,Jk,Jk,Jk],[(Blk.d 27 Z2z),(Blk.d 27 Z4j)]⟩
  (contK Tg Zbh.sp ⟨0,[],false,[]⟩ (inlK Tg Zbh m 4) m Z5l (endK Tg Tryz.f85 endV) []))
noncomputable def Z1f8 (m : Nat) (a0 : List D) (a1 : List D) : Option D :=
 if (List.length a0) = 27 then
 if (List.length a1) = 27 then
 (rdI .u8 a0[0]?).bind fun x1 =>
 (rdI .u8 a1[0]?).bind fun x2 =>
 cond (x1 != x2)
 (some (D.v (.bool false)))
 ((rdS a0[1]?).bind fun s3 =>
 (rdS a1[1]?).bind fun s4 =>
 cond (!(ByteArray.toList s3 == ByteArray.toList s4))
 (some (D.v (.bool false)))
 ((rdB a0[2]?).bind fun b5 =>
 (rdB a1[2]?).bind fun b6 =>
 cond (!(b5 == b6))
 (some (D.v (.bool false)))
 ((cellsEq [.int,.str] ((List.drop 3 a0).take 2) ((List.drop 3 a1).take 2)).bind fun b7 =>
 cond (!b7)
 (some (D.v (.bool false)))
 ((rdB a0[6]?).bind fun b8 =>
 (rdB a1[6]?).bind fun b9 =>
 cond (!(b8 == b9))
 (some (D.v (.bool false)))
 ((cellsEq [.int,.str] ((List.drop 7 a0).take 2) ((List.drop 7 a1).take 2)).bind fun b10 =>
 cond (!b10)
 (some (D.v (.bool false)))
 ((cellsEq [.int,.int,.int,.int,.int,.int,.int,.int,.int,.int,.int,.int,.int,.int,.int,.int,.int] ((List.drop 9 a0).take 17) ((List.drop 9 a1).take 17)).bind fun b11 =>
 cond (!b11)
 (some (D.v (.bool false)))
 ((rdL a0[26]?).bind fun q12 =>
 if (List.length q12.cs) = q12.n then
 (bytesOf q12.cs).bind fun l13 =>
 (rdL a1[26]?).bind fun q14 =>
 if (List.length q14.cs) = q14.n then
 (bytesOf q14.cs).bind fun l15 =>
 cond (!(ByteArray.toList (ByteArray.mk (List.toArray l13)) == ByteArray.toList (ByteArray.mk (List.toArray l15))))
 (some (D.v (.bool false)))
 ((rdL a0[5]?).bind fun q16 =>
 (rdL a1[5]?).bind fun q17 =>
 cond ((q16.n : Int) != (q17.n : Int))
 (some (D.v (.bool false)))
 (Z1jw m a0 a1))
 else none
 else none)))))))
 else none
 else none
theorem Z1jx (m : Nat) (a0 : List D) (a1 : List D) : funD Tg Zbh m 4 Z5l Tryz.f85 [(D.agg a0),(D.agg a1)] = Z1f8 m a0 a1 := by kernel_rfl
theorem Z1pi : Enters Tg 85 := ⟨Tryz.f85,Tryz.func85,by kernel_rfl,by kernel_rfl⟩
theorem Z1pj {ds : List D} {d : D} (h : funD Tg Zbh M 4 Z5l Tryz.f85 ds = some d) : DataSem Tg 85 ds d := Z5 (H := Zbh) SpOk.nil mixed InlOk.nil Tryz.func85 Z1pi h
noncomputable def Z6c : List D → Option D
 | [.agg a0,.agg a1] => Z1f8 M a0 a1
 | _ => none
theorem Z1pk : ∀ ds d,Z6c ds = some d → DataSem Tg 85 ds d := by
 intro ds d h
 unfold Z6c at h
 split at h
 ·exact Z1pj ((Z1jx M _ _).trans h)
 ·cases h
def Z6d : FnH := ⟨[(4,⟨(bm 35 27),[],(some 0)⟩)],[]⟩
noncomputable def Zfs : Hints := ⟨[(85,Z6c)],[],[]⟩
noncomputable def Zro (m n0 : Nat) (Zq : Nat) (Zv : Option Nat) (Zz : List D) (Zy : Nat) (Z11 : Option Nat) (Z13 : List D) (Z1d : Int) : Option D :=
 Z1k (bm 35 27) 0 0 (codeK Tg Zfs.sp ⟨0,[],false,[]⟩ (inlK Tg Zfs m 4) m Z6d (subc [1,1,0,1,0,0] (bodyOf Tryz.f62))) n0 ⟨[(AV.d (D.list Zq Zv Zz)),(AV.d (D.list Zy Z11 Z13)),Jk,Jk,Jk,(AV.d (D.v (.int .i64 Z1d))),Jk,Jk,Jk,Jk,Jk,Jk,Jk,Jk,Jk,Jk,Jk,Jk,Jk,Jk,Jk,Jk,Jk,Jk,Jk,Jk,Jk],[]⟩
  (contK Tg Zfs.sp ⟨0,[],false,[]⟩ (inlK Tg Zfs m 4) m Z6d (endK Tg Tryz.f62 endV) [.block 0,.code (subc [1,1,1] (bodyOf Tryz.f62))])
theorem Z1jy (m n0 : Nat) (Zq : Nat) (Zv : Option Nat) (Zz : List D) (Zy : Nat) (Z11 : Option Nat) (Z13 : List D) (Z1d : Int) : Zro m (n0 + 1) Zq Zv Zz Zy Z11 Z13 Z1d =
 (cond (decide (Z1d < (Zq : Int)))
 (if 0 ≤ Z1d ∧ Z1d < (Zq : Int) then
 if (((Int.toNat Z1d) * 27) + 27) ≤ (List.length Zz) then
 if 0 ≤ Z1d ∧ Z1d < (Zy : Int) then
 if (((Int.toNat Z1d) * 27) + 27) ≤ (List.length Z13) then
 (Z6c [(D.agg ((List.drop ((Int.toNat Z1d) * 27) Zz).take 27)),(D.agg ((List.drop ((Int.toNat Z1d) * 27) Z13).take 27))]).bind fun d5 =>
 (rdB (some d5)).bind fun b6 =>
 cond (!b6)
 (some (D.v (.bool false)))
 (Zro m n0 Zq Zv Zz Zy Z11 Z13 (IntKind.wrap .i64 (Z1d + (1 : Int))))
 else none
 else none
 else none
 else none)
 (some (D.v (.bool true)))) := by kernel_rfl
noncomputable def Zzb (m : Nat) (a0n : Nat) (a0c : Option Nat) (a0 : List D) (a1n : Nat) (a1c : Option Nat) (a1 : List D) : Option D :=
 cond ((a0n : Int) != (a1n : Int))
 (some (D.v (.bool false)))
 (Zro m m a0n a0c a0 a1n a1c a1 (0 : Int))
theorem Z1n2 (m : Nat) (a0n : Nat) (a0c : Option Nat) (a0 : List D) (a1n : Nat) (a1c : Option Nat) (a1 : List D) : funD Tg Zfs m 4 Z6d Tryz.f62 [(D.list a0n a0c a0),(D.list a1n a1c a1)] = Zzb m a0n a0c a0 a1n a1c a1 := by kernel_rfl
theorem Z1sv : Enters Tg 62 := ⟨Tryz.f62,Tryz.func62,by kernel_rfl,by kernel_rfl⟩
theorem Z1sw {ds : List D} {d : D} (h : funD Tg Zfs M 4 Z6d Tryz.f62 ds = some d) : DataSem Tg 62 ds d := Z5 (H := Zfs) (SpOk.cons Z1pk SpOk.nil) mixed InlOk.nil Tryz.func62 Z1sv h
noncomputable def Zoi : List D → Option D
 | [.list a0n a0c a0,.list a1n a1c a1] => Zzb M a0n a0c a0 a1n a1c a1
 | _ => none
theorem Z1sx : ∀ ds d,Zoi ds = some d → DataSem Tg 62 ds d := by
 intro ds d h
 unfold Zoi at h
 split at h
 ·exact Z1sw ((Z1n2 M _ _ _ _ _ _).trans h)
 ·cases h
def Z3m : FnH := ⟨[(4,⟨(bm 44 80),[],(some 2)⟩)],[(5,⟨(bm 44 80),[],(some 2)⟩)]⟩
noncomputable def Z6v : Hints := ⟨[(21,Z29),(62,Zoi)],[],[]⟩
noncomputable def Zrp (m n0 : Nat) (Zq : Int) (Zv : Nat) (Zz : Option Nat) (Zy : List D) (Z11 : Nat) (Z13 : Option Nat) (Z1d : List D) : Option D :=
 Z1k (bm 44 80) 0 2 (codeK Tg Z6v.sp ⟨0,[],false,[]⟩ (inlK Tg Z6v m 4) m Z3m (subc [1,1,0,1,0,0] (bodyOf Tryz.f34))) n0 ⟨[Jk,Jk,(AV.ptr 0 0),(AV.ptr 1 0),Jk,(AV.d (D.v (.int .i64 Zq))),Jk,Jk,Jk,Jk,Jk,Jk,Jk,Jk,Jk,Jk,Jk,Jk,Jk,Jk,Jk,Jk,Jk,Jk,Jk,Jk,Jk,Jk,Jk,Jk,Jk,Jk,Jk,Jk,Jk,Jk,Jk,Jk,Jk,Jk,Jk,Jk,Jk,Jk,Jk,Jk,Jk,Jk,Jk,Jk,Jk,Jk,Jk,Jk,Jk,Jk,Jk,Jk,Jk,Jk,Jk,Jk,Jk,Jk,Jk,Jk,Jk,Jk,Jk,Jk,Jk,Jk,Jk,Jk,Jk,Jk,Jk,Jk,Jk,Jk],[(Blk.d 1 [(D.list Zv Zz Zy)]),(Blk.d 1 [(D.list Z11 Z13 Z1d)])]⟩
  (contK Tg Z6v.sp ⟨0,[],false,[]⟩ (inlK Tg Z6v m 4) m Z3m (endK Tg Tryz.f34 endV) [.block 0,.code (subc [1,1,1] (bodyOf Tryz.f34))])
noncomputable def Z18f (m n0 : Nat) (Z2z : Int) (Z4j : Nat) (Z3v : Option Nat) (Z3t : List D) (Z6p : Nat) (Za0 : Option Nat) (Z91 : List D) : Option D :=
 cutK m (codeK Tg Z6v.sp ⟨0,[],false,[]⟩ (inlK Tg Z6v m 4) m Z3m (subc [1,1,0,1,0,0,1,1] (bodyOf Tryz.f34)) ⟨[Jk,Jk,(AV.ptr 0 0),(AV.ptr 1 0),Jk,(AV.d (D.v (.int .i64 Z2z))),Jk,Jk,Jk,Jk,Jk,Jk,Jk,Jk,Jk,Jk,Jk,Jk,Jk,Jk,Jk,Jk,Jk,Jk,Jk,Jk,Jk,Jk,Jk,Jk,Jk,Jk,Jk,Jk,Jk,Jk,Jk,Jk,Jk,Jk,Jk,Jk,Jk,Jk,Jk,Jk,Jk,Jk,Jk,Jk,Jk,Jk,Jk,Jk,Jk,Jk,Jk,Jk,Jk,Jk,Jk,Jk,Jk,Jk,Jk,Jk,Jk,Jk,Jk,Jk,Jk,Jk,Jk,Jk,Jk,Jk,Jk,Jk,Jk,Jk],[(Blk.d 1 [(D.list Z4j Z3v Z3t)]),(Blk.d 1 [(D.list Z6p Za0 Z91)])]⟩
  (contK Tg Z6v.sp ⟨0,[],false,[]⟩ (inlK Tg Z6v m 4) m Z3m (endK Tg Tryz.f34 endV) [.loop (bm 44 80) 2 (subc [1,1,0,1,0,0] (bodyOf Tryz.f34)) n0,.block 0,.code (subc [1,1,1] (bodyOf Tryz.f34))]))
theorem Z1he (m n0 : Nat) (Z2z : Int) (Z4j : Nat) (Z3v : Option Nat) (Z3t : List D) (Z6p : Nat) (Za0 : Option Nat) (Z91 : List D) : Z18f m n0 Z2z Z4j Z3v Z3t Z6p Za0 Z91 =
 (Zrp m n0 (IntKind.wrap .i64 (Z2z + (1 : Int))) Z4j Z3v Z3t Z6p Za0 Z91) := (Z1w m _).trans (by kernel_rfl)
theorem Z1jz (m n0 : Nat) (Zq : Int) (Zv : Nat) (Zz : Option Nat) (Zy : List D) (Z11 : Nat) (Z13 : Option Nat) (Z1d : List D) : Zrp m (n0 + 1) Zq Zv Zz Zy Z11 Z13 Z1d =
 (cond (decide (Zq < (Zv : Int)))
 (if 0 ≤ Zq ∧ Zq < (Zv : Int) then
 (rdI .i64 Zy[(((Int.toNat Zq) * 20) + 0)]?).bind fun x23 =>
 if 0 ≤ Zq ∧ Zq < (Z11 : Int) then
 (rdI .i64 Z1d[(((Int.toNat Zq) * 20) + 0)]?).bind fun x24 =>
 cond (x23 != x24)
 (some zI)
 (if 0 ≤ Zq ∧ Zq < (Zv : Int) then
 if ((((Int.toNat Zq) * 20) + 1) + 17) ≤ (List.length Zy) then
 if 0 ≤ Zq ∧ Zq < (Z11 : Int) then
 if ((((Int.toNat Zq) * 20) + 1) + 17) ≤ (List.length Z1d) then
 (cellsEq [.int,.int,.int,.int,.int,.int,.int,.int,.int,.int,.int,.int,.int,.int,.int,.int,.int] ((List.drop (((Int.toNat Zq) * 20) + 1) Zy).take 17) ((List.drop (((Int.toNat Zq) * 20) + 1) Z1d).take 17)).bind fun b25 =>
 cond (!b25)
 (some zI)
 (if 0 ≤ Zq ∧ Zq < (Zv : Int) then
 (rdL Zy[(((Int.toNat Zq) * 20) + 18)]?).bind fun q26 =>
 if 0 ≤ Zq ∧ Zq < (Z11 : Int) then
 (rdL Z1d[(((Int.toNat Zq) * 20) + 18)]?).bind fun q27 =>
 (Z29 [(D.list q26.n q26.cap q26.cs),(D.list q27.n q27.cap q27.cs)]).bind fun d28 =>
 (rdI .i64 (some d28)).bind fun x29 =>
 cond (x29 == (0 : Int))
 (some zI)
 (if 0 ≤ Zq ∧ Zq < (Zv : Int) then
 (rdL Zy[(((Int.toNat Zq) * 20) + 19)]?).bind fun q30 =>
 if 0 ≤ Zq ∧ Zq < (Z11 : Int) then
 (rdL Z1d[(((Int.toNat Zq) * 20) + 19)]?).bind fun q31 =>
 (Zoi [(D.list q30.n q30.cap q30.cs),(D.list q31.n q31.cap q31.cs)]).bind fun d32 =>
 (rdB (some d32)).bind fun b33 =>
 cond (!b33)
 (some zI)
 (Z18f m n0 Zq Zv Zz Zy Z11 Z13 Z1d)
 else none
 else none)
 else none
 else none)
 else none
 else none
 else none
 else none)
 else none
 else none)
 (some (D.v (.int .i64 (1 : Int))))) := by kernel_rfl
noncomputable def Zzc (m : Nat) (a0_0n : Nat) (a0_0c : Option Nat) (a0_0 : List D) (a1_0n : Nat) (a1_0c : Option Nat) (a1_0 : List D) : Option D :=
 cond ((a0_0n : Int) != (a1_0n : Int))
 (some zI)
 (Zrp m m (0 : Int) a0_0n a0_0c a0_0 a1_0n a1_0c a1_0)
theorem Z1n3 (m : Nat) (a0_0n : Nat) (a0_0c : Option Nat) (a0_0 : List D) (a1_0n : Nat) (a1_0c : Option Nat) (a1_0 : List D) : funD Tg Z6v m 4 Z3m Tryz.f34 [(D.agg [(D.list a0_0n a0_0c a0_0)]),(D.agg [(D.list a1_0n a1_0c a1_0)])] = Zzc m a0_0n a0_0c a0_0 a1_0n a1_0c a1_0 := by kernel_rfl
theorem Z1sy : Enters Tg 34 := ⟨Tryz.f34,Tryz.func34,by kernel_rfl,by kernel_rfl⟩
theorem Z1sz {ds : List D} {d : D} (h : funD Tg Z6v M 4 Z3m Tryz.f34 ds = some d) : DataSem Tg 34 ds d := Z5 (H := Z6v) (SpOk.cons Z15f (SpOk.cons Z1sx SpOk.nil)) mixed InlOk.nil Tryz.func34 Z1sy h
noncomputable def Z52 : List D → Option D
 | [.agg [.list a0_0n a0_0c a0_0],.agg [.list a1_0n a1_0c a1_0]] => Zzc M a0_0n a0_0c a0_0 a1_0n a1_0c a1_0
 | _ => none
theorem Z1f9 : ∀ ds d,Z52 ds = some d → DataSem Tg 34 ds d := by
 intro ds d h
 unfold Z52 at h
 split at h
 ·exact Z1sz ((Z1n3 M _ _ _ _ _ _).trans h)
 ·cases h
end Go.Ev