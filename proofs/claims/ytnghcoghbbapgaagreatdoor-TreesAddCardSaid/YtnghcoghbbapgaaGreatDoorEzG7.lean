/- Functions of the given program in plain form,printed: each with the proof that it is what the evaluator comes to,and that the program function returns what it says. No conditions. -/
import Derived.Test.YtnghcoghbbapgaaGreatDoorEzG2
set_option linter.unusedVariables false
set_option maxRecDepth 100000
namespace Go.Ev
open Go Go.Proofs
def Z5i : FnH := ⟨[],[]⟩
noncomputable def Zfq : Hints := ⟨[],[],[]⟩
noncomputable def Z8s (m : Nat) (a0n : Nat) (a0c : Option Nat) (a0 : List D) : Option D :=
 cond ((a0n : Int) == (0 : Int))
 (some (D.list 0 (some 0) []))
 (if 0 ≤ (a0n : Int) ∧ (a0n : Int) ≤ (a0n : Int) ∧ Z2v (Int.toNat (a0n : Int)) 68 then
 if (List.length a0) = (a0n * 17) then
 if (0 + ((Int.toNat (a0n : Int)) * 17)) ≤ ((Int.toNat (a0n : Int)) * 17) ∧ (List.length a0) = (a0n * 17) then
 if (0 + ((Int.toNat (a0n : Int)) * 17)) ≤ ((Int.toNat (a0n : Int)) * 17) then
 some (D.list (Int.toNat (a0n : Int)) (some (Int.toNat (a0n : Int))) (cutL ((Int.toNat (a0n : Int)) * 17) (List.take 0 (List.flatten (List.replicate (Int.toNat (a0n : Int)) [(D.v (.int .u8 (0 : Int))),zU,zU,zU,zU,zU,zU,zU,zU,zU,zU,zU,zU,zU,zU,zU,zU])) ++ (List.take ((Nat.min a0n (Int.toNat (a0n : Int))) * 17) a0 ++ List.drop (0 + ((Nat.min a0n (Int.toNat (a0n : Int))) * 17)) (List.flatten (List.replicate (Int.toNat (a0n : Int)) [(D.v (.int .u8 (0 : Int))),zU,zU,zU,zU,zU,zU,zU,zU,zU,zU,zU,zU,zU,zU,zU,zU])))) 0 ((Int.toNat (a0n : Int)) * 17)))
 else none
 else none
 else none
 else none)
theorem Z122 (m : Nat) (a0n : Nat) (a0c : Option Nat) (a0 : List D) : funD Tg Zfq m 4 Z5i Tryz.f59 [(D.list a0n a0c a0)] = Z8s m a0n a0c a0 := by kernel_rfl
theorem Z16e : Enters Tg 59 := ⟨Tryz.f59,Tryz.func59,by kernel_rfl,by kernel_rfl⟩
theorem Z16f {ds : List D} {d : D} (h : funD Tg Zfq M 4 Z5i Tryz.f59 ds = some d) : DataSem Tg 59 ds d := Z5 (H := Zfq) SpOk.nil mixed InlOk.nil Tryz.func59 Z16e h
noncomputable def Z3q : List D → Option D
 | [.list a0n a0c a0] => Z8s M a0n a0c a0
 | _ => none
theorem Zq8 : ∀ ds d,Z3q ds = some d → DataSem Tg 59 ds d := by
 intro ds d h
 unfold Z3q at h
 split at h
 ·exact Z16f ((Z122 M _ _ _).trans h)
 ·cases h
def Z64 : FnH := ⟨[],[]⟩
noncomputable def Zid : Hints := ⟨[],[],[]⟩
noncomputable def Zuh (m : Nat) (a0n : Nat) (a0c : Option Nat) (a0 : List D) : Option D :=
 cond ((a0n : Int) == (0 : Int))
 (some (D.list 0 (some 0) []))
 (if 0 ≤ (a0n : Int) ∧ (a0n : Int) ≤ (a0n : Int) ∧ Z2v (Int.toNat (a0n : Int)) 4 then
 if (List.length a0) = (a0n * 1) then
 if (0 + ((Int.toNat (a0n : Int)) * 1)) ≤ ((Int.toNat (a0n : Int)) * 1) ∧ (List.length a0) = (a0n * 1) then
 if (0 + ((Int.toNat (a0n : Int)) * 1)) ≤ ((Int.toNat (a0n : Int)) * 1) then
 some (D.list (Int.toNat (a0n : Int)) (some (Int.toNat (a0n : Int))) (cutL ((Int.toNat (a0n : Int)) * 1) (List.take 0 (List.flatten (List.replicate (Int.toNat (a0n : Int)) [zU])) ++ (List.take ((Nat.min a0n (Int.toNat (a0n : Int))) * 1) a0 ++ List.drop (0 + ((Nat.min a0n (Int.toNat (a0n : Int))) * 1)) (List.flatten (List.replicate (Int.toNat (a0n : Int)) [zU])))) 0 ((Int.toNat (a0n : Int)) * 1)))
 else none
 else none
 else none
 else none)
theorem Z145 (m : Nat) (a0n : Nat) (a0c : Option Nat) (a0 : List D) : funD Tg Zid m 4 Z64 Tryz.f82 [(D.list a0n a0c a0)] = Zuh m a0n a0c a0 := by kernel_rfl
theorem Z186 : Enters Tg 82 := ⟨Tryz.f82,Tryz.func82,by kernel_rfl,by kernel_rfl⟩
theorem Z187 {ds : List D} {d : D} (h : funD Tg Zid M 4 Z64 Tryz.f82 ds = some d) : DataSem Tg 82 ds d := Z5 (H := Zid) SpOk.nil mixed InlOk.nil Tryz.func82 Z186 h
noncomputable def Z6s : List D → Option D
 | [.list a0n a0c a0] => Zuh M a0n a0c a0
 | _ => none
theorem Z188 : ∀ ds d,Z6s ds = some d → DataSem Tg 82 ds d := by
 intro ds d h
 unfold Z6s at h
 split at h
 ·exact Z187 ((Z145 M _ _ _).trans h)
 ·cases h
def Z7e : FnH := ⟨[],[]⟩
noncomputable def Zo9 : Hints := ⟨[],[],[]⟩
noncomputable def Zz9 (m : Nat) (a0n : Nat) (a0c : Option Nat) (a0 : List D) : Option D :=
 cond ((a0n : Int) == (0 : Int))
 (some (D.list 0 (some 0) []))
 (if 0 ≤ (a0n : Int) ∧ (a0n : Int) ≤ (a0n : Int) ∧ Z2v (Int.toNat (a0n : Int)) 1 then
 if (List.length a0) = (a0n * 1) then
 if (0 + ((Int.toNat (a0n : Int)) * 1)) ≤ ((Int.toNat (a0n : Int)) * 1) ∧ (List.length a0) = (a0n * 1) then
 if (0 + ((Int.toNat (a0n : Int)) * 1)) ≤ ((Int.toNat (a0n : Int)) * 1) then
 some (D.list (Int.toNat (a0n : Int)) (some (Int.toNat (a0n : Int))) (cutL ((Int.toNat (a0n : Int)) * 1) (List.take 0 (List.flatten (List.replicate (Int.toNat (a0n : Int)) [(D.v (.int .u8 (0 : Int)))])) ++ (List.take ((Nat.min a0n (Int.toNat (a0n : Int))) * 1) a0 ++ List.drop (0 + ((Nat.min a0n (Int.toNat (a0n : Int))) * 1)) (List.flatten (List.replicate (Int.toNat (a0n : Int)) [(D.v (.int .u8 (0 : Int)))])))) 0 ((Int.toNat (a0n : Int)) * 1)))
 else none
 else none
 else none
 else none)
theorem Z189 (m : Nat) (a0n : Nat) (a0c : Option Nat) (a0 : List D) : funD Tg Zo9 m 4 Z7e Tryz.f83 [(D.list a0n a0c a0)] = Zz9 m a0n a0c a0 := by kernel_rfl
theorem Z1cn : Enters Tg 83 := ⟨Tryz.f83,Tryz.func83,by kernel_rfl,by kernel_rfl⟩
theorem Z1co {ds : List D} {d : D} (h : funD Tg Zo9 M 4 Z7e Tryz.f83 ds = some d) : DataSem Tg 83 ds d := Z5 (H := Zo9) SpOk.nil mixed InlOk.nil Tryz.func83 Z1cn h
noncomputable def Z7z : List D → Option D
 | [.list a0n a0c a0] => Zz9 M a0n a0c a0
 | _ => none
theorem Z1cp : ∀ ds d,Z7z ds = some d → DataSem Tg 83 ds d := by
 intro ds d h
 unfold Z7z at h
 split at h
 ·exact Z1co ((Z189 M _ _ _).trans h)
 ·cases h
def Z2o : FnH := ⟨[(4,⟨(bm 114694 39),[],(some 3)⟩)],[]⟩
def Zcc : FnH := ⟨[],[]⟩
noncomputable def Z4u : Hints := ⟨[(59,Z3q),(82,Z6s),(83,Z7z)],[(81,Tryz.f81,Zcc)],[]⟩
noncomputable def Zty (m n0 : Nat) (Zq : Int) (Zv : Int) (Zz : Int) (Zy : Int) (Z11 : Int) (Z13 : Int) (Z1d : Int) (Z1q : Int) (Z4t : Int) (Zho : Int) (Z6b : Int) (Zxa : Int) (Z21x : Int) (Z21y : Int) (Z21z : Int) (Z220 : Int) (Z221 : Int) (Z222 : Int) (Z223 : Nat) (Z224 : Option Nat) (Z225 : List D) : Option D :=
 Z1k (bm 114694 39) 0 3 (codeK Tg Z4u.sp ⟨0,[],false,[]⟩ (inlK Tg Z4u m 4) m Z2o (subc [1,1,1,0,1,0,0] (bodyOf Tryz.f53))) n0 ⟨[Jk,(AV.ptr 0 0),(AV.ptr 1 0),Jk,Jk,Jk,Jk,Jk,Jk,Jk,Jk,Jk,Jk,Jk,(AV.d (D.list 0 (some 0) [])),(AV.d zI),(AV.d zI),Jk,Jk,Jk,Jk,Jk,Jk,Jk,Jk,Jk,Jk,Jk,Jk,Jk,Jk,Jk,Jk,Jk,Jk,Jk,Jk,Jk,Jk],[(Blk.d 20 [(D.v (.int .i64 Zq)),(D.v (.int .u8 Zv)),(D.v (.int .u32 Zz)),(D.v (.int .u32 Zy)),(D.v (.int .u32 Z11)),(D.v (.int .u32 Z13)),(D.v (.int .u32 Z1d)),(D.v (.int .u32 Z1q)),(D.v (.int .u32 Z4t)),(D.v (.int .u32 Zho)),(D.v (.int .u32 Z6b)),(D.v (.int .u32 Zxa)),(D.v (.int .u32 Z21x)),(D.v (.int .u32 Z21y)),(D.v (.int .u32 Z21z)),(D.v (.int .u32 Z220)),(D.v (.int .u32 Z221)),(D.v (.int .u32 Z222)),(D.list Z223 Z224 Z225),(D.list 0 (some 0) [])]),(Blk.d 20 [zI,(D.v (.int .u8 (0 : Int))),zU,zU,zU,zU,zU,zU,zU,zU,zU,zU,zU,zU,zU,zU,zU,zU,(D.list 0 (some 0) []),(D.list 0 (some 0) [])])]⟩
  (contK Tg Z4u.sp ⟨0,[],false,[]⟩ (inlK Tg Z4u m 4) m Z2o (endK Tg Tryz.f53 endV) [.block 0,.code (subc [1,1,1,1] (bodyOf Tryz.f53))])
theorem Z1ew (m n0 : Nat) (Zq : Int) (Zv : Int) (Zz : Int) (Zy : Int) (Z11 : Int) (Z13 : Int) (Z1d : Int) (Z1q : Int) (Z4t : Int) (Zho : Int) (Z6b : Int) (Zxa : Int) (Z21x : Int) (Z21y : Int) (Z21z : Int) (Z220 : Int) (Z221 : Int) (Z222 : Int) (Z223 : Nat) (Z224 : Option Nat) (Z225 : List D) : Zty m (n0 + 1) Zq Zv Zz Zy Z11 Z13 Z1d Z1q Z4t Zho Z6b Zxa Z21x Z21y Z21z Z220 Z221 Z222 Z223 Z224 Z225 =
 (some (D.agg [(D.v (.int .i64 Zq)),(D.v (.int .u8 Zv)),(D.v (.int .u32 Zz)),(D.v (.int .u32 Zy)),(D.v (.int .u32 Z11)),(D.v (.int .u32 Z13)),(D.v (.int .u32 Z1d)),(D.v (.int .u32 Z1q)),(D.v (.int .u32 Z4t)),(D.v (.int .u32 Zho)),(D.v (.int .u32 Z6b)),(D.v (.int .u32 Zxa)),(D.v (.int .u32 Z21x)),(D.v (.int .u32 Z21y)),(D.v (.int .u32 Z21z)),(D.v (.int .u32 Z220)),(D.v (.int .u32 Z221)),(D.v (.int .u32 Z222)),(D.list Z223 Z224 Z225),(D.list 0 (some 0) [])])) := by kernel_rfl
noncomputable def Zd9 (m n0 : Nat) (Zf5 : Nat) (Zav : Int) (Zic : Int) (Zug : Int) (Zn0 : Int) (Zq7 : Int) (Zpc : Int) (Zh1 : Int) (Zrj : Int) (Zpi : Int) (Zj6 : Int) (Zh4 : Int) (Z8t : Int) (Zj7 : Int) (Z16g : Int) (Z1ad : Int) (Z1ae : Int) (Z123 : Int) (Z18a : Int) (Z1v4 : Int) (Z1v5 : Int) (Z1v6 : Nat) (Z1v7 : Option Nat) (Z1v8 : List D) (Z1jo : Nat) (Z1v9 : List D) : Option D :=
 Z1k (bm 114694 39) 0 3 (codeK Tg Z4u.sp ⟨0,[],false,[]⟩ (inlK Tg Z4u m 4) m Z2o (subc [1,1,1,0,1,0,0] (bodyOf Tryz.f53))) n0 ⟨[Jk,(AV.ptr 0 0),(AV.ptr 1 0),Jk,Jk,Jk,Jk,Jk,Jk,Jk,Jk,Jk,Jk,Jk,(AV.sl 2 0 Zf5 (some Zf5) 27),(AV.d (D.v (.int .i64 Zav))),(AV.d (D.v (.int .i64 Zic))),Jk,Jk,Jk,Jk,Jk,Jk,Jk,Jk,Jk,Jk,Jk,Jk,Jk,Jk,Jk,Jk,Jk,Jk,Jk,Jk,Jk,Jk],[(Blk.a 20 [(AV.d (D.v (.int .i64 Zug))),(AV.d (D.v (.int .u8 Zn0))),(AV.d (D.v (.int .u32 Zq7))),(AV.d (D.v (.int .u32 Zpc))),(AV.d (D.v (.int .u32 Zh1))),(AV.d (D.v (.int .u32 Zrj))),(AV.d (D.v (.int .u32 Zpi))),(AV.d (D.v (.int .u32 Zj6))),(AV.d (D.v (.int .u32 Zh4))),(AV.d (D.v (.int .u32 Z8t))),(AV.d (D.v (.int .u32 Zj7))),(AV.d (D.v (.int .u32 Z16g))),(AV.d (D.v (.int .u32 Z1ad))),(AV.d (D.v (.int .u32 Z1ae))),(AV.d (D.v (.int .u32 Z123))),(AV.d (D.v (.int .u32 Z18a))),(AV.d (D.v (.int .u32 Z1v4))),(AV.d (D.v (.int .u32 Z1v5))),(AV.d (D.list Z1v6 Z1v7 Z1v8)),(AV.sl 2 0 Zf5 (some Zf5) 27)]),(Blk.d 20 [zI,(D.v (.int .u8 (0 : Int))),zU,zU,zU,zU,zU,zU,zU,zU,zU,zU,zU,zU,zU,zU,zU,zU,(D.list 0 (some 0) []),(D.list 0 (some 0) [])]),(Blk.d Z1jo Z1v9)]⟩
  (contK Tg Z4u.sp ⟨0,[],false,[]⟩ (inlK Tg Z4u m 4) m Z2o (endK Tg Tryz.f53 endV) [.block 0,.code (subc [1,1,1,1] (bodyOf Tryz.f53))])
theorem Z1af (m n0 : Nat) (Zf5 : Nat) (Zav : Int) (Zic : Int) (Zug : Int) (Zn0 : Int) (Zq7 : Int) (Zpc : Int) (Zh1 : Int) (Zrj : Int) (Zpi : Int) (Zj6 : Int) (Zh4 : Int) (Z8t : Int) (Zj7 : Int) (Z16g : Int) (Z1ad : Int) (Z1ae : Int) (Z123 : Int) (Z18a : Int) (Z1v4 : Int) (Z1v5 : Int) (Z1v6 : Nat) (Z1v7 : Option Nat) (Z1v8 : List D) (Z1jo : Nat) (Z1v9 : List D) : Zd9 m (n0 + 1) Zf5 Zav Zic Zug Zn0 Zq7 Zpc Zh1 Zrj Zpi Zj6 Zh4 Z8t Zj7 Z16g Z1ad Z1ae Z123 Z18a Z1v4 Z1v5 Z1v6 Z1v7 Z1v8 Z1jo Z1v9 =
 (cond (decide (Zic < Zav))
 (if 0 ≤ Zic ∧ Zic < (Zf5 : Int) then
 if ((0 + ((Int.toNat Zic) * 27)) + 27) ≤ Z1jo then
 if (List.length (cutL Z1jo Z1v9 (0 + ((Int.toNat Zic) * 27)) 27)) = 27 then
 (rdL (cutL Z1jo Z1v9 (0 + ((Int.toNat Zic) * 27)) 27)[5]?).bind fun q15 =>
 (Z6s [(D.list q15.n q15.cap q15.cs)]).bind fun d16 =>
 (rdL (some d16)).bind fun q17 =>
 if 0 ≤ Zic ∧ Zic < (Zf5 : Int) then
 if 1 = 1 ∧ ((0 + ((Int.toNat Zic) * 27)) + 5) < Z1jo then
 (rdL (cutL Z1jo Z1v9 (0 + ((Int.toNat Zic) * 27)) 27)[26]?).bind fun q18 =>
 (Z7z [(D.list q18.n q18.cap q18.cs)]).bind fun d19 =>
 (rdL (some d19)).bind fun q20 =>
 if 0 ≤ Zic ∧ Zic < (Zf5 : Int) then
 if 1 = 1 ∧ ((0 + ((Int.toNat Zic) * 27)) + 26) < Z1jo then
 Zd9 m n0 Zf5 Zav (IntKind.wrap .i64 (Zic + (1 : Int))) Zug Zn0 Zq7 Zpc Zh1 Zrj Zpi Zj6 Zh4 Z8t Zj7 Z16g Z1ad Z1ae Z123 Z18a Z1v4 Z1v5 Z1v6 Z1v7 Z1v8 Z1jo (List.set (List.set Z1v9 ((0 + ((Int.toNat Zic) * 27)) + 5) (D.list q17.n q17.cap q17.cs)) ((0 + ((Int.toNat Zic) * 27)) + 26) (D.list q20.n q20.cap q20.cs))
 else none
 else none
 else none
 else none
 else none
 else none
 else none)
 (if (0 + (Zf5 * 27)) ≤ Z1jo then
 some (D.agg [(D.v (.int .i64 Zug)),(D.v (.int .u8 Zn0)),(D.v (.int .u32 Zq7)),(D.v (.int .u32 Zpc)),(D.v (.int .u32 Zh1)),(D.v (.int .u32 Zrj)),(D.v (.int .u32 Zpi)),(D.v (.int .u32 Zj6)),(D.v (.int .u32 Zh4)),(D.v (.int .u32 Z8t)),(D.v (.int .u32 Zj7)),(D.v (.int .u32 Z16g)),(D.v (.int .u32 Z1ad)),(D.v (.int .u32 Z1ae)),(D.v (.int .u32 Z123)),(D.v (.int .u32 Z18a)),(D.v (.int .u32 Z1v4)),(D.v (.int .u32 Z1v5)),(D.list Z1v6 Z1v7 Z1v8),(D.list Zf5 (some Zf5) (cutL Z1jo Z1v9 0 (Zf5 * 27)))])
 else none)) := by kernel_rfl
noncomputable def Zrl (m : Nat) (a0_0 : Int) (a0_1 : Int) (a0_2 : Int) (a0_3 : Int) (a0_4 : Int) (a0_5 : Int) (a0_6 : Int) (a0_7 : Int) (a0_8 : Int) (a0_9 : Int) (a0_10 : Int) (a0_11 : Int) (a0_12 : Int) (a0_13 : Int) (a0_14 : Int) (a0_15 : Int) (a0_16 : Int) (a0_17 : Int) (a0_18n : Nat) (a0_18c : Option Nat) (a0_18 : List D) (a0_19n : Nat) (a0_19c : Option Nat) (a0_19 : List D) : Option D :=
 (Z3q [(D.list a0_18n a0_18c a0_18)]).bind fun d1 =>
 (rdL (some d1)).bind fun q2 =>
 cond ((a0_19n : Int) == (0 : Int))
 (Zty m m a0_0 a0_1 a0_2 a0_3 a0_4 a0_5 a0_6 a0_7 a0_8 a0_9 a0_10 a0_11 a0_12 a0_13 a0_14 a0_15 a0_16 a0_17 q2.n q2.cap q2.cs)
 (if 0 ≤ (a0_19n : Int) ∧ (a0_19n : Int) ≤ (a0_19n : Int) ∧ Z2v (Int.toNat (a0_19n : Int)) 208 then
 if (List.length a0_19) = (a0_19n * 27) then
 if (0 + ((Int.toNat (a0_19n : Int)) * 27)) ≤ ((Int.toNat (a0_19n : Int)) * 27) ∧ (List.length a0_19) = (a0_19n * 27) then
 Zd9 m m (Int.toNat (a0_19n : Int)) (((Int.toNat (a0_19n : Int)) : Nat) : Int) (0 : Int) a0_0 a0_1 a0_2 a0_3 a0_4 a0_5 a0_6 a0_7 a0_8 a0_9 a0_10 a0_11 a0_12 a0_13 a0_14 a0_15 a0_16 a0_17 q2.n q2.cap q2.cs ((Int.toNat (a0_19n : Int)) * 27) (List.take 0 (List.flatten (List.replicate (Int.toNat (a0_19n : Int)) [(D.v (.int .u8 (0 : Int))),(D.v (.string (ByteArray.mk #[]))),(D.v (.bool false)),zU,(D.v (.string (ByteArray.mk #[]))),(D.list 0 (some 0) []),(D.v (.bool false)),zU,(D.v (.string (ByteArray.mk #[]))),(D.v (.int .u8 (0 : Int))),zU,zU,zU,zU,zU,zU,zU,zU,zU,zU,zU,zU,zU,zU,zU,zU,(D.list 0 (some 0) [])])) ++ (List.take ((Nat.min a0_19n (Int.toNat (a0_19n : Int))) * 27) a0_19 ++ List.drop (0 + ((Nat.min a0_19n (Int.toNat (a0_19n : Int))) * 27)) (List.flatten (List.replicate (Int.toNat (a0_19n : Int)) [(D.v (.int .u8 (0 : Int))),(D.v (.string (ByteArray.mk #[]))),(D.v (.bool false)),zU,(D.v (.string (ByteArray.mk #[]))),(D.list 0 (some 0) []),(D.v (.bool false)),zU,(D.v (.string (ByteArray.mk #[]))),(D.v (.int .u8 (0 : Int))),zU,zU,zU,zU,zU,zU,zU,zU,zU,zU,zU,zU,zU,zU,zU,zU,(D.list 0 (some 0) [])]))))
 else none
 else none
 else none)
theorem Z1h7 (m : Nat) (a0_0 : Int) (a0_1 : Int) (a0_2 : Int) (a0_3 : Int) (a0_4 : Int) (a0_5 : Int) (a0_6 : Int) (a0_7 : Int) (a0_8 : Int) (a0_9 : Int) (a0_10 : Int) (a0_11 : Int) (a0_12 : Int) (a0_13 : Int) (a0_14 : Int) (a0_15 : Int) (a0_16 : Int) (a0_17 : Int) (a0_18n : Nat) (a0_18c : Option Nat) (a0_18 : List D) (a0_19n : Nat) (a0_19c : Option Nat) (a0_19 : List D) : funD Tg Z4u m 4 Z2o Tryz.f53 [(D.agg [(D.v (.int .i64 a0_0)),(D.v (.int .u8 a0_1)),(D.v (.int .u32 a0_2)),(D.v (.int .u32 a0_3)),(D.v (.int .u32 a0_4)),(D.v (.int .u32 a0_5)),(D.v (.int .u32 a0_6)),(D.v (.int .u32 a0_7)),(D.v (.int .u32 a0_8)),(D.v (.int .u32 a0_9)),(D.v (.int .u32 a0_10)),(D.v (.int .u32 a0_11)),(D.v (.int .u32 a0_12)),(D.v (.int .u32 a0_13)),(D.v (.int .u32 a0_14)),(D.v (.int .u32 a0_15)),(D.v (.int .u32 a0_16)),(D.v (.int .u32 a0_17)),(D.list a0_18n a0_18c a0_18),(D.list a0_19n a0_19c a0_19)])] = Zrl m a0_0 a0_1 a0_2 a0_3 a0_4 a0_5 a0_6 a0_7 a0_8 a0_9 a0_10 a0_11 a0_12 a0_13 a0_14 a0_15 a0_16 a0_17 a0_18n a0_18c a0_18 a0_19n a0_19c a0_19 := by kernel_rfl
theorem Z1mn : Enters Tg 53 := ⟨Tryz.f53,Tryz.func53,by kernel_rfl,by kernel_rfl⟩
theorem Z1mo {ds : List D} {d : D} (h : funD Tg Z4u M 4 Z2o Tryz.f53 ds = some d) : DataSem Tg 53 ds d := Z5 (H := Z4u) (SpOk.cons Zq8 (SpOk.cons Z188 (SpOk.cons Z1cp SpOk.nil))) mixed (InlOk.cons Tryz.func81 Zuu InlOk.nil) Tryz.func53 Z1mn h
noncomputable def Z2k : List D → Option D
 | [.agg [.v (.int .i64 a0_0),.v (.int .u8 a0_1),.v (.int .u32 a0_2),.v (.int .u32 a0_3),.v (.int .u32 a0_4),.v (.int .u32 a0_5),.v (.int .u32 a0_6),.v (.int .u32 a0_7),.v (.int .u32 a0_8),.v (.int .u32 a0_9),.v (.int .u32 a0_10),.v (.int .u32 a0_11),.v (.int .u32 a0_12),.v (.int .u32 a0_13),.v (.int .u32 a0_14),.v (.int .u32 a0_15),.v (.int .u32 a0_16),.v (.int .u32 a0_17),.list a0_18n a0_18c a0_18,.list a0_19n a0_19c a0_19]] => Zrl M a0_0 a0_1 a0_2 a0_3 a0_4 a0_5 a0_6 a0_7 a0_8 a0_9 a0_10 a0_11 a0_12 a0_13 a0_14 a0_15 a0_16 a0_17 a0_18n a0_18c a0_18 a0_19n a0_19c a0_19
 | _ => none
theorem Zxb : ∀ ds d,Z2k ds = some d → DataSem Tg 53 ds d := by
 intro ds d h
 unfold Z2k at h
 split at h
 ·exact Z1mo ((Z1h7 M _ _ _ _ _ _ _ _ _ _ _ _ _ _ _ _ _ _ _ _ _ _ _ _).trans h)
 ·cases h
end Go.Ev