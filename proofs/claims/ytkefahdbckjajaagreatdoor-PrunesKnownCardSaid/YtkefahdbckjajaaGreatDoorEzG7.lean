/- Functions of the given program in plain form,printed: each with the proof that it is what the evaluator comes to,and that the program function returns what it says. No conditions. -/
import Derived.Test.YtkefahdbckjajaaGreatDoorEzG2
set_option linter.unusedVariables false
set_option maxRecDepth 100000
namespace Go.Ev
open Go Go.Proofs
def Z62 : FnH := ⟨[],[]⟩
noncomputable def Zer : Hints := ⟨[],[],[]⟩
noncomputable def Z8x (m : Nat) (a0n : Nat) (a0c : Option Nat) (a0 : List D) : Option D :=
 cond ((a0n : Int) == (0 : Int))
 (some (D.list 0 (some 0) []))
 (if 0 ≤ (a0n : Int) ∧ (a0n : Int) ≤ (a0n : Int) ∧ fitsRow (Int.toNat (a0n : Int)) 68 then
 if (List.length a0) = (a0n * 17) then
 if (0 + ((Int.toNat (a0n : Int)) * 17)) ≤ ((Int.toNat (a0n : Int)) * 17) ∧ (List.length a0) = (a0n * 17) then
 if (0 + ((Int.toNat (a0n : Int)) * 17)) ≤ ((Int.toNat (a0n : Int)) * 17) then
 some (D.list (Int.toNat (a0n : Int)) (some (Int.toNat (a0n : Int))) (cutL ((Int.toNat (a0n : Int)) * 17) (List.take 0 (List.flatten (List.replicate (Int.toNat (a0n : Int)) [(D.v (.int .u8 (0 : Int))),zU,zU,zU,zU,zU,zU,zU,zU,zU,zU,zU,zU,zU,zU,zU,zU])) ++ (List.take ((Nat.min a0n (Int.toNat (a0n : Int))) * 17) a0 ++ List.drop (0 + ((Nat.min a0n (Int.toNat (a0n : Int))) * 17)) (List.flatten (List.replicate (Int.toNat (a0n : Int)) [(D.v (.int .u8 (0 : Int))),zU,zU,zU,zU,zU,zU,zU,zU,zU,zU,zU,zU,zU,zU,zU,zU])))) 0 ((Int.toNat (a0n : Int)) * 17)))
 else none
 else none
 else none
 else none)
theorem Ztz (m : Nat) (a0n : Nat) (a0c : Option Nat) (a0 : List D) : funD Tg Zer m 4 Z62 Tryz.f90 [(D.list a0n a0c a0)] = Z8x m a0n a0c a0 := by kernel_rfl
theorem Zwr : Enters Tg 90 := ⟨Tryz.f90,Tryz.func90,by kernel_rfl,by kernel_rfl⟩
theorem Zws {ds : List D} {d : D} (h : funD Tg Zer M 4 Z62 Tryz.f90 ds = some d) : DataSem Tg 90 ds d := Zf (H := Zer) SpOk.nil mixed InlOk.nil Tryz.func90 Zwr h
noncomputable def Z6j : List D → Option D
 | [.list a0n a0c a0] => Z8x M a0n a0c a0
 | _ => none
theorem Zwt : ∀ ds d,Z6j ds = some d → DataSem Tg 90 ds d := by
 intro ds d h
 unfold Z6j at h
 split at h
 ·exact Zws ((Ztz M _ _ _).trans h)
 ·cases h
def Z6k : FnH := ⟨[],[]⟩
noncomputable def Zgd : Hints := ⟨[],[],[]⟩
noncomputable def Zon (m : Nat) (a0n : Nat) (a0c : Option Nat) (a0 : List D) : Option D :=
 cond ((a0n : Int) == (0 : Int))
 (some (D.list 0 (some 0) []))
 (if 0 ≤ (a0n : Int) ∧ (a0n : Int) ≤ (a0n : Int) ∧ fitsRow (Int.toNat (a0n : Int)) 4 then
 if (List.length a0) = (a0n * 1) then
 if (0 + ((Int.toNat (a0n : Int)) * 1)) ≤ ((Int.toNat (a0n : Int)) * 1) ∧ (List.length a0) = (a0n * 1) then
 if (0 + ((Int.toNat (a0n : Int)) * 1)) ≤ ((Int.toNat (a0n : Int)) * 1) then
 some (D.list (Int.toNat (a0n : Int)) (some (Int.toNat (a0n : Int))) (cutL ((Int.toNat (a0n : Int)) * 1) (List.take 0 (List.flatten (List.replicate (Int.toNat (a0n : Int)) [zU])) ++ (List.take ((Nat.min a0n (Int.toNat (a0n : Int))) * 1) a0 ++ List.drop (0 + ((Nat.min a0n (Int.toNat (a0n : Int))) * 1)) (List.flatten (List.replicate (Int.toNat (a0n : Int)) [zU])))) 0 ((Int.toNat (a0n : Int)) * 1)))
 else none
 else none
 else none
 else none)
theorem Zvb (m : Nat) (a0n : Nat) (a0c : Option Nat) (a0 : List D) : funD Tg Zgd m 4 Z6k Tryz.f114 [(D.list a0n a0c a0)] = Zon m a0n a0c a0 := by kernel_rfl
theorem Zyl : Enters Tg 114 := ⟨Tryz.f114,Tryz.func114,by kernel_rfl,by kernel_rfl⟩
theorem Zym {ds : List D} {d : D} (h : funD Tg Zgd M 4 Z6k Tryz.f114 ds = some d) : DataSem Tg 114 ds d := Zf (H := Zgd) SpOk.nil mixed InlOk.nil Tryz.func114 Zyl h
noncomputable def Z78 : List D → Option D
 | [.list a0n a0c a0] => Zon M a0n a0c a0
 | _ => none
theorem Zyn : ∀ ds d,Z78 ds = some d → DataSem Tg 114 ds d := by
 intro ds d h
 unfold Z78 at h
 split at h
 ·exact Zym ((Zvb M _ _ _).trans h)
 ·cases h
def Z7o : FnH := ⟨[],[]⟩
noncomputable def Zk8 : Hints := ⟨[],[],[]⟩
noncomputable def Zs7 (m : Nat) (a0n : Nat) (a0c : Option Nat) (a0 : List D) : Option D :=
 cond ((a0n : Int) == (0 : Int))
 (some (D.list 0 (some 0) []))
 (if 0 ≤ (a0n : Int) ∧ (a0n : Int) ≤ (a0n : Int) ∧ fitsRow (Int.toNat (a0n : Int)) 1 then
 if (List.length a0) = (a0n * 1) then
 if (0 + ((Int.toNat (a0n : Int)) * 1)) ≤ ((Int.toNat (a0n : Int)) * 1) ∧ (List.length a0) = (a0n * 1) then
 if (0 + ((Int.toNat (a0n : Int)) * 1)) ≤ ((Int.toNat (a0n : Int)) * 1) then
 some (D.list (Int.toNat (a0n : Int)) (some (Int.toNat (a0n : Int))) (cutL ((Int.toNat (a0n : Int)) * 1) (List.take 0 (List.flatten (List.replicate (Int.toNat (a0n : Int)) [(D.v (.int .u8 (0 : Int)))])) ++ (List.take ((Nat.min a0n (Int.toNat (a0n : Int))) * 1) a0 ++ List.drop (0 + ((Nat.min a0n (Int.toNat (a0n : Int))) * 1)) (List.flatten (List.replicate (Int.toNat (a0n : Int)) [(D.v (.int .u8 (0 : Int)))])))) 0 ((Int.toNat (a0n : Int)) * 1)))
 else none
 else none
 else none
 else none)
theorem Zyo (m : Nat) (a0n : Nat) (a0c : Option Nat) (a0 : List D) : funD Tg Zk8 m 4 Z7o Tryz.f115 [(D.list a0n a0c a0)] = Zs7 m a0n a0c a0 := by kernel_rfl
theorem Z11h : Enters Tg 115 := ⟨Tryz.f115,Tryz.func115,by kernel_rfl,by kernel_rfl⟩
theorem Z11i {ds : List D} {d : D} (h : funD Tg Zk8 M 4 Z7o Tryz.f115 ds = some d) : DataSem Tg 115 ds d := Zf (H := Zk8) SpOk.nil mixed InlOk.nil Tryz.func115 Z11h h
noncomputable def Z86 : List D → Option D
 | [.list a0n a0c a0] => Zs7 M a0n a0c a0
 | _ => none
theorem Z11j : ∀ ds d,Z86 ds = some d → DataSem Tg 115 ds d := by
 intro ds d h
 unfold Z86 at h
 split at h
 ·exact Z11i ((Zyo M _ _ _).trans h)
 ·cases h
def Z31 : FnH := ⟨[(4,⟨(bm 114694 39),[],(some 3)⟩)],[]⟩
def Zbw : FnH := ⟨[],[]⟩
noncomputable def Z5i : Hints := ⟨[(90,Z6j),(114,Z78),(115,Z86)],[(113,Tryz.f113,Zbw)],[]⟩
noncomputable def Zo5 (m n0 : Nat) (Zz : Int) (Z13 : Int) (Z18 : Int) (Z1b : Int) (Z14 : Int) (Z1q : Int) (Z1z : Int) (Z32 : Int) (Z4e : Int) (Zfw : Int) (Z63 : Int) (Z5u : Int) (Z6o : Int) (Z2o : Int) (Z1od : Int) (Z1oe : Int) (Z1of : Int) (Z1og : Int) (Z1oh : Nat) (Z1oi : Option Nat) (Z1oj : List D) : Option D :=
 Z1e (bm 114694 39) 0 3 (codeK Tg Z5i.sp ⟨0,[],false,[]⟩ (inlK Tg Z5i m 4) m Z31 (subc [1,1,1,0,1,0,0] (bodyOf Tryz.f86))) n0 ⟨[Jk,(AV.ptr 0 0),(AV.ptr 1 0),Jk,Jk,Jk,Jk,Jk,Jk,Jk,Jk,Jk,Jk,Jk,(AV.d (D.list 0 (some 0) [])),(AV.d zI),(AV.d zI),Jk,Jk,Jk,Jk,Jk,Jk,Jk,Jk,Jk,Jk,Jk,Jk,Jk,Jk,Jk,Jk,Jk,Jk,Jk,Jk,Jk,Jk],[(Blk.d 20 [(D.v (.int .i64 Zz)),(D.v (.int .u8 Z13)),(D.v (.int .u32 Z18)),(D.v (.int .u32 Z1b)),(D.v (.int .u32 Z14)),(D.v (.int .u32 Z1q)),(D.v (.int .u32 Z1z)),(D.v (.int .u32 Z32)),(D.v (.int .u32 Z4e)),(D.v (.int .u32 Zfw)),(D.v (.int .u32 Z63)),(D.v (.int .u32 Z5u)),(D.v (.int .u32 Z6o)),(D.v (.int .u32 Z2o)),(D.v (.int .u32 Z1od)),(D.v (.int .u32 Z1oe)),(D.v (.int .u32 Z1of)),(D.v (.int .u32 Z1og)),(D.list Z1oh Z1oi Z1oj),(D.list 0 (some 0) [])]),(Blk.d 20 [zI,(D.v (.int .u8 (0 : Int))),zU,zU,zU,zU,zU,zU,zU,zU,zU,zU,zU,zU,zU,zU,zU,zU,(D.list 0 (some 0) []),(D.list 0 (some 0) [])])]⟩
  (contK Tg Z5i.sp ⟨0,[],false,[]⟩ (inlK Tg Z5i m 4) m Z31 (endK Tg Tryz.f86 (fun v L => viewK L 8 v some)) [.block 0,.code (subc [1,1,1,1] (bodyOf Tryz.f86))])
theorem Z13x (m n0 : Nat) (Zz : Int) (Z13 : Int) (Z18 : Int) (Z1b : Int) (Z14 : Int) (Z1q : Int) (Z1z : Int) (Z32 : Int) (Z4e : Int) (Zfw : Int) (Z63 : Int) (Z5u : Int) (Z6o : Int) (Z2o : Int) (Z1od : Int) (Z1oe : Int) (Z1of : Int) (Z1og : Int) (Z1oh : Nat) (Z1oi : Option Nat) (Z1oj : List D) : Zo5 m (n0 + 1) Zz Z13 Z18 Z1b Z14 Z1q Z1z Z32 Z4e Zfw Z63 Z5u Z6o Z2o Z1od Z1oe Z1of Z1og Z1oh Z1oi Z1oj =
 (some (D.agg [(D.v (.int .i64 Zz)),(D.v (.int .u8 Z13)),(D.v (.int .u32 Z18)),(D.v (.int .u32 Z1b)),(D.v (.int .u32 Z14)),(D.v (.int .u32 Z1q)),(D.v (.int .u32 Z1z)),(D.v (.int .u32 Z32)),(D.v (.int .u32 Z4e)),(D.v (.int .u32 Zfw)),(D.v (.int .u32 Z63)),(D.v (.int .u32 Z5u)),(D.v (.int .u32 Z6o)),(D.v (.int .u32 Z2o)),(D.v (.int .u32 Z1od)),(D.v (.int .u32 Z1oe)),(D.v (.int .u32 Z1of)),(D.v (.int .u32 Z1og)),(D.list Z1oh Z1oi Z1oj),(D.list 0 (some 0) [])])) := by kernel_rfl
noncomputable def Zcq (m n0 : Nat) (Z43 : Nat) (Z76 : Int) (Z56 : Int) (Z61 : Int) (Z5a : Int) (Z5r : Int) (Z4r : Int) (Z5f : Int) (Z5s : Int) (Z5t : Int) (Z42 : Int) (Z3z : Int) (Z3l : Int) (Z4o : Int) (Z1t : Int) (Z4s : Int) (Z5m : Int) (Z6s : Int) (Z6e : Int) (Z8f : Int) (Z8g : Int) (Z8y : Nat) (Z8h : Option Nat) (Zwu : List D) (Zr3 : Nat) (Zwv : List D) : Option D :=
 Z1e (bm 114694 39) 0 3 (codeK Tg Z5i.sp ⟨0,[],false,[]⟩ (inlK Tg Z5i m 4) m Z31 (subc [1,1,1,0,1,0,0] (bodyOf Tryz.f86))) n0 ⟨[Jk,(AV.ptr 0 0),(AV.ptr 1 0),Jk,Jk,Jk,Jk,Jk,Jk,Jk,Jk,Jk,Jk,Jk,(AV.sl 2 0 Z43 (some Z43) 27),(AV.d (D.v (.int .i64 Z76))),(AV.d (D.v (.int .i64 Z56))),Jk,Jk,Jk,Jk,Jk,Jk,Jk,Jk,Jk,Jk,Jk,Jk,Jk,Jk,Jk,Jk,Jk,Jk,Jk,Jk,Jk,Jk],[(Blk.a 20 [(AV.d (D.v (.int .i64 Z61))),(AV.d (D.v (.int .u8 Z5a))),(AV.d (D.v (.int .u32 Z5r))),(AV.d (D.v (.int .u32 Z4r))),(AV.d (D.v (.int .u32 Z5f))),(AV.d (D.v (.int .u32 Z5s))),(AV.d (D.v (.int .u32 Z5t))),(AV.d (D.v (.int .u32 Z42))),(AV.d (D.v (.int .u32 Z3z))),(AV.d (D.v (.int .u32 Z3l))),(AV.d (D.v (.int .u32 Z4o))),(AV.d (D.v (.int .u32 Z1t))),(AV.d (D.v (.int .u32 Z4s))),(AV.d (D.v (.int .u32 Z5m))),(AV.d (D.v (.int .u32 Z6s))),(AV.d (D.v (.int .u32 Z6e))),(AV.d (D.v (.int .u32 Z8f))),(AV.d (D.v (.int .u32 Z8g))),(AV.d (D.list Z8y Z8h Zwu)),(AV.sl 2 0 Z43 (some Z43) 27)]),(Blk.d 20 [zI,(D.v (.int .u8 (0 : Int))),zU,zU,zU,zU,zU,zU,zU,zU,zU,zU,zU,zU,zU,zU,zU,zU,(D.list 0 (some 0) []),(D.list 0 (some 0) [])]),(Blk.d Zr3 Zwv)]⟩
  (contK Tg Z5i.sp ⟨0,[],false,[]⟩ (inlK Tg Z5i m 4) m Z31 (endK Tg Tryz.f86 (fun v L => viewK L 8 v some)) [.block 0,.code (subc [1,1,1,1] (bodyOf Tryz.f86))])
theorem Zzp (m n0 : Nat) (Z43 : Nat) (Z76 : Int) (Z56 : Int) (Z61 : Int) (Z5a : Int) (Z5r : Int) (Z4r : Int) (Z5f : Int) (Z5s : Int) (Z5t : Int) (Z42 : Int) (Z3z : Int) (Z3l : Int) (Z4o : Int) (Z1t : Int) (Z4s : Int) (Z5m : Int) (Z6s : Int) (Z6e : Int) (Z8f : Int) (Z8g : Int) (Z8y : Nat) (Z8h : Option Nat) (Zwu : List D) (Zr3 : Nat) (Zwv : List D) : Zcq m (n0 + 1) Z43 Z76 Z56 Z61 Z5a Z5r Z4r Z5f Z5s Z5t Z42 Z3z Z3l Z4o Z1t Z4s Z5m Z6s Z6e Z8f Z8g Z8y Z8h Zwu Zr3 Zwv =
 (cond (decide (Z56 < Z76))
 (if 0 ≤ Z56 ∧ Z56 < (Z43 : Int) then
 if ((0 + ((Int.toNat Z56) * 27)) + 27) ≤ Zr3 then
 if (List.length (cutL Zr3 Zwv (0 + ((Int.toNat Z56) * 27)) 27)) = 27 then
 (rdL (cutL Zr3 Zwv (0 + ((Int.toNat Z56) * 27)) 27)[5]?).bind fun q15 =>
 (Z78 [(D.list q15.n q15.cap q15.cs)]).bind fun d16 =>
 (rdL (some d16)).bind fun q17 =>
 if 0 ≤ Z56 ∧ Z56 < (Z43 : Int) then
 if 1 = 1 ∧ ((0 + ((Int.toNat Z56) * 27)) + 5) < Zr3 then
 (rdL (cutL Zr3 Zwv (0 + ((Int.toNat Z56) * 27)) 27)[26]?).bind fun q18 =>
 (Z86 [(D.list q18.n q18.cap q18.cs)]).bind fun d19 =>
 (rdL (some d19)).bind fun q20 =>
 if 0 ≤ Z56 ∧ Z56 < (Z43 : Int) then
 if 1 = 1 ∧ ((0 + ((Int.toNat Z56) * 27)) + 26) < Zr3 then
 Zcq m n0 Z43 Z76 (IntKind.wrap .i64 (Z56 + (1 : Int))) Z61 Z5a Z5r Z4r Z5f Z5s Z5t Z42 Z3z Z3l Z4o Z1t Z4s Z5m Z6s Z6e Z8f Z8g Z8y Z8h Zwu Zr3 (List.set (List.set Zwv ((0 + ((Int.toNat Z56) * 27)) + 5) (D.list q17.n q17.cap q17.cs)) ((0 + ((Int.toNat Z56) * 27)) + 26) (D.list q20.n q20.cap q20.cs))
 else none
 else none
 else none
 else none
 else none
 else none
 else none)
 (if (0 + (Z43 * 27)) ≤ Zr3 then
 some (D.agg [(D.v (.int .i64 Z61)),(D.v (.int .u8 Z5a)),(D.v (.int .u32 Z5r)),(D.v (.int .u32 Z4r)),(D.v (.int .u32 Z5f)),(D.v (.int .u32 Z5s)),(D.v (.int .u32 Z5t)),(D.v (.int .u32 Z42)),(D.v (.int .u32 Z3z)),(D.v (.int .u32 Z3l)),(D.v (.int .u32 Z4o)),(D.v (.int .u32 Z1t)),(D.v (.int .u32 Z4s)),(D.v (.int .u32 Z5m)),(D.v (.int .u32 Z6s)),(D.v (.int .u32 Z6e)),(D.v (.int .u32 Z8f)),(D.v (.int .u32 Z8g)),(D.list Z8y Z8h Zwu),(D.list Z43 (some Z43) (cutL Zr3 Zwv 0 (Z43 * 27)))])
 else none)) := by kernel_rfl
noncomputable def Zmb (m : Nat) (a0_0 : Int) (a0_1 : Int) (a0_2 : Int) (a0_3 : Int) (a0_4 : Int) (a0_5 : Int) (a0_6 : Int) (a0_7 : Int) (a0_8 : Int) (a0_9 : Int) (a0_10 : Int) (a0_11 : Int) (a0_12 : Int) (a0_13 : Int) (a0_14 : Int) (a0_15 : Int) (a0_16 : Int) (a0_17 : Int) (a0_18n : Nat) (a0_18c : Option Nat) (a0_18 : List D) (a0_19n : Nat) (a0_19c : Option Nat) (a0_19 : List D) : Option D :=
 (Z6j [(D.list a0_18n a0_18c a0_18)]).bind fun d1 =>
 (rdL (some d1)).bind fun q2 =>
 cond ((a0_19n : Int) == (0 : Int))
 (Zo5 m m a0_0 a0_1 a0_2 a0_3 a0_4 a0_5 a0_6 a0_7 a0_8 a0_9 a0_10 a0_11 a0_12 a0_13 a0_14 a0_15 a0_16 a0_17 q2.n q2.cap q2.cs)
 (if 0 ≤ (a0_19n : Int) ∧ (a0_19n : Int) ≤ (a0_19n : Int) ∧ fitsRow (Int.toNat (a0_19n : Int)) 208 then
 if (List.length a0_19) = (a0_19n * 27) then
 if (0 + ((Int.toNat (a0_19n : Int)) * 27)) ≤ ((Int.toNat (a0_19n : Int)) * 27) ∧ (List.length a0_19) = (a0_19n * 27) then
 Zcq m m (Int.toNat (a0_19n : Int)) (((Int.toNat (a0_19n : Int)) : Nat) : Int) (0 : Int) a0_0 a0_1 a0_2 a0_3 a0_4 a0_5 a0_6 a0_7 a0_8 a0_9 a0_10 a0_11 a0_12 a0_13 a0_14 a0_15 a0_16 a0_17 q2.n q2.cap q2.cs ((Int.toNat (a0_19n : Int)) * 27) (List.take 0 (List.flatten (List.replicate (Int.toNat (a0_19n : Int)) [(D.v (.int .u8 (0 : Int))),(D.v (.string (ByteArray.mk #[]))),(D.v (.bool false)),zU,(D.v (.string (ByteArray.mk #[]))),(D.list 0 (some 0) []),(D.v (.bool false)),zU,(D.v (.string (ByteArray.mk #[]))),(D.v (.int .u8 (0 : Int))),zU,zU,zU,zU,zU,zU,zU,zU,zU,zU,zU,zU,zU,zU,zU,zU,(D.list 0 (some 0) [])])) ++ (List.take ((Nat.min a0_19n (Int.toNat (a0_19n : Int))) * 27) a0_19 ++ List.drop (0 + ((Nat.min a0_19n (Int.toNat (a0_19n : Int))) * 27)) (List.flatten (List.replicate (Int.toNat (a0_19n : Int)) [(D.v (.int .u8 (0 : Int))),(D.v (.string (ByteArray.mk #[]))),(D.v (.bool false)),zU,(D.v (.string (ByteArray.mk #[]))),(D.list 0 (some 0) []),(D.v (.bool false)),zU,(D.v (.string (ByteArray.mk #[]))),(D.v (.int .u8 (0 : Int))),zU,zU,zU,zU,zU,zU,zU,zU,zU,zU,zU,zU,zU,zU,zU,zU,(D.list 0 (some 0) [])]))))
 else none
 else none
 else none)
theorem Z163 (m : Nat) (a0_0 : Int) (a0_1 : Int) (a0_2 : Int) (a0_3 : Int) (a0_4 : Int) (a0_5 : Int) (a0_6 : Int) (a0_7 : Int) (a0_8 : Int) (a0_9 : Int) (a0_10 : Int) (a0_11 : Int) (a0_12 : Int) (a0_13 : Int) (a0_14 : Int) (a0_15 : Int) (a0_16 : Int) (a0_17 : Int) (a0_18n : Nat) (a0_18c : Option Nat) (a0_18 : List D) (a0_19n : Nat) (a0_19c : Option Nat) (a0_19 : List D) : funD Tg Z5i m 4 Z31 Tryz.f86 [(D.agg [(D.v (.int .i64 a0_0)),(D.v (.int .u8 a0_1)),(D.v (.int .u32 a0_2)),(D.v (.int .u32 a0_3)),(D.v (.int .u32 a0_4)),(D.v (.int .u32 a0_5)),(D.v (.int .u32 a0_6)),(D.v (.int .u32 a0_7)),(D.v (.int .u32 a0_8)),(D.v (.int .u32 a0_9)),(D.v (.int .u32 a0_10)),(D.v (.int .u32 a0_11)),(D.v (.int .u32 a0_12)),(D.v (.int .u32 a0_13)),(D.v (.int .u32 a0_14)),(D.v (.int .u32 a0_15)),(D.v (.int .u32 a0_16)),(D.v (.int .u32 a0_17)),(D.list a0_18n a0_18c a0_18),(D.list a0_19n a0_19c a0_19)])] = Zmb m a0_0 a0_1 a0_2 a0_3 a0_4 a0_5 a0_6 a0_7 a0_8 a0_9 a0_10 a0_11 a0_12 a0_13 a0_14 a0_15 a0_16 a0_17 a0_18n a0_18c a0_18 a0_19n a0_19c a0_19 := by kernel_rfl
theorem Z1ap : Enters Tg 86 := ⟨Tryz.f86,Tryz.func86,by kernel_rfl,by kernel_rfl⟩
theorem Z1aq {ds : List D} {d : D} (h : funD Tg Z5i M 4 Z31 Tryz.f86 ds = some d) : DataSem Tg 86 ds d := Zf (H := Z5i) (SpOk.cons Zwt (SpOk.cons Zyn (SpOk.cons Z11j SpOk.nil))) mixed (InlOk.cons Tryz.func113 Zos InlOk.nil) Tryz.func86 Z1ap h
noncomputable def Zes : List D → Option D
 | [.agg [.v (.int .i64 a0_0),.v (.int .u8 a0_1),.v (.int .u32 a0_2),.v (.int .u32 a0_3),.v (.int .u32 a0_4),.v (.int .u32 a0_5),.v (.int .u32 a0_6),.v (.int .u32 a0_7),.v (.int .u32 a0_8),.v (.int .u32 a0_9),.v (.int .u32 a0_10),.v (.int .u32 a0_11),.v (.int .u32 a0_12),.v (.int .u32 a0_13),.v (.int .u32 a0_14),.v (.int .u32 a0_15),.v (.int .u32 a0_16),.v (.int .u32 a0_17),.list a0_18n a0_18c a0_18,.list a0_19n a0_19c a0_19]] => Zmb M a0_0 a0_1 a0_2 a0_3 a0_4 a0_5 a0_6 a0_7 a0_8 a0_9 a0_10 a0_11 a0_12 a0_13 a0_14 a0_15 a0_16 a0_17 a0_18n a0_18c a0_18 a0_19n a0_19c a0_19
 | _ => none
theorem Z1ar : ∀ ds d,Zes ds = some d → DataSem Tg 86 ds d := by
 intro ds d h
 unfold Zes at h
 split at h
 ·exact Z1aq ((Z163 M _ _ _ _ _ _ _ _ _ _ _ _ _ _ _ _ _ _ _ _ _ _ _ _).trans h)
 ·cases h
end Go.Ev