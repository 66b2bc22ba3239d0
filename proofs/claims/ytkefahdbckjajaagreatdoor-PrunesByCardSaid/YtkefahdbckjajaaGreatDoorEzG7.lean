/- Functions of the given program in plain form,printed: each with the proof that it is what the evaluator comes to,and that the program function returns what it says. No conditions. -/
import Derived.Test.YtkefahdbckjajaaGreatDoorEzG2
set_option linter.unusedVariables false
set_option maxRecDepth 100000
namespace Go.Ev
open Go Go.Proofs

def Z5m : FnH := ⟨[],[]⟩
noncomputable def Zea : Hints := ⟨[],[],[]⟩
noncomputable def Z8k (m : Nat) (a0n : Nat) (a0c : Option Nat) (a0 : List D) : Option D :=
 cond ((a0n : Int) == (0 : Int))
 (some (D.list 0 (some 0) []))
 (if 0 ≤ (a0n : Int) ∧ (a0n : Int) ≤ (a0n : Int) ∧ Z1w (Int.toNat (a0n : Int)) 68 then
 if (List.length a0) = (a0n * 17) then
 if (0 + ((Int.toNat (a0n : Int)) * 17)) ≤ ((Int.toNat (a0n : Int)) * 17) ∧ (List.length a0) = (a0n * 17) then
 if (0 + ((Int.toNat (a0n : Int)) * 17)) ≤ ((Int.toNat (a0n : Int)) * 17) then
 some (D.list (Int.toNat (a0n : Int)) (some (Int.toNat (a0n : Int))) (cutL ((Int.toNat (a0n : Int)) * 17) (List.take 0 (List.flatten (List.replicate (Int.toNat (a0n : Int)) [(D.v (.int .u8 (0 : Int))),zU,zU,zU,zU,zU,zU,zU,zU,zU,zU,zU,zU,zU,zU,zU,zU])) ++ (List.take ((Nat.min a0n (Int.toNat (a0n : Int))) * 17) a0 ++ List.drop (0 + ((Nat.min a0n (Int.toNat (a0n : Int))) * 17)) (List.flatten (List.replicate (Int.toNat (a0n : Int)) [(D.v (.int .u8 (0 : Int))),zU,zU,zU,zU,zU,zU,zU,zU,zU,zU,zU,zU,zU,zU,zU,zU])))) 0 ((Int.toNat (a0n : Int)) * 17)))
 else none
 else none
 else none
 else none)
theorem Zti (m : Nat) (a0n : Nat) (a0c : Option Nat) (a0 : List D) : funD Tg Zea m 4 Z5m Tryz.f90 [(D.list a0n a0c a0)] = Z8k m a0n a0c a0 := by kernel_rfl
theorem Zvx : Enters Tg 90 := ⟨Tryz.f90,Tryz.func90,by kernel_rfl,by kernel_rfl⟩
theorem Zvy {ds : List D} {d : D} (h : funD Tg Zea M 4 Z5m Tryz.f90 ds = some d) : DataSem Tg 90 ds d := Z8 (H := Zea) SpOk.nil mixed InlOk.nil Tryz.func90 Zvx h
noncomputable def Z65 : List D → Option D
  | [.list a0n a0c a0] => Z8k M a0n a0c a0
  | _ => none
theorem Zvz : ∀ ds d,Z65 ds = some d → DataSem Tg 90 ds d := by
  intro ds d h
  unfold Z65 at h
  split at h
  · exact Zvy ((Zti M _ _ _).trans h)
  · cases h

def Z66 : FnH := ⟨[],[]⟩
noncomputable def Zfx : Hints := ⟨[],[],[]⟩
noncomputable def Zoa (m : Nat) (a0n : Nat) (a0c : Option Nat) (a0 : List D) : Option D :=
 cond ((a0n : Int) == (0 : Int))
 (some (D.list 0 (some 0) []))
 (if 0 ≤ (a0n : Int) ∧ (a0n : Int) ≤ (a0n : Int) ∧ Z1w (Int.toNat (a0n : Int)) 4 then
 if (List.length a0) = (a0n * 1) then
 if (0 + ((Int.toNat (a0n : Int)) * 1)) ≤ ((Int.toNat (a0n : Int)) * 1) ∧ (List.length a0) = (a0n * 1) then
 if (0 + ((Int.toNat (a0n : Int)) * 1)) ≤ ((Int.toNat (a0n : Int)) * 1) then
 some (D.list (Int.toNat (a0n : Int)) (some (Int.toNat (a0n : Int))) (cutL ((Int.toNat (a0n : Int)) * 1) (List.take 0 (List.flatten (List.replicate (Int.toNat (a0n : Int)) [zU])) ++ (List.take ((Nat.min a0n (Int.toNat (a0n : Int))) * 1) a0 ++ List.drop (0 + ((Nat.min a0n (Int.toNat (a0n : Int))) * 1)) (List.flatten (List.replicate (Int.toNat (a0n : Int)) [zU])))) 0 ((Int.toNat (a0n : Int)) * 1)))
 else none
 else none
 else none
 else none)
theorem Zul (m : Nat) (a0n : Nat) (a0c : Option Nat) (a0 : List D) : funD Tg Zfx m 4 Z66 Tryz.f114 [(D.list a0n a0c a0)] = Zoa m a0n a0c a0 := by kernel_rfl
theorem Zxp : Enters Tg 114 := ⟨Tryz.f114,Tryz.func114,by kernel_rfl,by kernel_rfl⟩
theorem Zxq {ds : List D} {d : D} (h : funD Tg Zfx M 4 Z66 Tryz.f114 ds = some d) : DataSem Tg 114 ds d := Z8 (H := Zfx) SpOk.nil mixed InlOk.nil Tryz.func114 Zxp h
noncomputable def Z6v : List D → Option D
  | [.list a0n a0c a0] => Zoa M a0n a0c a0
  | _ => none
theorem Zxr : ∀ ds d,Z6v ds = some d → DataSem Tg 114 ds d := by
  intro ds d h
  unfold Z6v at h
  split at h
  · exact Zxq ((Zul M _ _ _).trans h)
  · cases h

def Z7c : FnH := ⟨[],[]⟩
noncomputable def Zjv : Hints := ⟨[],[],[]⟩
noncomputable def Zrr (m : Nat) (a0n : Nat) (a0c : Option Nat) (a0 : List D) : Option D :=
 cond ((a0n : Int) == (0 : Int))
 (some (D.list 0 (some 0) []))
 (if 0 ≤ (a0n : Int) ∧ (a0n : Int) ≤ (a0n : Int) ∧ Z1w (Int.toNat (a0n : Int)) 1 then
 if (List.length a0) = (a0n * 1) then
 if (0 + ((Int.toNat (a0n : Int)) * 1)) ≤ ((Int.toNat (a0n : Int)) * 1) ∧ (List.length a0) = (a0n * 1) then
 if (0 + ((Int.toNat (a0n : Int)) * 1)) ≤ ((Int.toNat (a0n : Int)) * 1) then
 some (D.list (Int.toNat (a0n : Int)) (some (Int.toNat (a0n : Int))) (cutL ((Int.toNat (a0n : Int)) * 1) (List.take 0 (List.flatten (List.replicate (Int.toNat (a0n : Int)) [(D.v (.int .u8 (0 : Int)))])) ++ (List.take ((Nat.min a0n (Int.toNat (a0n : Int))) * 1) a0 ++ List.drop (0 + ((Nat.min a0n (Int.toNat (a0n : Int))) * 1)) (List.flatten (List.replicate (Int.toNat (a0n : Int)) [(D.v (.int .u8 (0 : Int)))])))) 0 ((Int.toNat (a0n : Int)) * 1)))
 else none
 else none
 else none
 else none)
theorem Zxs (m : Nat) (a0n : Nat) (a0c : Option Nat) (a0 : List D) : funD Tg Zjv m 4 Z7c Tryz.f115 [(D.list a0n a0c a0)] = Zrr m a0n a0c a0 := by kernel_rfl
theorem Z10j : Enters Tg 115 := ⟨Tryz.f115,Tryz.func115,by kernel_rfl,by kernel_rfl⟩
theorem Z10k {ds : List D} {d : D} (h : funD Tg Zjv M 4 Z7c Tryz.f115 ds = some d) : DataSem Tg 115 ds d := Z8 (H := Zjv) SpOk.nil mixed InlOk.nil Tryz.func115 Z10j h
noncomputable def Z7s : List D → Option D
  | [.list a0n a0c a0] => Zrr M a0n a0c a0
  | _ => none
theorem Z10l : ∀ ds d,Z7s ds = some d → DataSem Tg 115 ds d := by
  intro ds d h
  unfold Z7s at h
  split at h
  · exact Z10k ((Zxs M _ _ _).trans h)
  · cases h

def Z2q : FnH := ⟨[(4,⟨(bm 114694 39),[],(some 3)⟩)],[]⟩
def Zbf : FnH := ⟨[],[]⟩
noncomputable def Z50 : Hints := ⟨[(90,Z65),(114,Z6v),(115,Z7s)],[(113,Tryz.f113,Zbf)],[]⟩
noncomputable def Znr (m n0 : Nat) (Zl : Int) (Zt : Int) (Zy : Int) (Z11 : Int) (Zs : Int) (Z1b : Int) (Z1o : Int) (Z2r : Int) (Z3x : Int) (Zfh : Int) (Z5n : Int) (Z5e : Int) (Z6a : Int) (Z2b : Int) (Z1n2 : Int) (Z1n3 : Int) (Z1n4 : Int) (Z1n5 : Int) (Z1n6 : Nat) (Z1n7 : Option Nat) (Z1n8 : List D) : Option D :=
 Z15 (bm 114694 39) 0 3 (codeK Tg Z50.sp ⟨0,[],false,[]⟩ (inlK Tg Z50 m 4) m Z2q (subc [1,1,1,0,1,0,0] (bodyOf Tryz.f86))) n0 ⟨[Jk,(AV.ptr 0 0),(AV.ptr 1 0),Jk,Jk,Jk,Jk,Jk,Jk,Jk,Jk,Jk,Jk,Jk,(AV.d (D.list 0 (some 0) [])),(AV.d zI),(AV.d zI),Jk,Jk,Jk,Jk,Jk,Jk,Jk,Jk,Jk,Jk,Jk,Jk,Jk,Jk,Jk,Jk,Jk,Jk,Jk,Jk,Jk,Jk],[(Blk.d 20 [(D.v (.int .i64 Zl)),(D.v (.int .u8 Zt)),(D.v (.int .u32 Zy)),(D.v (.int .u32 Z11)),(D.v (.int .u32 Zs)),(D.v (.int .u32 Z1b)),(D.v (.int .u32 Z1o)),(D.v (.int .u32 Z2r)),(D.v (.int .u32 Z3x)),(D.v (.int .u32 Zfh)),(D.v (.int .u32 Z5n)),(D.v (.int .u32 Z5e)),(D.v (.int .u32 Z6a)),(D.v (.int .u32 Z2b)),(D.v (.int .u32 Z1n2)),(D.v (.int .u32 Z1n3)),(D.v (.int .u32 Z1n4)),(D.v (.int .u32 Z1n5)),(D.list Z1n6 Z1n7 Z1n8),(D.list 0 (some 0) [])]),(Blk.d 20 [zI,(D.v (.int .u8 (0 : Int))),zU,zU,zU,zU,zU,zU,zU,zU,zU,zU,zU,zU,zU,zU,zU,zU,(D.list 0 (some 0) []),(D.list 0 (some 0) [])])]⟩
  (contK Tg Z50.sp ⟨0,[],false,[]⟩ (inlK Tg Z50 m 4) m Z2q (endK Tg Tryz.f86 (fun v L => viewK L 8 v some)) [.block 0,.code (subc [1,1,1,1] (bodyOf Tryz.f86))])
theorem Z132 (m n0 : Nat) (Zl : Int) (Zt : Int) (Zy : Int) (Z11 : Int) (Zs : Int) (Z1b : Int) (Z1o : Int) (Z2r : Int) (Z3x : Int) (Zfh : Int) (Z5n : Int) (Z5e : Int) (Z6a : Int) (Z2b : Int) (Z1n2 : Int) (Z1n3 : Int) (Z1n4 : Int) (Z1n5 : Int) (Z1n6 : Nat) (Z1n7 : Option Nat) (Z1n8 : List D) : Znr m (n0 + 1) Zl Zt Zy Z11 Zs Z1b Z1o Z2r Z3x Zfh Z5n Z5e Z6a Z2b Z1n2 Z1n3 Z1n4 Z1n5 Z1n6 Z1n7 Z1n8 =
 (some (D.agg [(D.v (.int .i64 Zl)),(D.v (.int .u8 Zt)),(D.v (.int .u32 Zy)),(D.v (.int .u32 Z11)),(D.v (.int .u32 Zs)),(D.v (.int .u32 Z1b)),(D.v (.int .u32 Z1o)),(D.v (.int .u32 Z2r)),(D.v (.int .u32 Z3x)),(D.v (.int .u32 Zfh)),(D.v (.int .u32 Z5n)),(D.v (.int .u32 Z5e)),(D.v (.int .u32 Z6a)),(D.v (.int .u32 Z2b)),(D.v (.int .u32 Z1n2)),(D.v (.int .u32 Z1n3)),(D.v (.int .u32 Z1n4)),(D.v (.int .u32 Z1n5)),(D.list Z1n6 Z1n7 Z1n8),(D.list 0 (some 0) [])])) := by kernel_rfl
noncomputable def Zc7 (m n0 : Nat) (Z44 : Nat) (Z7b : Int) (Z5a : Int) (Z6f : Int) (Z5b : Int) (Z62 : Int) (Z4q : Int) (Z54 : Int) (Z5c : Int) (Z5d : Int) (Z3n : Int) (Z3l : Int) (Z36 : Int) (Z49 : Int) (Z1i : Int) (Z4e : Int) (Z55 : Int) (Z6g : Int) (Z60 : Int) (Z82 : Int) (Z83 : Int) (Z8l : Nat) (Z84 : Option Nat) (Zw0 : List D) (Zqo : Nat) (Zw1 : List D) : Option D :=
 Z15 (bm 114694 39) 0 3 (codeK Tg Z50.sp ⟨0,[],false,[]⟩ (inlK Tg Z50 m 4) m Z2q (subc [1,1,1,0,1,0,0] (bodyOf Tryz.f86))) n0 ⟨[Jk,(AV.ptr 0 0),(AV.ptr 1 0),Jk,Jk,Jk,Jk,Jk,Jk,Jk,Jk,Jk,Jk,Jk,(AV.sl 2 0 Z44 (some Z44) 27),(AV.d (D.v (.int .i64 Z7b))),(AV.d (D.v (.int .i64 Z5a))),Jk,Jk,Jk,Jk,Jk,Jk,Jk,Jk,Jk,Jk,Jk,Jk,Jk,Jk,Jk,Jk,Jk,Jk,Jk,Jk,Jk,Jk],[(Blk.a 20 [(AV.d (D.v (.int .i64 Z6f))),(AV.d (D.v (.int .u8 Z5b))),(AV.d (D.v (.int .u32 Z62))),(AV.d (D.v (.int .u32 Z4q))),(AV.d (D.v (.int .u32 Z54))),(AV.d (D.v (.int .u32 Z5c))),(AV.d (D.v (.int .u32 Z5d))),(AV.d (D.v (.int .u32 Z3n))),(AV.d (D.v (.int .u32 Z3l))),(AV.d (D.v (.int .u32 Z36))),(AV.d (D.v (.int .u32 Z49))),(AV.d (D.v (.int .u32 Z1i))),(AV.d (D.v (.int .u32 Z4e))),(AV.d (D.v (.int .u32 Z55))),(AV.d (D.v (.int .u32 Z6g))),(AV.d (D.v (.int .u32 Z60))),(AV.d (D.v (.int .u32 Z82))),(AV.d (D.v (.int .u32 Z83))),(AV.d (D.list Z8l Z84 Zw0)),(AV.sl 2 0 Z44 (some Z44) 27)]),(Blk.d 20 [zI,(D.v (.int .u8 (0 : Int))),zU,zU,zU,zU,zU,zU,zU,zU,zU,zU,zU,zU,zU,zU,zU,zU,(D.list 0 (some 0) []),(D.list 0 (some 0) [])]),(Blk.d Zqo Zw1)]⟩
  (contK Tg Z50.sp ⟨0,[],false,[]⟩ (inlK Tg Z50 m 4) m Z2q (endK Tg Tryz.f86 (fun v L => viewK L 8 v some)) [.block 0,.code (subc [1,1,1,1] (bodyOf Tryz.f86))])
theorem Zyv (m n0 : Nat) (Z44 : Nat) (Z7b : Int) (Z5a : Int) (Z6f : Int) (Z5b : Int) (Z62 : Int) (Z4q : Int) (Z54 : Int) (Z5c : Int) (Z5d : Int) (Z3n : Int) (Z3l : Int) (Z36 : Int) (Z49 : Int) (Z1i : Int) (Z4e : Int) (Z55 : Int) (Z6g : Int) (Z60 : Int) (Z82 : Int) (Z83 : Int) (Z8l : Nat) (Z84 : Option Nat) (Zw0 : List D) (Zqo : Nat) (Zw1 : List D) : Zc7 m (n0 + 1) Z44 Z7b Z5a Z6f Z5b Z62 Z4q Z54 Z5c Z5d Z3n Z3l Z36 Z49 Z1i Z4e Z55 Z6g Z60 Z82 Z83 Z8l Z84 Zw0 Zqo Zw1 =
 (cond (decide (Z5a < Z7b))
 (if 0 ≤ Z5a ∧ Z5a < (Z44 : Int) then
 if ((0 + ((Int.toNat Z5a) * 27)) + 27) ≤ Zqo then
 if (List.length (cutL Zqo Zw1 (0 + ((Int.toNat Z5a) * 27)) 27)) = 27 then
 (rdL (cutL Zqo Zw1 (0 + ((Int.toNat Z5a) * 27)) 27)[5]?).bind fun q15 =>
 (Z6v [(D.list q15.n q15.cap q15.cs)]).bind fun d16 =>
 (rdL (some d16)).bind fun q17 =>
 if 0 ≤ Z5a ∧ Z5a < (Z44 : Int) then
 if 1 = 1 ∧ ((0 + ((Int.toNat Z5a) * 27)) + 5) < Zqo then
 (rdL (cutL Zqo Zw1 (0 + ((Int.toNat Z5a) * 27)) 27)[26]?).bind fun q18 =>
 (Z7s [(D.list q18.n q18.cap q18.cs)]).bind fun d19 =>
 (rdL (some d19)).bind fun q20 =>
 if 0 ≤ Z5a ∧ Z5a < (Z44 : Int) then
 if 1 = 1 ∧ ((0 + ((Int.toNat Z5a) * 27)) + 26) < Zqo then
 Zc7 m n0 Z44 Z7b (IntKind.wrap .i64 (Z5a + (1 : Int))) Z6f Z5b Z62 Z4q Z54 Z5c Z5d Z3n Z3l Z36 Z49 Z1i Z4e Z55 Z6g Z60 Z82 Z83 Z8l Z84 Zw0 Zqo (List.set (List.set Zw1 ((0 + ((Int.toNat Z5a) * 27)) + 5) (D.list q17.n q17.cap q17.cs)) ((0 + ((Int.toNat Z5a) * 27)) + 26) (D.list q20.n q20.cap q20.cs))
 else none
 else none
 else none
 else none
 else none
 else none
 else none)
 (if (0 + (Z44 * 27)) ≤ Zqo then
 some (D.agg [(D.v (.int .i64 Z6f)),(D.v (.int .u8 Z5b)),(D.v (.int .u32 Z62)),(D.v (.int .u32 Z4q)),(D.v (.int .u32 Z54)),(D.v (.int .u32 Z5c)),(D.v (.int .u32 Z5d)),(D.v (.int .u32 Z3n)),(D.v (.int .u32 Z3l)),(D.v (.int .u32 Z36)),(D.v (.int .u32 Z49)),(D.v (.int .u32 Z1i)),(D.v (.int .u32 Z4e)),(D.v (.int .u32 Z55)),(D.v (.int .u32 Z6g)),(D.v (.int .u32 Z60)),(D.v (.int .u32 Z82)),(D.v (.int .u32 Z83)),(D.list Z8l Z84 Zw0),(D.list Z44 (some Z44) (cutL Zqo Zw1 0 (Z44 * 27)))])
 else none)) := by kernel_rfl
noncomputable def Zlv (m : Nat) (a0_0 : Int) (a0_1 : Int) (a0_2 : Int) (a0_3 : Int) (a0_4 : Int) (a0_5 : Int) (a0_6 : Int) (a0_7 : Int) (a0_8 : Int) (a0_9 : Int) (a0_10 : Int) (a0_11 : Int) (a0_12 : Int) (a0_13 : Int) (a0_14 : Int) (a0_15 : Int) (a0_16 : Int) (a0_17 : Int) (a0_18n : Nat) (a0_18c : Option Nat) (a0_18 : List D) (a0_19n : Nat) (a0_19c : Option Nat) (a0_19 : List D) : Option D :=
 (Z65 [(D.list a0_18n a0_18c a0_18)]).bind fun d1 =>
 (rdL (some d1)).bind fun q2 =>
 cond ((a0_19n : Int) == (0 : Int))
 (Znr m m a0_0 a0_1 a0_2 a0_3 a0_4 a0_5 a0_6 a0_7 a0_8 a0_9 a0_10 a0_11 a0_12 a0_13 a0_14 a0_15 a0_16 a0_17 q2.n q2.cap q2.cs)
 (if 0 ≤ (a0_19n : Int) ∧ (a0_19n : Int) ≤ (a0_19n : Int) ∧ Z1w (Int.toNat (a0_19n : Int)) 208 then
 if (List.length a0_19) = (a0_19n * 27) then
 if (0 + ((Int.toNat (a0_19n : Int)) * 27)) ≤ ((Int.toNat (a0_19n : Int)) * 27) ∧ (List.length a0_19) = (a0_19n * 27) then
 Zc7 m m (Int.toNat (a0_19n : Int)) (((Int.toNat (a0_19n : Int)) : Nat) : Int) (0 : Int) a0_0 a0_1 a0_2 a0_3 a0_4 a0_5 a0_6 a0_7 a0_8 a0_9 a0_10 a0_11 a0_12 a0_13 a0_14 a0_15 a0_16 a0_17 q2.n q2.cap q2.cs ((Int.toNat (a0_19n : Int)) * 27) (List.take 0 (List.flatten (List.replicate (Int.toNat (a0_19n : Int)) [(D.v (.int .u8 (0 : Int))),(D.v (.string (ByteArray.mk #[]))),(D.v (.bool false)),zU,(D.v (.string (ByteArray.mk #[]))),(D.list 0 (some 0) []),(D.v (.bool false)),zU,(D.v (.string (ByteArray.mk #[]))),(D.v (.int .u8 (0 : Int))),zU,zU,zU,zU,zU,zU,zU,zU,zU,zU,zU,zU,zU,zU,zU,zU,(D.list 0 (some 0) [])])) ++ (List.take ((Nat.min a0_19n (Int.toNat (a0_19n : Int))) * 27) a0_19 ++ List.drop (0 + ((Nat.min a0_19n (Int.toNat (a0_19n : Int))) * 27)) (List.flatten (List.replicate (Int.toNat (a0_19n : Int)) [(D.v (.int .u8 (0 : Int))),(D.v (.string (ByteArray.mk #[]))),(D.v (.bool false)),zU,(D.v (.string (ByteArray.mk #[]))),(D.list 0 (some 0) []),(D.v (.bool false)),zU,(D.v (.string (ByteArray.mk #[]))),(D.v (.int .u8 (0 : Int))),zU,zU,zU,zU,zU,zU,zU,zU,zU,zU,zU,zU,zU,zU,zU,zU,(D.list 0 (some 0) [])]))))
 else none
 else none
 else none)
theorem Z154 (m : Nat) (a0_0 : Int) (a0_1 : Int) (a0_2 : Int) (a0_3 : Int) (a0_4 : Int) (a0_5 : Int) (a0_6 : Int) (a0_7 : Int) (a0_8 : Int) (a0_9 : Int) (a0_10 : Int) (a0_11 : Int) (a0_12 : Int) (a0_13 : Int) (a0_14 : Int) (a0_15 : Int) (a0_16 : Int) (a0_17 : Int) (a0_18n : Nat) (a0_18c : Option Nat) (a0_18 : List D) (a0_19n : Nat) (a0_19c : Option Nat) (a0_19 : List D) : funD Tg Z50 m 4 Z2q Tryz.f86 [(D.agg [(D.v (.int .i64 a0_0)),(D.v (.int .u8 a0_1)),(D.v (.int .u32 a0_2)),(D.v (.int .u32 a0_3)),(D.v (.int .u32 a0_4)),(D.v (.int .u32 a0_5)),(D.v (.int .u32 a0_6)),(D.v (.int .u32 a0_7)),(D.v (.int .u32 a0_8)),(D.v (.int .u32 a0_9)),(D.v (.int .u32 a0_10)),(D.v (.int .u32 a0_11)),(D.v (.int .u32 a0_12)),(D.v (.int .u32 a0_13)),(D.v (.int .u32 a0_14)),(D.v (.int .u32 a0_15)),(D.v (.int .u32 a0_16)),(D.v (.int .u32 a0_17)),(D.list a0_18n a0_18c a0_18),(D.list a0_19n a0_19c a0_19)])] = Zlv m a0_0 a0_1 a0_2 a0_3 a0_4 a0_5 a0_6 a0_7 a0_8 a0_9 a0_10 a0_11 a0_12 a0_13 a0_14 a0_15 a0_16 a0_17 a0_18n a0_18c a0_18 a0_19n a0_19c a0_19 := by kernel_rfl
theorem Z19x : Enters Tg 86 := ⟨Tryz.f86,Tryz.func86,by kernel_rfl,by kernel_rfl⟩
theorem Z19y {ds : List D} {d : D} (h : funD Tg Z50 M 4 Z2q Tryz.f86 ds = some d) : DataSem Tg 86 ds d := Z8 (H := Z50) (SpOk.cons Zvz (SpOk.cons Zxr (SpOk.cons Z10l SpOk.nil))) mixed (InlOk.cons Tryz.func113 Zog InlOk.nil) Tryz.func86 Z19x h
noncomputable def Zeb : List D → Option D
  | [.agg [.v (.int .i64 a0_0),.v (.int .u8 a0_1),.v (.int .u32 a0_2),.v (.int .u32 a0_3),.v (.int .u32 a0_4),.v (.int .u32 a0_5),.v (.int .u32 a0_6),.v (.int .u32 a0_7),.v (.int .u32 a0_8),.v (.int .u32 a0_9),.v (.int .u32 a0_10),.v (.int .u32 a0_11),.v (.int .u32 a0_12),.v (.int .u32 a0_13),.v (.int .u32 a0_14),.v (.int .u32 a0_15),.v (.int .u32 a0_16),.v (.int .u32 a0_17),.list a0_18n a0_18c a0_18,.list a0_19n a0_19c a0_19]] => Zlv M a0_0 a0_1 a0_2 a0_3 a0_4 a0_5 a0_6 a0_7 a0_8 a0_9 a0_10 a0_11 a0_12 a0_13 a0_14 a0_15 a0_16 a0_17 a0_18n a0_18c a0_18 a0_19n a0_19c a0_19
  | _ => none
theorem Z19z : ∀ ds d,Zeb ds = some d → DataSem Tg 86 ds d := by
  intro ds d h
  unfold Zeb at h
  split at h
  · exact Z19y ((Z154 M _ _ _ _ _ _ _ _ _ _ _ _ _ _ _ _ _ _ _ _ _ _ _ _).trans h)
  · cases h

end Go.Ev
