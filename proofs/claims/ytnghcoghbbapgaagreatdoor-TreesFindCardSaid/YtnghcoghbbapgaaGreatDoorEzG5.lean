/- Functions of the given program in plain form,printed: each with the proof that it is what the evaluator comes to,and that the program function returns what it says. No conditions. -/
import Derived.Test.YtnghcoghbbapgaaGreatDoorEzG3
set_option linter.unusedVariables false
set_option maxRecDepth 100000
namespace Go.Ev
open Go Go.Proofs
def Z1q : FnH := ⟨[(2,⟨(bm 38 36),[],(some 1)⟩)],[(3,⟨(bm 38 36),[],(some 1)⟩)]⟩
noncomputable def Z3s : Hints := ⟨[],[],[]⟩
noncomputable def Z8l (m n0 : Nat) (Zi : Int) (Zt : Nat) (Z10 : Option Nat) (Zq : List D) (Zu : Nat) (Z1m : Option Nat) (Z37 : List D) : Option D :=
 Z2a (bm 38 36) 0 1 (codeK Tg Z3s.sp ⟨0,[],false,[]⟩ (inlK Tg Z3s m 4) m Z1q (subc [1,1,0,0,0] (bodyOf Tryz.f22))) n0 ⟨[Jk,(AV.d (D.v (.int .i64 Zi))),(AV.ptr 0 0),Jk,Jk,(AV.d (D.list Zt Z10 Zq)),Jk,Jk,Jk,Jk,Jk,Jk,Jk,Jk,Jk,Jk,Jk,Jk,Jk,Jk,Jk,Jk,Jk,Jk,Jk,Jk,Jk,Jk,Jk,Jk,Jk,Jk,Jk,Jk,Jk,Jk],[(Blk.d 1 [(D.list Zu Z1m Z37)])]⟩
  (contK Tg Z3s.sp ⟨0,[],false,[]⟩ (inlK Tg Z3s m 4) m Z1q (endK Tg Tryz.f22 endV) [.block 0,.code (subc [1,1,1] (bodyOf Tryz.f22))])
noncomputable def Zj6 (m n0 : Nat) (Z3o : Int) (Z7k : Nat) (Z71 : Option Nat) (Z5e : List D) (Zik : Nat) (Zzq : Option Nat) (Zxi : List D) : Option D :=
 cutK m (codeK Tg Z3s.sp ⟨0,[],false,[]⟩ (inlK Tg Z3s m 4) m Z1q (subc [1,1,0,0,0,1] (bodyOf Tryz.f22)) ⟨[Jk,(AV.d (D.v (.int .i64 Z3o))),(AV.ptr 0 0),Jk,Jk,(AV.d (D.list Z7k Z71 Z5e)),Jk,Jk,Jk,Jk,Jk,Jk,Jk,Jk,Jk,Jk,Jk,Jk,Jk,Jk,Jk,Jk,Jk,Jk,Jk,Jk,Jk,Jk,Jk,Jk,Jk,Jk,Jk,Jk,Jk,Jk],[(Blk.d 1 [(D.list Zik Zzq Zxi)])]⟩
  (contK Tg Z3s.sp ⟨0,[],false,[]⟩ (inlK Tg Z3s m 4) m Z1q (endK Tg Tryz.f22 endV) [.loop (bm 38 36) 1 (subc [1,1,0,0,0] (bodyOf Tryz.f22)) n0,.block 0,.code (subc [1,1,1] (bodyOf Tryz.f22))]))
theorem Zut (m n0 : Nat) (Z3o : Int) (Z7k : Nat) (Z71 : Option Nat) (Z5e : List D) (Zik : Nat) (Zzq : Option Nat) (Zxi : List D) : Zj6 m n0 Z3o Z7k Z71 Z5e Zik Zzq Zxi =
 (if 0 ≤ Z3o ∧ Z3o < (Zik : Int) then
 if ((((Int.toNat Z3o) * 20) + 1) + 17) ≤ (List.length Zxi) then
 if (List.length ((List.drop (((Int.toNat Z3o) * 20) + 1) Zxi).take 17)) = 17 then
 if (List.length Z5e) = (Z7k * 17) then
 if (1 + Z7k) ≤ 1 then
 (if (0 + ((1 + Z7k) * 17)) ≤ 17 ∧ (List.length Z5e) = (Z7k * 17) then
 if 0 ≤ Z3o ∧ Z3o < (Zik : Int) then
 (rdI .i64 Zxi[(((Int.toNat Z3o) * 20) + 0)]?).bind fun x6 =>
 if (0 + ((1 + Z7k) * 17)) ≤ 17 then
 Z8l m n0 x6 (1 + Z7k) (some 1) (cutL 17 (List.take 17 ((List.drop (((Int.toNat Z3o) * 20) + 1) Zxi).take 17) ++ (Z5e ++ List.drop (0 + ((1 + Z7k) * 17)) ((List.drop (((Int.toNat Z3o) * 20) + 1) Zxi).take 17))) 0 ((1 + Z7k) * 17)) Zik Zzq Zxi
 else none
 else none
 else none)
 else
 (if Z6a (1 + Z7k) 68 ∧ (List.length Z5e) = (Z7k * 17) then
 if 0 ≤ Z3o ∧ Z3o < (Zik : Int) then
 (rdI .i64 Zxi[(((Int.toNat Z3o) * 20) + 0)]?).bind fun x7 =>
 if (0 + ((1 + Z7k) * 17)) ≤ ((1 + Z7k) * 17) then
 Z8l m n0 x7 (1 + Z7k) none (cutL ((1 + Z7k) * 17) (((List.drop (((Int.toNat Z3o) * 20) + 1) Zxi).take 17) ++ Z5e) 0 ((1 + Z7k) * 17)) Zik Zzq Zxi
 else none
 else none
 else none)
 else none
 else none
 else none
 else none) := (Z30 m _).trans (by kernel_rfl)
theorem Zxk (m n0 : Nat) (Zi : Int) (Zt : Nat) (Z10 : Option Nat) (Zq : List D) (Zu : Nat) (Z1m : Option Nat) (Z37 : List D) : Z8l m (n0 + 1) Zi Zt Z10 Zq Zu Z1m Z37 =
 (cond (decide (Zi ≥ (0 : Int)))
 (cond (decide (Zi < (Zu : Int)))
 (cond (decide ((Zt : Int) < (100 : Int)))
 (Zj6 m n0 Zi Zt Z10 Zq Zu Z1m Z37)
 (some (D.list Zt Z10 Zq)))
 (some (D.list Zt Z10 Zq)))
 (some (D.list Zt Z10 Zq))) := by kernel_rfl
noncomputable def Z17j (m : Nat) (a0_0n : Nat) (a0_0c : Option Nat) (a0_0 : List D) (a1 : Int) : Option D :=
 Z8l m m a1 0 (some 0) [] a0_0n a0_0c a0_0
theorem Z1b7 (m : Nat) (a0_0n : Nat) (a0_0c : Option Nat) (a0_0 : List D) (a1 : Int) : funD Tg Z3s m 4 Z1q Tryz.f22 [(D.agg [(D.list a0_0n a0_0c a0_0)]),(D.v (.int .i64 a1))] = Z17j m a0_0n a0_0c a0_0 a1 := by kernel_rfl
theorem Z1fs : Enters Tg 22 := ⟨Tryz.f22,Tryz.func22,by kernel_rfl,by kernel_rfl⟩
theorem Z1ft {ds : List D} {d : D} (h : funD Tg Z3s M 4 Z1q Tryz.f22 ds = some d) : DataSem Tg 22 ds d := Z0 (H := Z3s) SpOk.nil mixed InlOk.nil Tryz.func22 Z1fs h
noncomputable def Zj7 : List D → Option D
 | [.agg [.list a0_0n a0_0c a0_0],.v (.int .i64 a1)] => Z17j M a0_0n a0_0c a0_0 a1
 | _ => none
theorem Z1fu : ∀ ds d,Zj7 ds = some d → DataSem Tg 22 ds d := by
 intro ds d h
 unfold Zj7 at h
 split at h
 ·exact Z1ft ((Z1b7 M _ _ _ _).trans h)
 ·cases h
def Z27 : FnH := ⟨[(4,⟨(bm 35 26),[],(some 0)⟩)],[]⟩
noncomputable def Z4q : Hints := ⟨[],[],[]⟩
noncomputable def Zcl (m n0 : Nat) (Zi : Nat) (Zt : Option Nat) (Z10 : List D) (Zq : Nat) (Zu : Option Nat) (Z1m : List D) (Z37 : Int) : Option D :=
 Z2a (bm 35 26) 0 0 (codeK Tg Z4q.sp ⟨0,[],false,[]⟩ (inlK Tg Z4q m 4) m Z27 (subc [1,1,0,1,0,0] (bodyOf Tryz.f21))) n0 ⟨[(AV.d (D.list Zi Zt Z10)),(AV.d (D.list Zq Zu Z1m)),Jk,Jk,Jk,(AV.d (D.v (.int .i64 Z37))),Jk,Jk,Jk,Jk,Jk,Jk,Jk,Jk,Jk,Jk,Jk,Jk,Jk,Jk,Jk,Jk,Jk,Jk,Jk,Jk],[]⟩
  (contK Tg Z4q.sp ⟨0,[],false,[]⟩ (inlK Tg Z4q m 4) m Z27 (endK Tg Tryz.f21 endV) [.block 0,.code (subc [1,1,1] (bodyOf Tryz.f21))])
theorem Z135 (m n0 : Nat) (Zi : Nat) (Zt : Option Nat) (Z10 : List D) (Zq : Nat) (Zu : Option Nat) (Z1m : List D) (Z37 : Int) : Zcl m (n0 + 1) Zi Zt Z10 Zq Zu Z1m Z37 =
 (cond (decide (Z37 < (Zi : Int)))
 (if 0 ≤ Z37 ∧ Z37 < (Zi : Int) then
 if (((Int.toNat Z37) * 17) + 17) ≤ (List.length Z10) then
 if 0 ≤ Z37 ∧ Z37 < (Zq : Int) then
 if (((Int.toNat Z37) * 17) + 17) ≤ (List.length Z1m) then
 (cellsEq [.int,.int,.int,.int,.int,.int,.int,.int,.int,.int,.int,.int,.int,.int,.int,.int,.int] ((List.drop ((Int.toNat Z37) * 17) Z10).take 17) ((List.drop ((Int.toNat Z37) * 17) Z1m).take 17)).bind fun b3 =>
 cond (!b3)
 (some zI)
 (Zcl m n0 Zi Zt Z10 Zq Zu Z1m (IntKind.wrap .i64 (Z37 + (1 : Int))))
 else none
 else none
 else none
 else none)
 (some (D.v (.int .i64 (1 : Int))))) := by kernel_rfl
noncomputable def Zj8 (m : Nat) (a0n : Nat) (a0c : Option Nat) (a0 : List D) (a1n : Nat) (a1c : Option Nat) (a1 : List D) : Option D :=
 cond ((a0n : Int) != (a1n : Int))
 (some zI)
 (Zcl m m a0n a0c a0 a1n a1c a1 (0 : Int))
theorem Z153 (m : Nat) (a0n : Nat) (a0c : Option Nat) (a0 : List D) (a1n : Nat) (a1c : Option Nat) (a1 : List D) : funD Tg Z4q m 4 Z27 Tryz.f21 [(D.list a0n a0c a0),(D.list a1n a1c a1)] = Zj8 m a0n a0c a0 a1n a1c a1 := by kernel_rfl
theorem Z18n : Enters Tg 21 := ⟨Tryz.f21,Tryz.func21,by kernel_rfl,by kernel_rfl⟩
theorem Z18o {ds : List D} {d : D} (h : funD Tg Z4q M 4 Z27 Tryz.f21 ds = some d) : DataSem Tg 21 ds d := Z0 (H := Z4q) SpOk.nil mixed InlOk.nil Tryz.func21 Z18n h
noncomputable def Z8g : List D → Option D
 | [.list a0n a0c a0,.list a1n a1c a1] => Zj8 M a0n a0c a0 a1n a1c a1
 | _ => none
theorem Z18p : ∀ ds d,Z8g ds = some d → DataSem Tg 21 ds d := by
 intro ds d h
 unfold Z8g at h
 split at h
 ·exact Z18o ((Z153 M _ _ _ _ _ _).trans h)
 ·cases h
def Z3f : FnH := ⟨[(2,⟨(bm 38 20),[],(some 1)⟩)],[]⟩
noncomputable def Zbm : Hints := ⟨[(21,Z8g),(22,Zj7)],[],[]⟩
noncomputable def Zlw (m n0 : Nat) (Zi : Nat) (Zt : Option Nat) (Z10 : List D) (Zq : Int) (Zu : Nat) (Z1m : Option Nat) (Z37 : List D) : Option D :=
 Z2a (bm 38 20) 0 1 (codeK Tg Zbm.sp ⟨0,[],false,[]⟩ (inlK Tg Zbm m 4) m Z3f (subc [1,0,1,0,0] (bodyOf Tryz.f14))) n0 ⟨[Jk,(AV.d (D.list Zi Zt Z10)),(AV.ptr 0 0),Jk,Jk,(AV.d (D.v (.int .i64 Zq))),Jk,Jk,Jk,Jk,Jk,Jk,Jk,Jk,Jk,Jk,Jk,Jk,Jk,Jk],[(Blk.d 1 [(D.list Zu Z1m Z37)])]⟩
  (contK Tg Zbm.sp ⟨0,[],false,[]⟩ (inlK Tg Zbm m 4) m Z3f (endK Tg Tryz.f14 endV) [.block 0,.code (subc [1,1] (bodyOf Tryz.f14))])
theorem Z18q (m n0 : Nat) (Zi : Nat) (Zt : Option Nat) (Z10 : List D) (Zq : Int) (Zu : Nat) (Z1m : Option Nat) (Z37 : List D) : Zlw m (n0 + 1) Zi Zt Z10 Zq Zu Z1m Z37 =
 (cond (decide (Zq < (Zu : Int)))
 ((Zj7 [(D.agg [(D.list Zu Z1m Z37)]),(D.v (.int .i64 Zq))]).bind fun d9 =>
 (rdL (some d9)).bind fun q10 =>
 (Z8g [(D.list q10.n q10.cap q10.cs),(D.list Zi Zt Z10)]).bind fun d11 =>
 (rdI .i64 (some d11)).bind fun x12 =>
 cond (x12 == (1 : Int))
 (some (D.v (.int .i64 Zq)))
 (Zlw m n0 Zi Zt Z10 (IntKind.wrap .i64 (Zq + (1 : Int))) Zu Z1m Z37))
 (some (D.v (.int .i64 (-1 : Int))))) := by kernel_rfl
noncomputable def Zsp (m : Nat) (a0_0n : Nat) (a0_0c : Option Nat) (a0_0 : List D) (a1n : Nat) (a1c : Option Nat) (a1 : List D) : Option D :=
 Zlw m m a1n a1c a1 (0 : Int) a0_0n a0_0c a0_0
theorem Z1b8 (m : Nat) (a0_0n : Nat) (a0_0c : Option Nat) (a0_0 : List D) (a1n : Nat) (a1c : Option Nat) (a1 : List D) : funD Tg Zbm m 4 Z3f Tryz.f14 [(D.agg [(D.list a0_0n a0_0c a0_0)]),(D.list a1n a1c a1)] = Zsp m a0_0n a0_0c a0_0 a1n a1c a1 := by kernel_rfl
theorem Z1fv : Enters Tg 14 := ⟨Tryz.f14,Tryz.func14,by kernel_rfl,by kernel_rfl⟩
theorem Z1fw {ds : List D} {d : D} (h : funD Tg Zbm M 4 Z3f Tryz.f14 ds = some d) : DataSem Tg 14 ds d := Z0 (H := Zbm) (SpOk.cons Z18p (SpOk.cons Z1fu SpOk.nil)) mixed InlOk.nil Tryz.func14 Z1fv h
noncomputable def Z46 : List D → Option D
 | [.agg [.list a0_0n a0_0c a0_0],.list a1n a1c a1] => Zsp M a0_0n a0_0c a0_0 a1n a1c a1
 | _ => none
theorem Z1fx : ∀ ds d,Z46 ds = some d → DataSem Tg 14 ds d := by
 intro ds d h
 unfold Z46 at h
 split at h
 ·exact Z1fw ((Z1b8 M _ _ _ _ _ _).trans h)
 ·cases h
end Go.Ev