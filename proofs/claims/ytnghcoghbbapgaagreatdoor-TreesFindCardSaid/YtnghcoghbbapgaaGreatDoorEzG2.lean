/- Functions of the given program in plain form,printed: each with the proof that it is what the evaluator comes to,and that the program function returns what it says. No conditions. -/
import Derived.Test.YtnghcoghbbapgaaGreatDoorEzG1
set_option linter.unusedVariables false
set_option maxRecDepth 100000
namespace Go.Ev
open Go Go.Proofs
def Ziq : FnH := ⟨[],[]⟩
noncomputable def Z12y : Hints := ⟨[],[],[]⟩
noncomputable def Z1as (m : Nat)  : Option D :=
 some (D.agg [(D.v (.int .u8 (5 : Int))),(D.v (.int .u32 (2 : Int))),(D.v (.int .u32 (5 : Int))),(D.v (.int .u32 (29 : Int))),(D.v (.int .u32 (32 : Int))),zU,zU,zU,zU,zU,zU,zU,zU,zU,zU,zU,zU])
theorem Z1ck (m : Nat)  : funD Tg Z12y m 4 Ziq Tryz.f38 [] = Z1as m  := by kernel_rfl
theorem Z1h7 : Enters Tg 38 := ⟨Tryz.f38,Tryz.func38,by kernel_rfl,by kernel_rfl⟩
theorem Z1h8 {ds : List D} {d : D} (h : funD Tg Z12y M 4 Ziq Tryz.f38 ds = some d) : DataSem Tg 38 ds d := Z0 (H := Z12y) SpOk.nil mixed InlOk.nil Tryz.func38 Z1h7 h
noncomputable def Zsj : List D → Option D
 | [] => Z1as M 
 | _ => none
theorem Z1h9 : ∀ ds d,Zsj ds = some d → DataSem Tg 38 ds d := by
 intro ds d h
 unfold Zsj at h
 split at h
 ·exact Z1h8 ((Z1ck M ).trans h)
 ·cases h
def Z8e : FnH := ⟨[],[]⟩
noncomputable def Ztm : Hints := ⟨[(38,Zsj)],[],[]⟩
noncomputable def Zlp (m : Nat) (a0 : Int) : Option D :=
 cond ((Int.tmod a0 (7 : Int)) == (6 : Int))
 ((Zsj []).bind fun d1 =>
 (rdA (some d1)).bind fun c2 =>
 if (List.length c2) = 17 then
 some (D.agg c2)
 else none)
 (some (D.agg [(D.v (.int .u8 (3 : Int))),(D.v (.int .u32 (1 : Int))),(D.v (.int .u32 (2 : Int))),(D.v (.int .u32 (IntKind.wrap .u32 ((3 : Int) + (IntKind.wrap .u32 (Int.tmod a0 (7 : Int))))))),zU,zU,zU,zU,zU,zU,zU,zU,zU,zU,zU,zU,zU]))
theorem Z16b (m : Nat) (a0 : Int) : funD Tg Ztm m 4 Z8e Tryz.f12 [(D.v (.int .u8 a0))] = Zlp m a0 := by kernel_rfl
theorem Z1at : Enters Tg 12 := ⟨Tryz.f12,Tryz.func12,by kernel_rfl,by kernel_rfl⟩
theorem Z1au {ds : List D} {d : D} (h : funD Tg Ztm M 4 Z8e Tryz.f12 ds = some d) : DataSem Tg 12 ds d := Z0 (H := Ztm) (SpOk.cons Z1h9 SpOk.nil) mixed InlOk.nil Tryz.func12 Z1at h
noncomputable def Z18 : List D → Option D
 | [.v (.int .u8 a0)] => Zlp M a0
 | _ => none
theorem Zqp : ∀ ds d,Z18 ds = some d → DataSem Tg 12 ds d := by
 intro ds d h
 unfold Z18 at h
 split at h
 ·exact Z1au ((Z16b M _).trans h)
 ·cases h
def Zbi : FnH := ⟨[],[]⟩
noncomputable def Zwb : Hints := ⟨[],[],[]⟩
noncomputable def Zp8 (m : Nat) (a0 : Int) : Option D :=
 cond ((Int.tmod a0 (4 : Int)) == (1 : Int))
 (some (D.list 1 (some 1) [(D.v (.int .u8 (1 : Int))),(D.v (.string (ByteArray.mk #[104,116,116,112,58,47,47,97]))),(D.v (.bool false)),zU,(D.v (.string (ByteArray.mk #[]))),(D.list 0 (some 0) []),(D.v (.bool false)),zU,(D.v (.string (ByteArray.mk #[]))),(D.v (.int .u8 (0 : Int))),zU,zU,zU,zU,zU,zU,zU,zU,zU,zU,zU,zU,zU,zU,zU,zU,(D.list 0 (some 0) [])]))
 (cond ((Int.tmod a0 (4 : Int)) == (2 : Int))
 (some (D.list 1 (some 1) [(D.v (.int .u8 (2 : Int))),(D.v (.string (ByteArray.mk #[]))),(D.v (.bool false)),zU,(D.v (.string (ByteArray.mk #[]))),(D.list 0 (some 0) []),(D.v (.bool true)),(D.v (.int .u32 (12 : Int))),(D.v (.string (ByteArray.mk #[98]))),(D.v (.int .u8 (0 : Int))),zU,zU,zU,zU,zU,zU,zU,zU,zU,zU,zU,zU,zU,zU,zU,zU,(D.list 0 (some 0) [])]))
 (cond ((Int.tmod a0 (4 : Int)) == (3 : Int))
 (some (D.list 2 (some 2) [(D.v (.int .u8 (2 : Int))),(D.v (.string (ByteArray.mk #[]))),(D.v (.bool false)),zU,(D.v (.string (ByteArray.mk #[]))),(D.list 0 (some 0) []),(D.v (.bool true)),(D.v (.int .u32 (12 : Int))),(D.v (.string (ByteArray.mk #[98]))),(D.v (.int .u8 (0 : Int))),zU,zU,zU,zU,zU,zU,zU,zU,zU,zU,zU,zU,zU,zU,zU,zU,(D.list 0 (some 0) []),(D.v (.int .u8 (1 : Int))),(D.v (.string (ByteArray.mk #[104,116,116,112,58,47,47,97]))),(D.v (.bool false)),zU,(D.v (.string (ByteArray.mk #[]))),(D.list 0 (some 0) []),(D.v (.bool false)),zU,(D.v (.string (ByteArray.mk #[]))),(D.v (.int .u8 (0 : Int))),zU,zU,zU,zU,zU,zU,zU,zU,zU,zU,zU,zU,zU,zU,zU,zU,(D.list 0 (some 0) [])]))
 (some (D.list 0 (some 0) []))))
theorem Z18b (m : Nat) (a0 : Int) : funD Tg Zwb m 4 Zbi Tryz.f46 [(D.v (.int .u8 a0))] = Zp8 m a0 := by kernel_rfl
theorem Z1cl : Enters Tg 46 := ⟨Tryz.f46,Tryz.func46,by kernel_rfl,by kernel_rfl⟩
theorem Z1cm {ds : List D} {d : D} (h : funD Tg Zwb M 4 Zbi Tryz.f46 ds = some d) : DataSem Tg 46 ds d := Z0 (H := Zwb) SpOk.nil mixed InlOk.nil Tryz.func46 Z1cl h
noncomputable def Zea : List D → Option D
 | [.v (.int .u8 a0)] => Zp8 M a0
 | _ => none
theorem Z1cn : ∀ ds d,Zea ds = some d → DataSem Tg 46 ds d := by
 intro ds d h
 unfold Zea at h
 split at h
 ·exact Z1cm ((Z18b M _).trans h)
 ·cases h
def Zh : FnH := ⟨[(4,⟨(bm 233 49),[(5,17)],(some 2)⟩)],[(8,⟨(bm 233 49),[],(some 2)⟩),(11,⟨(bm 233 49),[],(some 3)⟩)]⟩
noncomputable def Z1h : Hints := ⟨[(56,Z2f)],[],[]⟩
noncomputable def Zir (m n0 : Nat) (Zi : Nat) (Zt : Option Nat) (Z10 : List D) (Zq : Nat) (Zu : Int) (Z1m : Int) (Z37 : List D) (Z8j : Nat) (Z91 : List D) : Option D :=
 Z2a (bm 233 49) 0 2 (codeK Tg Z1h.sp ⟨0,[],false,[]⟩ (inlK Tg Z1h m 4) m Zh (subc [1,1,1,0,1,0,0] (bodyOf Tryz.f75))) n0 ⟨[(AV.d (D.list Zi Zt Z10)),Jk,Jk,(AV.ptr 0 0),Jk,(AV.sl 1 0 Zq none 17),(AV.d (D.v (.int .i64 Zu))),(AV.d (D.v (.int .i64 Z1m))),Jk,Jk,Jk,Jk,Jk,Jk,Jk,Jk,Jk,Jk,Jk,Jk,Jk,Jk,Jk,Jk,Jk,Jk,Jk,Jk,Jk,Jk,Jk,Jk,Jk,Jk,Jk,Jk,Jk,Jk,Jk,Jk,Jk,Jk,Jk,Jk,Jk,Jk,Jk,Jk,Jk],[(Blk.d 17 Z37),(Blk.d Z8j Z91)]⟩
  (contK Tg Z1h.sp ⟨0,[],false,[]⟩ (inlK Tg Z1h m 4) m Zh (endK Tg Tryz.f75 endV) [.block 0,.code (subc [1,1,1,1] (bodyOf Tryz.f75))])
noncomputable def Zlq (m n0 : Nat) (Z3o : Nat) (Z7k : Option Nat) (Z71 : List D) (Z5e : Nat) (Zik : Int) (Zzq : Int) (Zxi : List D) (Z1co : Nat) (Z1dy : List D) : Option D :=
 cutK m (codeK Tg Z1h.sp ⟨0,[],false,[]⟩ (inlK Tg Z1h m 4) m Zh (subc [1,1,1,0,1,0,0,1,0,0,1] (bodyOf Tryz.f75)) ⟨[(AV.d (D.list Z3o Z7k Z71)),Jk,Jk,(AV.ptr 0 0),Jk,(AV.sl 1 0 Z5e none 17),(AV.d (D.v (.int .i64 Zik))),(AV.d (D.v (.int .i64 Zzq))),Jk,Jk,Jk,Jk,Jk,Jk,Jk,Jk,Jk,Jk,Jk,Jk,Jk,Jk,Jk,Jk,Jk,Jk,Jk,Jk,Jk,Jk,Jk,Jk,Jk,Jk,Jk,Jk,Jk,Jk,Jk,Jk,Jk,Jk,Jk,Jk,Jk,Jk,Jk,Jk,Jk],[(Blk.d 17 Zxi),(Blk.d Z1co Z1dy)]⟩
  (contK Tg Z1h.sp ⟨0,[],false,[]⟩ (inlK Tg Z1h m 4) m Zh (endK Tg Tryz.f75 endV) [.block 1,.code (subc [1,1,1,0,1,0,0,1,1] (bodyOf Tryz.f75)),.loop (bm 233 49) 2 (subc [1,1,1,0,1,0,0] (bodyOf Tryz.f75)) n0,.block 0,.code (subc [1,1,1,1] (bodyOf Tryz.f75))]))
noncomputable def Zzr (m n0 : Nat) (Zxf : Nat) (Z12w : Option Nat) (Z14u : List D) (Z14v : Nat) (Z1c0 : Int) (Z13e : Int) (Z1g5 : List D) (Z1im : Nat) (Z1in : List D) (Z1hx : List D) : Option D :=
 cutK m (codeK Tg Z1h.sp ⟨0,[],false,[]⟩ (inlK Tg Z1h m 4) m Zh (subc [1,1,1,0,1,0,0,1,0,0,1,1] (bodyOf Tryz.f75)) ⟨[(AV.d (D.list Zxf Z12w Z14u)),Jk,Jk,(AV.ptr 0 0),Jk,(AV.sl 1 0 Z14v none 17),(AV.d (D.v (.int .i64 Z1c0))),(AV.d (D.v (.int .i64 Z13e))),Jk,Jk,Jk,Jk,Jk,Jk,Jk,Jk,Jk,Jk,Jk,Jk,Jk,Jk,Jk,Jk,Jk,Jk,Jk,Jk,Jk,Jk,Jk,Jk,Jk,Jk,Jk,Jk,Jk,Jk,Jk,Jk,Jk,Jk,Jk,Jk,Jk,Jk,Jk,Jk,Jk],[(Blk.d 17 Z1g5),(Blk.d Z1im Z1in),(Blk.d 17 Z1hx)]⟩
  (contK Tg Z1h.sp ⟨0,[],false,[]⟩ (inlK Tg Z1h m 4) m Zh (endK Tg Tryz.f75 endV) [.block 1,.code (subc [1,1,1,0,1,0,0,1,1] (bodyOf Tryz.f75)),.loop (bm 233 49) 2 (subc [1,1,1,0,1,0,0] (bodyOf Tryz.f75)) n0,.block 0,.code (subc [1,1,1,1] (bodyOf Tryz.f75))]))
theorem Z16c (m n0 : Nat) (Zxf : Nat) (Z12w : Option Nat) (Z14u : List D) (Z14v : Nat) (Z1c0 : Int) (Z13e : Int) (Z1g5 : List D) (Z1im : Nat) (Z1in : List D) (Z1hx : List D) : Zzr m n0 Zxf Z12w Z14u Z14v Z1c0 Z13e Z1g5 Z1im Z1in Z1hx =
 (if 0 ≤ Z13e ∧ Z13e < (Zxf : Int) then
 if (((Int.toNat Z13e) * 17) + 17) ≤ (List.length Z14u) then
 if (List.length ((List.drop ((Int.toNat Z13e) * 17) Z14u).take 17)) = 17 then
 if ownB ⟨0,[],false,[]⟩ 1 = true ∧ Z1im = (Z14v * 17) ∧ Z6a (Z14v + 1) 68 ∧ (List.length ((List.drop ((Int.toNat Z13e) * 17) Z14u).take 17)) = 17 then
 Zir m n0 Zxf Z12w Z14u (Z14v + 1) Z1c0 (IntKind.wrap .i64 (Z13e + (1 : Int))) Z1g5 ((Z14v + 1) * 17) (Z1in ++ ((List.drop ((Int.toNat Z13e) * 17) Z14u).take 17))
 else none
 else none
 else none
 else none) := (Z30 m _).trans (by kernel_rfl)
noncomputable def Zcj (m n0 : Nat) (Z17e : Nat) (Z1c1 : Option Nat) (Z19f : List D) (Z1av : Nat) (Z1dz : Int) (Z1cp : Int) (Z1fc : List D) (Z1hy : Nat) (Z1io : List D) : Option D :=
 cutK m (codeK Tg Z1h.sp ⟨0,[],false,[]⟩ (inlK Tg Z1h m 4) m Zh (subc [1,1,1,0,1,0,0,1,0,0,1,1] (bodyOf Tryz.f75)) ⟨[(AV.d (D.list Z17e Z1c1 Z19f)),Jk,Jk,(AV.ptr 0 0),Jk,(AV.sl 1 0 Z1av none 17),(AV.d (D.v (.int .i64 Z1dz))),(AV.d (D.v (.int .i64 Z1cp))),Jk,Jk,Jk,Jk,Jk,Jk,Jk,Jk,Jk,Jk,Jk,Jk,Jk,Jk,Jk,Jk,Jk,Jk,Jk,Jk,Jk,Jk,Jk,Jk,Jk,Jk,Jk,Jk,Jk,Jk,Jk,Jk,Jk,Jk,Jk,Jk,Jk,Jk,Jk,Jk,Jk],[(Blk.d 17 Z1fc),(Blk.d Z1hy Z1io)]⟩
  (contK Tg Z1h.sp ⟨0,[],false,[]⟩ (inlK Tg Z1h m 4) m Zh (endK Tg Tryz.f75 endV) [.block 1,.code (subc [1,1,1,0,1,0,0,1,1] (bodyOf Tryz.f75)),.loop (bm 233 49) 2 (subc [1,1,1,0,1,0,0] (bodyOf Tryz.f75)) n0,.block 0,.code (subc [1,1,1,1] (bodyOf Tryz.f75))]))
theorem Zqq (m n0 : Nat) (Z17e : Nat) (Z1c1 : Option Nat) (Z19f : List D) (Z1av : Nat) (Z1dz : Int) (Z1cp : Int) (Z1fc : List D) (Z1hy : Nat) (Z1io : List D) : Zcj m n0 Z17e Z1c1 Z19f Z1av Z1dz Z1cp Z1fc Z1hy Z1io =
 (if 0 ≤ Z1cp ∧ Z1cp < (Z17e : Int) then
 if (((Int.toNat Z1cp) * 17) + 17) ≤ (List.length Z19f) then
 if (List.length ((List.drop ((Int.toNat Z1cp) * 17) Z19f).take 17)) = 17 then
 if ownB ⟨0,[],false,[]⟩ 1 = true ∧ Z1hy = (Z1av * 17) ∧ Z6a (Z1av + 1) 68 ∧ (List.length ((List.drop ((Int.toNat Z1cp) * 17) Z19f).take 17)) = 17 then
 Zir m n0 Z17e Z1c1 Z19f (Z1av + 1) Z1dz (IntKind.wrap .i64 (Z1cp + (1 : Int))) Z1fc ((Z1av + 1) * 17) (Z1io ++ ((List.drop ((Int.toNat Z1cp) * 17) Z19f).take 17))
 else none
 else none
 else none
 else none) := (Z30 m _).trans (by kernel_rfl)
theorem Z18c (m n0 : Nat) (Z3o : Nat) (Z7k : Option Nat) (Z71 : List D) (Z5e : Nat) (Zik : Int) (Zzq : Int) (Zxi : List D) (Z1co : Nat) (Z1dy : List D) : Zlq m n0 Z3o Z7k Z71 Z5e Zik Zzq Zxi Z1co Z1dy =
 (cond (Zik == (0 : Int))
 (if 0 ≤ Zzq ∧ Zzq < (Z3o : Int) then
 if (((Int.toNat Zzq) * 17) + 17) ≤ (List.length Z71) then
 (Z2f [(D.agg Zxi),(D.agg ((List.drop ((Int.toNat Zzq) * 17) Z71).take 17))]).bind fun d8 =>
 (rdI .i64 (some d8)).bind fun x9 =>
 cond (decide (x9 < (0 : Int)))
 (if (List.length Zxi) = 17 then
 if ownB ⟨0,[],false,[]⟩ 1 = true ∧ Z1co = (Z5e * 17) ∧ Z6a (Z5e + 1) 68 ∧ (List.length Zxi) = 17 then
 Zzr m n0 Z3o Z7k Z71 (Z5e + 1) (1 : Int) Zzq Zxi ((Z5e + 1) * 17) (Z1dy ++ Zxi) Zxi
 else none
 else none)
 (Zcj m n0 Z3o Z7k Z71 Z5e Zik Zzq Zxi Z1co Z1dy)
 else none
 else none)
 (Zcj m n0 Z3o Z7k Z71 Z5e Zik Zzq Zxi Z1co Z1dy)) := (Z30 m _).trans (by kernel_rfl)
theorem Z1aw (m n0 : Nat) (Zi : Nat) (Zt : Option Nat) (Z10 : List D) (Zq : Nat) (Zu : Int) (Z1m : Int) (Z37 : List D) (Z8j : Nat) (Z91 : List D) : Zir m (n0 + 1) Zi Zt Z10 Zq Zu Z1m Z37 Z8j Z91 =
 (cond (decide (Z1m < (Zi : Int)))
 (if 0 ≤ Z1m ∧ Z1m < (Zi : Int) then
 if (((Int.toNat Z1m) * 17) + 17) ≤ (List.length Z10) then
 (cellsEq [.int,.int,.int,.int,.int,.int,.int,.int,.int,.int,.int,.int,.int,.int,.int,.int,.int] ((List.drop ((Int.toNat Z1m) * 17) Z10).take 17) Z37).bind fun b7 =>
 cond b7
 (Zlq m n0 Zi Zt Z10 Zq (1 : Int) Z1m Z37 Z8j Z91)
 (Zlq m n0 Zi Zt Z10 Zq Zu Z1m Z37 Z8j Z91)
 else none
 else none)
 (cond (Zu == (0 : Int))
 (if (List.length Z37) = 17 then
 if ownB ⟨0,[],false,[]⟩ 1 = true ∧ Z8j = (Zq * 17) ∧ Z6a (Zq + 1) 68 ∧ (List.length Z37) = 17 then
 if (0 + ((Zq + 1) * 17)) ≤ ((Zq + 1) * 17) then
 some (D.list (Zq + 1) none (cutL ((Zq + 1) * 17) (Z91 ++ Z37) 0 ((Zq + 1) * 17)))
 else none
 else none
 else none)
 (if (0 + (Zq * 17)) ≤ Z8j then
 some (D.list Zq none (cutL Z8j Z91 0 (Zq * 17)))
 else none))) := by kernel_rfl
noncomputable def Zwc (m : Nat) (a0n : Nat) (a0c : Option Nat) (a0 : List D) (a1 : List D) : Option D :=
 if (List.length a1) = 17 then
 Zir m m a0n a0c a0 0 (0 : Int) (0 : Int) a1 0 []
 else none
theorem Z1cq (m : Nat) (a0n : Nat) (a0c : Option Nat) (a0 : List D) (a1 : List D) : funD Tg Z1h m 4 Zh Tryz.f75 [(D.list a0n a0c a0),(D.agg a1)] = Zwc m a0n a0c a0 a1 := by kernel_rfl
theorem Z1ha : Enters Tg 75 := ⟨Tryz.f75,Tryz.func75,by kernel_rfl,by kernel_rfl⟩
theorem Z1hb {ds : List D} {d : D} (h : funD Tg Z1h M 4 Zh Tryz.f75 ds = some d) : DataSem Tg 75 ds d := Z0 (H := Z1h) (SpOk.cons Znw SpOk.nil) mixed InlOk.nil Tryz.func75 Z1ha h
noncomputable def Zn1 : List D → Option D
 | [.list a0n a0c a0,.agg a1] => Zwc M a0n a0c a0 a1
 | _ => none
theorem Z1hc : ∀ ds d,Zn1 ds = some d → DataSem Tg 75 ds d := by
 intro ds d h
 unfold Zn1 at h
 split at h
 ·exact Z1hb ((Z1cq M _ _ _ _).trans h)
 ·cases h
def Z25 : FnH := ⟨[(3,⟨(bm 25 20),[],(some 0)⟩)],[(4,⟨(bm 25 20),[],(some 0)⟩)]⟩
noncomputable def Z4o : Hints := ⟨[(12,Z18),(75,Zn1)],[],[]⟩
noncomputable def Zp9 (m n0 : Nat) (Zi : Int) (Zt : Nat) (Z10 : Option Nat) (Zq : List D) (Zu : Int) : Option D :=
 Z2a (bm 25 20) 0 0 (codeK Tg Z4o.sp ⟨0,[],false,[]⟩ (inlK Tg Z4o m 4) m Z25 (subc [1,1,0,1,0,0] (bodyOf Tryz.f45))) n0 ⟨[(AV.d (D.v (.int .u8 Zi))),Jk,Jk,(AV.d (D.list Zt Z10 Zq)),(AV.d (D.v (.int .i64 Zu))),Jk,Jk,Jk,Jk,Jk,Jk,Jk,Jk,Jk,Jk,Jk,Jk,Jk,Jk,Jk],[]⟩
  (contK Tg Z4o.sp ⟨0,[],false,[]⟩ (inlK Tg Z4o m 4) m Z25 (endK Tg Tryz.f45 endV) [.block 0,.code (subc [1,1,1] (bodyOf Tryz.f45))])
noncomputable def Zlr (m n0 : Nat) (Z3o : Int) (Z7k : Nat) (Z71 : Option Nat) (Z5e : List D) (Zik : Int) : Option D :=
 cutK m (codeK Tg Z4o.sp ⟨0,[],false,[]⟩ (inlK Tg Z4o m 4) m Z25 (subc [1,1,0,1,0,0,1,1] (bodyOf Tryz.f45)) ⟨[(AV.d (D.v (.int .u8 Z3o))),Jk,Jk,(AV.d (D.list Z7k Z71 Z5e)),(AV.d (D.v (.int .i64 Zik))),Jk,Jk,Jk,Jk,Jk,Jk,Jk,Jk,Jk,Jk,Jk,Jk,Jk,Jk,Jk],[]⟩
  (contK Tg Z4o.sp ⟨0,[],false,[]⟩ (inlK Tg Z4o m 4) m Z25 (endK Tg Tryz.f45 endV) [.loop (bm 25 20) 0 (subc [1,1,0,1,0,0] (bodyOf Tryz.f45)) n0,.block 0,.code (subc [1,1,1] (bodyOf Tryz.f45))]))
theorem Z18d (m n0 : Nat) (Z3o : Int) (Z7k : Nat) (Z71 : Option Nat) (Z5e : List D) (Zik : Int) : Zlr m n0 Z3o Z7k Z71 Z5e Zik =
 (Zp9 m n0 Z3o Z7k Z71 Z5e (IntKind.wrap .i64 (Zik + (1 : Int)))) := (Z30 m _).trans (by kernel_rfl)
theorem Z1ax (m n0 : Nat) (Zi : Int) (Zt : Nat) (Z10 : Option Nat) (Zq : List D) (Zu : Int) : Zp9 m (n0 + 1) Zi Zt Z10 Zq Zu =
 (cond (decide (Zu < (7 : Int)))
 (if Zu < 0 then none else
 cond ((Int.tmod (Int.fdiv Zi (2 ^ (min (Int.toNat Zu) (IntKind.bits .u8)))) (2 : Int)) == (1 : Int))
 ((Z18 [(D.v (.int .u8 (IntKind.wrap .u8 Zu)))]).bind fun d9 =>
 (rdA (some d9)).bind fun c10 =>
 (Zn1 [(D.list Zt Z10 Zq),(D.agg c10)]).bind fun d11 =>
 (rdL (some d11)).bind fun q12 =>
 Zlr m n0 Zi q12.n q12.cap q12.cs Zu)
 (Zlr m n0 Zi Zt Z10 Zq Zu))
 (some (D.list Zt Z10 Zq))) := by kernel_rfl
noncomputable def Zwd (m : Nat) (a0 : Int) : Option D :=
 Zp9 m m a0 0 (some 0) [] (0 : Int)
theorem Z1cr (m : Nat) (a0 : Int) : funD Tg Z4o m 4 Z25 Tryz.f45 [(D.v (.int .u8 a0))] = Zwd m a0 := by kernel_rfl
theorem Z1hd : Enters Tg 45 := ⟨Tryz.f45,Tryz.func45,by kernel_rfl,by kernel_rfl⟩
theorem Z1he {ds : List D} {d : D} (h : funD Tg Z4o M 4 Z25 Tryz.f45 ds = some d) : DataSem Tg 45 ds d := Z0 (H := Z4o) (SpOk.cons Zqp (SpOk.cons Z1hc SpOk.nil)) mixed InlOk.nil Tryz.func45 Z1hd h
noncomputable def Zn2 : List D → Option D
 | [.v (.int .u8 a0)] => Zwd M a0
 | _ => none
theorem Z1hf : ∀ ds d,Zn2 ds = some d → DataSem Tg 45 ds d := by
 intro ds d h
 unfold Zn2 at h
 split at h
 ·exact Z1he ((Z1cr M _).trans h)
 ·cases h
def Z19 : FnH := ⟨[(2,⟨(bm 38 34),[],(some 1)⟩)],[(5,⟨(bm 38 34),[],(some 1)⟩)]⟩
noncomputable def Z2q : Hints := ⟨[],[],[]⟩
noncomputable def Zis (m n0 : Nat) (Zi : Int) (Zt : Int) (Z10 : Nat) (Zq : Option Nat) (Zu : List D) : Option D :=
 Z2a (bm 38 34) 0 1 (codeK Tg Z2q.sp ⟨0,[],false,[]⟩ (inlK Tg Z2q m 4) m Z19 (subc [1,1,0,0,0] (bodyOf Tryz.f15))) n0 ⟨[Jk,(AV.d (D.v (.int .i64 Zi))),(AV.ptr 0 0),Jk,Jk,(AV.d (D.v (.int .i64 Zt))),Jk,Jk,Jk,Jk,Jk,Jk,Jk,Jk,Jk,Jk,Jk,Jk,Jk,Jk,Jk,Jk,Jk,Jk,Jk,Jk,Jk,Jk,Jk,Jk,Jk,Jk,Jk,Jk],[(Blk.d 1 [(D.list Z10 Zq Zu)])]⟩
  (contK Tg Z2q.sp ⟨0,[],false,[]⟩ (inlK Tg Z2q m 4) m Z19 (endK Tg Tryz.f15 endV) [.block 0,.code (subc [1,1,1] (bodyOf Tryz.f15))])
noncomputable def Zxj (m n0 : Nat) (Z3o : Int) (Z7k : Int) (Z71 : Nat) (Z5e : Option Nat) (Zik : List D) : Option D :=
 cutK m (codeK Tg Z2q.sp ⟨0,[],false,[]⟩ (inlK Tg Z2q m 4) m Z19 (subc [1,1,0,0,0,1,0,1] (bodyOf Tryz.f15)) ⟨[Jk,(AV.d (D.v (.int .i64 Z3o))),(AV.ptr 0 0),Jk,Jk,(AV.d (D.v (.int .i64 Z7k))),Jk,Jk,Jk,Jk,Jk,Jk,Jk,Jk,Jk,Jk,Jk,Jk,Jk,Jk,Jk,Jk,Jk,Jk,Jk,Jk,Jk,Jk,Jk,Jk,Jk,Jk,Jk,Jk],[(Blk.d 1 [(D.list Z71 Z5e Zik)])]⟩
  (contK Tg Z2q.sp ⟨0,[],false,[]⟩ (inlK Tg Z2q m 4) m Z19 (endK Tg Tryz.f15 endV) [.block 1,.loop (bm 38 34) 1 (subc [1,1,0,0,0] (bodyOf Tryz.f15)) n0,.block 0,.code (subc [1,1,1] (bodyOf Tryz.f15))]))
theorem Z14w (m n0 : Nat) (Z3o : Int) (Z7k : Int) (Z71 : Nat) (Z5e : Option Nat) (Zik : List D) : Zxj m n0 Z3o Z7k Z71 Z5e Zik =
 (if 0 ≤ Z3o ∧ Z3o < (Z71 : Int) then
 (rdI .i64 Zik[(((Int.toNat Z3o) * 20) + 0)]?).bind fun x9 =>
 Zis m n0 x9 (IntKind.wrap .i64 (Z7k + (1 : Int))) Z71 Z5e Zik
 else none) := (Z30 m _).trans (by kernel_rfl)
theorem Z16d (m n0 : Nat) (Zi : Int) (Zt : Int) (Z10 : Nat) (Zq : Option Nat) (Zu : List D) : Zis m (n0 + 1) Zi Zt Z10 Zq Zu =
 (cond (decide (Zi > (0 : Int)))
 (if 0 ≤ Zi ∧ Zi < (Z10 : Int) then
 (rdI .i64 Zu[(((Int.toNat Zi) * 20) + 0)]?).bind fun x7 =>
 cond (decide (x7 ≥ Zi))
 (some (D.v (.int .i64 (100000 : Int))))
 (if 0 ≤ Zi ∧ Zi < (Z10 : Int) then
 (rdI .i64 Zu[(((Int.toNat Zi) * 20) + 0)]?).bind fun x8 =>
 cond (decide (x8 < (0 : Int)))
 (some (D.v (.int .i64 (100000 : Int))))
 (Zxj m n0 Zi Zt Z10 Zq Zu)
 else none)
 else none)
 (some (D.v (.int .i64 Zt)))) := by kernel_rfl
noncomputable def Zpa (m : Nat) (a0_0n : Nat) (a0_0c : Option Nat) (a0_0 : List D) (a1 : Int) : Option D :=
 Zis m m a1 (0 : Int) a0_0n a0_0c a0_0
theorem Z18e (m : Nat) (a0_0n : Nat) (a0_0c : Option Nat) (a0_0 : List D) (a1 : Int) : funD Tg Z2q m 4 Z19 Tryz.f15 [(D.agg [(D.list a0_0n a0_0c a0_0)]),(D.v (.int .i64 a1))] = Zpa m a0_0n a0_0c a0_0 a1 := by kernel_rfl
theorem Z1cs : Enters Tg 15 := ⟨Tryz.f15,Tryz.func15,by kernel_rfl,by kernel_rfl⟩
theorem Z1ct {ds : List D} {d : D} (h : funD Tg Z2q M 4 Z19 Tryz.f15 ds = some d) : DataSem Tg 15 ds d := Z0 (H := Z2q) SpOk.nil mixed InlOk.nil Tryz.func15 Z1cs h
noncomputable def Z8k : List D → Option D
 | [.agg [.list a0_0n a0_0c a0_0],.v (.int .i64 a1)] => Zpa M a0_0n a0_0c a0_0 a1
 | _ => none
theorem Z1cu : ∀ ds d,Z8k ds = some d → DataSem Tg 15 ds d := by
 intro ds d h
 unfold Z8k at h
 split at h
 ·exact Z1ct ((Z18e M _ _ _ _).trans h)
 ·cases h
def Z3e : FnH := ⟨[(10,⟨(bm 34 39),[],(some 1)⟩)],[]⟩
noncomputable def Zbj : Hints := ⟨[(31,Ze9),(60,Z5h),(84,Ze8)],[],[]⟩
noncomputable def Zit (m n0 : Nat) (Zi : Int) (Zt : List D) : Option D :=
 Z2a (bm 34 39) 0 1 (codeK Tg Zbj.sp ⟨0,[],false,[]⟩ (inlK Tg Zbj m 4) m Z3e (subc [1,1,1,1,0,1,0,0] (bodyOf Tryz.f55))) n0 ⟨[Jk,(AV.ptr 0 0),Jk,Jk,Jk,(AV.d (D.v (.int .i64 Zi))),Jk,Jk,Jk,Jk,Jk,Jk,Jk,Jk,Jk,Jk,Jk,Jk,Jk,Jk,Jk,Jk,Jk,Jk,Jk,Jk,Jk,Jk,Jk,Jk,Jk,Jk,Jk,Jk,Jk,Jk,Jk,Jk,Jk],[(Blk.d 20 Zt)]⟩
  (contK Tg Zbj.sp ⟨0,[],false,[]⟩ (inlK Tg Zbj m 4) m Z3e (endK Tg Tryz.f55 endV) [.block 0,.code (subc [1,1,1,1,1] (bodyOf Tryz.f55))])
theorem Z16e (m n0 : Nat) (Zi : Int) (Zt : List D) : Zit m (n0 + 1) Zi Zt =
 ((rdL Zt[19]?).bind fun q15 =>
 cond (decide (Zi < (q15.n : Int)))
 ((rdL Zt[19]?).bind fun q16 =>
 if 0 ≤ Zi ∧ Zi < (q16.n : Int) then
 if (((Int.toNat Zi) * 27) + 27) ≤ (List.length q16.cs) then
 (Ze8 [(D.agg ((List.drop ((Int.toNat Zi) * 27) q16.cs).take 27))]).bind fun d17 =>
 (rdI .i64 (some d17)).bind fun x18 =>
 cond (x18 != (0 : Int))
 (some (D.v (.int .i64 x18)))
 (Zit m n0 (IntKind.wrap .i64 (Zi + (1 : Int))) Zt)
 else none
 else none)
 (some zI)) := by kernel_rfl
noncomputable def Zsk (m : Nat) (a0 : List D) : Option D :=
 if (List.length a0) = 20 then
 (Z5h [(D.agg ((List.drop 1 a0).take 17))]).bind fun d1 =>
 (rdI .i64 (some d1)).bind fun x2 =>
 cond (x2 != (0 : Int))
 (some (D.v (.int .i64 x2)))
 ((rdL a0[18]?).bind fun q3 =>
 (Ze9 [(D.list q3.n q3.cap q3.cs)]).bind fun d4 =>
 (rdI .i64 (some d4)).bind fun x5 =>
 cond (x5 != (0 : Int))
 (some (D.v (.int .i64 x5)))
 ((rdL a0[19]?).bind fun q6 =>
 cond (decide ((q6.n : Int) > (8 : Int)))
 (some (D.v (.int .i64 (3 : Int))))
 (Zit m m (0 : Int) a0)))
 else none
theorem Z1ay (m : Nat) (a0 : List D) : funD Tg Zbj m 4 Z3e Tryz.f55 [(D.agg a0)] = Zsk m a0 := by kernel_rfl
theorem Z1fd : Enters Tg 55 := ⟨Tryz.f55,Tryz.func55,by kernel_rfl,by kernel_rfl⟩
theorem Z1fe {ds : List D} {d : D} (h : funD Tg Zbj M 4 Z3e Tryz.f55 ds = some d) : DataSem Tg 55 ds d := Z0 (H := Zbj) (SpOk.cons Z1cj (SpOk.cons Z121 (SpOk.cons Z1ce SpOk.nil))) mixed InlOk.nil Tryz.func55 Z1fd h
noncomputable def Ziu : List D → Option D
 | [.agg a0] => Zsk M a0
 | _ => none
theorem Z1ff : ∀ ds d,Ziu ds = some d → DataSem Tg 55 ds d := by
 intro ds d h
 unfold Ziu at h
 split at h
 ·exact Z1fe ((Z1ay M _).trans h)
 ·cases h
def Z1a : FnH := ⟨[(2,⟨(bm 170 34),[],(some 2)⟩)],[(3,⟨(bm 170 34),[],(some 2)⟩)]⟩
noncomputable def Z2r : Hints := ⟨[],[],[]⟩
noncomputable def Ziv (m n0 : Nat) (Zi : Int) (Zt : Int) (Z10 : Nat) (Zq : Option Nat) (Zu : List D) (Z1m : List D) : Option D :=
 Z2a (bm 170 34) 0 2 (codeK Tg Z2r.sp ⟨0,[],false,[]⟩ (inlK Tg Z2r m 4) m Z1a (subc [1,0,1,0,0] (bodyOf Tryz.f54))) n0 ⟨[Jk,(AV.d (D.v (.int .i64 Zi))),Jk,(AV.ptr 0 0),Jk,(AV.ptr 1 0),Jk,(AV.d (D.v (.int .i64 Zt))),Jk,Jk,Jk,Jk,Jk,Jk,Jk,Jk,Jk,Jk,Jk,Jk,Jk,Jk,Jk,Jk,Jk,Jk,Jk,Jk,Jk,Jk,Jk,Jk,Jk,Jk],[(Blk.d 1 [(D.list Z10 Zq Zu)]),(Blk.d 17 Z1m)]⟩
  (contK Tg Z2r.sp ⟨0,[],false,[]⟩ (inlK Tg Z2r m 4) m Z1a (endK Tg Tryz.f54 endV) [.block 0,.code (subc [1,1] (bodyOf Tryz.f54))])
noncomputable def Zny (m n0 : Nat) (Z3o : Int) (Z7k : Int) (Z71 : Nat) (Z5e : Option Nat) (Zik : List D) (Zzq : List D) : Option D :=
 cutK m (codeK Tg Z2r.sp ⟨0,[],false,[]⟩ (inlK Tg Z2r m 4) m Z1a (subc [1,0,1,0,0,1,1] (bodyOf Tryz.f54)) ⟨[Jk,(AV.d (D.v (.int .i64 Z3o))),Jk,(AV.ptr 0 0),Jk,(AV.ptr 1 0),Jk,(AV.d (D.v (.int .i64 Z7k))),Jk,Jk,Jk,Jk,Jk,Jk,Jk,Jk,Jk,Jk,Jk,Jk,Jk,Jk,Jk,Jk,Jk,Jk,Jk,Jk,Jk,Jk,Jk,Jk,Jk,Jk],[(Blk.d 1 [(D.list Z71 Z5e Zik)]),(Blk.d 17 Zzq)]⟩
  (contK Tg Z2r.sp ⟨0,[],false,[]⟩ (inlK Tg Z2r m 4) m Z1a (endK Tg Tryz.f54 endV) [.loop (bm 170 34) 2 (subc [1,0,1,0,0] (bodyOf Tryz.f54)) n0,.block 0,.code (subc [1,1] (bodyOf Tryz.f54))]))
theorem Zsl (m n0 : Nat) (Z3o : Int) (Z7k : Int) (Z71 : Nat) (Z5e : Option Nat) (Zik : List D) (Zzq : List D) : Zny m n0 Z3o Z7k Z71 Z5e Zik Zzq =
 (Ziv m n0 Z3o (IntKind.wrap .i64 (Z7k + (1 : Int))) Z71 Z5e Zik Zzq) := (Z30 m _).trans (by kernel_rfl)
theorem Z16f (m n0 : Nat) (Zi : Int) (Zt : Int) (Z10 : Nat) (Zq : Option Nat) (Zu : List D) (Z1m : List D) : Ziv m (n0 + 1) Zi Zt Z10 Zq Zu Z1m =
 (cond (decide (Zt < (Z10 : Int)))
 (if 0 ≤ Zt ∧ Zt < (Z10 : Int) then
 (rdI .i64 Zu[(((Int.toNat Zt) * 20) + 0)]?).bind fun x5 =>
 cond (x5 == Zi)
 (if 0 ≤ Zt ∧ Zt < (Z10 : Int) then
 if ((((Int.toNat Zt) * 20) + 1) + 17) ≤ (List.length Zu) then
 (cellsEq [.int,.int,.int,.int,.int,.int,.int,.int,.int,.int,.int,.int,.int,.int,.int,.int,.int] ((List.drop (((Int.toNat Zt) * 20) + 1) Zu).take 17) Z1m).bind fun b6 =>
 cond b6
 (some (D.v (.int .i64 Zt)))
 (Zny m n0 Zi Zt Z10 Zq Zu Z1m)
 else none
 else none)
 (Zny m n0 Zi Zt Z10 Zq Zu Z1m)
 else none)
 (some (D.v (.int .i64 (-1 : Int))))) := by kernel_rfl
noncomputable def Zpb (m : Nat) (a0_0n : Nat) (a0_0c : Option Nat) (a0_0 : List D) (a1 : Int) (a2 : List D) : Option D :=
 if (List.length a2) = 17 then
 Ziv m m a1 (0 : Int) a0_0n a0_0c a0_0 a2
 else none
theorem Z18f (m : Nat) (a0_0n : Nat) (a0_0c : Option Nat) (a0_0 : List D) (a1 : Int) (a2 : List D) : funD Tg Z2r m 4 Z1a Tryz.f54 [(D.agg [(D.list a0_0n a0_0c a0_0)]),(D.v (.int .i64 a1)),(D.agg a2)] = Zpb m a0_0n a0_0c a0_0 a1 a2 := by kernel_rfl
theorem Z1cv : Enters Tg 54 := ⟨Tryz.f54,Tryz.func54,by kernel_rfl,by kernel_rfl⟩
theorem Z1cw {ds : List D} {d : D} (h : funD Tg Z2r M 4 Z1a Tryz.f54 ds = some d) : DataSem Tg 54 ds d := Z0 (H := Z2r) SpOk.nil mixed InlOk.nil Tryz.func54 Z1cv h
noncomputable def Zeb : List D → Option D
 | [.agg [.list a0_0n a0_0c a0_0],.v (.int .i64 a1),.agg a2] => Zpb M a0_0n a0_0c a0_0 a1 a2
 | _ => none
theorem Z1cx : ∀ ds d,Zeb ds = some d → DataSem Tg 54 ds d := by
 intro ds d h
 unfold Zeb at h
 split at h
 ·exact Z1cw ((Z18f M _ _ _ _ _).trans h)
 ·cases h
def Z1p : FnH := ⟨[],[(3,⟨(bm 12 56),[],(some 2)⟩),(9,⟨(bm 8 56),[],(some 2)⟩)]⟩
noncomputable def Z3q : Hints := ⟨[(15,Z8k),(54,Zeb),(55,Ziu)],[],[]⟩
noncomputable def Z6k (m : Nat) (Z3o : Nat) (Z7k : Option Nat) (Z71 : List D) (Z5e : List D) : Option D :=
 cutK m (codeK Tg Z3q.sp ⟨0,[],false,[]⟩ (inlK Tg Z3q m 4) m Z1p (subc [1,1] (bodyOf Tryz.f26)) ⟨[Jk,Jk,(AV.ptr 0 0),(AV.ptr 1 0),Jk,Jk,Jk,Jk,Jk,Jk,Jk,Jk,Jk,Jk,Jk,Jk,Jk,Jk,Jk,Jk,Jk,Jk,Jk,Jk,Jk,Jk,Jk,Jk,Jk,Jk,Jk,Jk,Jk,Jk,Jk,Jk,Jk,Jk,Jk,Jk,Jk,Jk,Jk,Jk,Jk,Jk,Jk,Jk,Jk,Jk,Jk,Jk,Jk,Jk,Jk,Jk],[(Blk.d 1 [(D.list Z3o Z7k Z71)]),(Blk.d 20 Z5e)]⟩
  (contK Tg Z3q.sp ⟨0,[],false,[]⟩ (inlK Tg Z3q m 4) m Z1p (endK Tg Tryz.f26 endV) []))
noncomputable def Ziw (m : Nat) (Zxf : Nat) (Z12w : Option Nat) (Z14u : List D) (Z14v : List D) : Option D :=
 cutK m (codeK Tg Z3q.sp ⟨0,[],false,[]⟩ (inlK Tg Z3q m 4) m Z1p (subc [1,1,1,1,1] (bodyOf Tryz.f26)) ⟨[Jk,Jk,Jk,(AV.ptr 1 0),Jk,Jk,Jk,Jk,Jk,Jk,Jk,Jk,Jk,Jk,Jk,Jk,Jk,Jk,Jk,Jk,Jk,Jk,Jk,Jk,Jk,Jk,Jk,Jk,Jk,Jk,Jk,Jk,Jk,Jk,Jk,Jk,Jk,Jk,Jk,Jk,Jk,Jk,Jk,Jk,Jk,Jk,Jk,Jk,Jk,Jk,Jk,Jk,Jk,Jk,Jk,Jk],[(Blk.d 1 [(D.list Zxf Z12w Z14u)]),(Blk.d 20 Z14v)]⟩
  (contK Tg Z3q.sp ⟨0,[],false,[]⟩ (inlK Tg Z3q m 4) m Z1p (endK Tg Tryz.f26 endV) []))
theorem Z16g (m : Nat) (Zxf : Nat) (Z12w : Option Nat) (Z14u : List D) (Z14v : List D) : Ziw m Zxf Z12w Z14u Z14v =
 ((Ziu [(D.agg Z14v)]).bind fun d11 =>
 (rdI .i64 (some d11)).bind fun x12 =>
 some (D.v (.int .i64 x12))) := (Z30 m _).trans (by kernel_rfl)
theorem Z16h (m : Nat) (Z3o : Nat) (Z7k : Option Nat) (Z71 : List D) (Z5e : List D) : Z6k m Z3o Z7k Z71 Z5e =
 ((rdI .i64 Z5e[0]?).bind fun x4 =>
 (Zeb [(D.agg [(D.list Z3o Z7k Z71)]),(D.v (.int .i64 x4)),(D.agg ((List.drop 1 Z5e).take 17))]).bind fun d5 =>
 (rdI .i64 (some d5)).bind fun x6 =>
 cond (decide (x6 ≥ (0 : Int)))
 (some (D.v (.int .i64 (20 : Int))))
 (cond ((Z3o : Int) == (65536 : Int))
 (some (D.v (.int .i64 (3 : Int))))
 ((rdI .i64 Z5e[0]?).bind fun x7 =>
 cond (decide (x7 ≥ (0 : Int)))
 ((rdI .i64 Z5e[0]?).bind fun x8 =>
 (Z8k [(D.agg [(D.list Z3o Z7k Z71)]),(D.v (.int .i64 x8))]).bind fun d9 =>
 (rdI .i64 (some d9)).bind fun x10 =>
 cond (x10 == (64 : Int))
 (some (D.v (.int .i64 (12 : Int))))
 (Ziw m Z3o Z7k Z71 Z5e))
 (Ziw m Z3o Z7k Z71 Z5e)))) := (Z30 m _).trans (by kernel_rfl)
noncomputable def Zsm (m : Nat) (a0_0n : Nat) (a0_0c : Option Nat) (a0_0 : List D) (a1 : List D) : Option D :=
 if (List.length a1) = 20 then
 cond ((a0_0n : Int) == (0 : Int))
 ((rdI .i64 a1[0]?).bind fun x1 =>
 cond (x1 != (-1 : Int))
 (some (D.v (.int .i64 (19 : Int))))
 (cond (decide ((a0_0n : Int) > (0 : Int)))
 ((rdI .i64 a1[0]?).bind fun x2 =>
 cond (decide (x2 < (0 : Int)))
 (some (D.v (.int .i64 (19 : Int))))
 ((rdI .i64 a1[0]?).bind fun x3 =>
 cond (decide (x3 ≥ (a0_0n : Int)))
 (some (D.v (.int .i64 (19 : Int))))
 (Z6k m a0_0n a0_0c a0_0 a1)))
 (Z6k m a0_0n a0_0c a0_0 a1)))
 (cond (decide ((a0_0n : Int) > (0 : Int)))
 ((rdI .i64 a1[0]?).bind fun x13 =>
 cond (decide (x13 < (0 : Int)))
 (some (D.v (.int .i64 (19 : Int))))
 ((rdI .i64 a1[0]?).bind fun x14 =>
 cond (decide (x14 ≥ (a0_0n : Int)))
 (some (D.v (.int .i64 (19 : Int))))
 (Z6k m a0_0n a0_0c a0_0 a1)))
 (Z6k m a0_0n a0_0c a0_0 a1))
 else none
theorem Z1az (m : Nat) (a0_0n : Nat) (a0_0c : Option Nat) (a0_0 : List D) (a1 : List D) : funD Tg Z3q m 4 Z1p Tryz.f26 [(D.agg [(D.list a0_0n a0_0c a0_0)]),(D.agg a1)] = Zsm m a0_0n a0_0c a0_0 a1 := by kernel_rfl
theorem Z1fg : Enters Tg 26 := ⟨Tryz.f26,Tryz.func26,by kernel_rfl,by kernel_rfl⟩
theorem Z1fh {ds : List D} {d : D} (h : funD Tg Z3q M 4 Z1p Tryz.f26 ds = some d) : DataSem Tg 26 ds d := Z0 (H := Z3q) (SpOk.cons Z1cu (SpOk.cons Z1cx (SpOk.cons Z1ff SpOk.nil))) mixed InlOk.nil Tryz.func26 Z1fg h
noncomputable def Zix : List D → Option D
 | [.agg [.list a0_0n a0_0c a0_0],.agg a1] => Zsm M a0_0n a0_0c a0_0 a1
 | _ => none
theorem Z1fi : ∀ ds d,Zix ds = some d → DataSem Tg 26 ds d := by
 intro ds d h
 unfold Zix at h
 split at h
 ·exact Z1fh ((Z1az M _ _ _ _).trans h)
 ·cases h
def Z4 : FnH := ⟨[(4,⟨(bm 476 114),[(1003000,20)],(some 5)⟩),(18,⟨(bm 2256 114),[],(some 5)⟩)],[(10,⟨(bm 2012 114),[],(some 6)⟩),(13,⟨(bm 988 114),[],(some 6)⟩),(12,⟨(bm 988 114),[],(some 6)⟩),(17,⟨(bm 208 114),[],(some 5)⟩),(19,⟨(bm 2256 114),[],(some 5)⟩)]⟩
noncomputable def Z8 : Hints := ⟨[(56,Z2f)],[],[]⟩
noncomputable def Zpc (m n0 : Nat) (Zi : Int) (Zt : Int) (Z10 : Nat) (Zq : Option Nat) (Zu : List D) (Z1m : List D) (Z37 : Nat) (Z8j : Nat) (Z91 : List D) : Option D :=
 Z2a (bm 476 114) 0 5 (codeK Tg Z8.sp ⟨0,[],false,[]⟩ (inlK Tg Z8 m 4) m Z4 (subc [1,1,1,0,1,0,0] (bodyOf Tryz.f27))) n0 ⟨[Jk,Jk,(AV.ptr 0 0),(AV.ptr 1 0),(AV.ptr 2 0),Jk,(AV.ptr 3 0),(AV.d (D.v (.int .i64 Zi))),(AV.d (D.v (.int .i64 Zt))),Jk,Jk,Jk,Jk,Jk,Jk,Jk,Jk,Jk,Jk,Jk,Jk,Jk,Jk,Jk,Jk,Jk,Jk,Jk,Jk,Jk,Jk,Jk,Jk,Jk,Jk,Jk,Jk,Jk,Jk,Jk,Jk,Jk,Jk,Jk,Jk,Jk,Jk,Jk,Jk,Jk,Jk,Jk,Jk,Jk,Jk,Jk,Jk,Jk,Jk,Jk,Jk,Jk,Jk,Jk,Jk,Jk,Jk,Jk,Jk,Jk,Jk,Jk,Jk,Jk,Jk,Jk,Jk,Jk,Jk,Jk,Jk,Jk,Jk,Jk,Jk,Jk,Jk,Jk,Jk,Jk,Jk,Jk,Jk,Jk,Jk,Jk,Jk,Jk,Jk,Jk,Jk,Jk,Jk,Jk,Jk,Jk,Jk,Jk,Jk,Jk,Jk,Jk,Jk,Jk],[(Blk.d 1 [(D.list Z10 Zq Zu)]),(Blk.d 20 Z1m),(Blk.d 1 [(D.list 0 (some 0) [])]),(Blk.a 1 [(AV.sl 4 0 Z37 none 20)]),(Blk.d Z8j Z91)]⟩
  (contK Tg Z8.sp ⟨0,[],false,[]⟩ (inlK Tg Z8 m 4) m Z4 (endK Tg Tryz.f27 endV) [.block 0,.code (subc [1,1,1,1] (bodyOf Tryz.f27))])
noncomputable def Z4p (m n0 : Nat) (Z3o : Int) (Z7k : Int) (Z71 : Int) (Z5e : Nat) (Zik : Option Nat) (Zzq : List D) (Zxi : List D) (Z1co : Nat) (Z1dy : Nat) (Z1k5 : List D) (Z16i : List D) : Option D :=
 cutK m (codeK Tg Z8.sp ⟨0,[],false,[]⟩ (inlK Tg Z8 m 4) m Z4 (subc [1,1,1,0,1,0,0,1,0,0,1,1,1] (bodyOf Tryz.f27)) ⟨[Jk,Jk,(AV.ptr 0 0),(AV.ptr 1 0),(AV.ptr 2 0),Jk,(AV.ptr 3 0),(AV.d (D.v (.int .i64 Z3o))),(AV.d (D.v (.int .i64 Z7k))),(AV.ptr 5 0),(AV.d (D.v (.int .i64 Z71))),Jk,Jk,Jk,Jk,Jk,Jk,Jk,Jk,Jk,Jk,Jk,Jk,Jk,Jk,Jk,Jk,Jk,Jk,Jk,Jk,Jk,Jk,Jk,Jk,Jk,Jk,Jk,Jk,Jk,Jk,Jk,Jk,Jk,Jk,Jk,Jk,Jk,Jk,Jk,Jk,Jk,Jk,Jk,Jk,Jk,Jk,Jk,Jk,Jk,Jk,Jk,Jk,Jk,Jk,Jk,Jk,Jk,Jk,Jk,Jk,Jk,Jk,Jk,Jk,Jk,Jk,Jk,Jk,Jk,Jk,Jk,Jk,Jk,Jk,Jk,Jk,Jk,Jk,Jk,Jk,Jk,Jk,Jk,Jk,Jk,Jk,Jk,Jk,Jk,Jk,Jk,Jk,Jk,Jk,Jk,Jk,Jk,Jk,Jk,Jk,Jk,Jk,Jk],[(Blk.d 1 [(D.list Z5e Zik Zzq)]),(Blk.d 20 Zxi),(Blk.d 1 [(D.list 0 (some 0) [])]),(Blk.a 1 [(AV.sl 4 0 Z1co none 20)]),(Blk.d Z1dy Z1k5),(Blk.d 20 Z16i)]⟩
  (contK Tg Z8.sp ⟨0,[],false,[]⟩ (inlK Tg Z8 m 4) m Z4 (endK Tg Tryz.f27 endV) [.block 1,.code (subc [1,1,1,0,1,0,0,1,1] (bodyOf Tryz.f27)),.loop (bm 476 114) 5 (subc [1,1,1,0,1,0,0] (bodyOf Tryz.f27)) n0,.block 0,.code (subc [1,1,1,1] (bodyOf Tryz.f27))]))
noncomputable def Zzs (m n0 : Nat) (Zxf : Int) (Z12w : Int) (Z14u : Nat) (Z14v : Option Nat) (Z1c0 : List D) (Z13e : List D) (Z1g5 : Nat) (Z1im : Nat) (Z1in : List D) (Z1hx : List D) : Option D :=
 cutK m (codeK Tg Z8.sp ⟨0,[],false,[]⟩ (inlK Tg Z8 m 4) m Z4 (subc [1,1,1,0,1,0,0,1,0,0,1,1,1,0,1,0,1] (bodyOf Tryz.f27)) ⟨[Jk,Jk,(AV.ptr 0 0),(AV.ptr 1 0),(AV.ptr 2 0),Jk,(AV.ptr 3 0),(AV.d (D.v (.int .i64 Zxf))),(AV.d (D.v (.int .i64 Z12w))),(AV.ptr 5 0),Jk,Jk,Jk,Jk,Jk,Jk,Jk,Jk,Jk,Jk,Jk,Jk,Jk,Jk,Jk,Jk,Jk,Jk,Jk,Jk,Jk,Jk,Jk,Jk,Jk,Jk,Jk,Jk,Jk,Jk,Jk,Jk,Jk,Jk,Jk,Jk,Jk,Jk,Jk,Jk,Jk,Jk,Jk,Jk,Jk,Jk,Jk,Jk,Jk,Jk,Jk,Jk,Jk,Jk,Jk,Jk,Jk,Jk,Jk,Jk,Jk,Jk,Jk,Jk,Jk,Jk,Jk,Jk,Jk,Jk,Jk,Jk,Jk,Jk,Jk,Jk,Jk,Jk,Jk,Jk,Jk,Jk,Jk,Jk,Jk,Jk,Jk,Jk,Jk,Jk,Jk,Jk,Jk,Jk,Jk,Jk,Jk,Jk,Jk,Jk,Jk,Jk,Jk,Jk],[(Blk.d 1 [(D.list Z14u Z14v Z1c0)]),(Blk.d 20 Z13e),(Blk.d 1 [(D.list 0 (some 0) [])]),(Blk.a 1 [(AV.sl 4 0 Z1g5 none 20)]),(Blk.d Z1im Z1in),(Blk.d 20 Z1hx)]⟩
  (contK Tg Z8.sp ⟨0,[],false,[]⟩ (inlK Tg Z8 m 4) m Z4 (endK Tg Tryz.f27 endV) [.code (subc [1,1,1,0,1,0,0,1,0,0,1,1,1,1] (bodyOf Tryz.f27)),.block 1,.code (subc [1,1,1,0,1,0,0,1,1] (bodyOf Tryz.f27)),.loop (bm 476 114) 5 (subc [1,1,1,0,1,0,0] (bodyOf Tryz.f27)) n0,.block 0,.code (subc [1,1,1,1] (bodyOf Tryz.f27))]))
noncomputable def Zbk (m n0 : Nat) (Z17e : Int) (Z1c1 : Int) (Z19f : Nat) (Z1av : Option Nat) (Z1dz : List D) (Z1cp : List D) (Z1fc : Nat) (Z1hy : Nat) (Z1io : List D) (Z1l1 : List D) : Option D :=
 cutK m (codeK Tg Z8.sp ⟨0,[],false,[]⟩ (inlK Tg Z8 m 4) m Z4 (subc [1,1,1,0,1,0,0,1,0,0,1,1,1,1] (bodyOf Tryz.f27)) ⟨[Jk,Jk,(AV.ptr 0 0),(AV.ptr 1 0),(AV.ptr 2 0),Jk,(AV.ptr 3 0),(AV.d (D.v (.int .i64 Z17e))),(AV.d (D.v (.int .i64 Z1c1))),(AV.ptr 5 0),Jk,Jk,Jk,Jk,Jk,Jk,Jk,Jk,Jk,Jk,Jk,Jk,Jk,Jk,Jk,Jk,Jk,Jk,Jk,Jk,Jk,Jk,Jk,Jk,Jk,Jk,Jk,Jk,Jk,Jk,Jk,Jk,Jk,Jk,Jk,Jk,Jk,Jk,Jk,Jk,Jk,Jk,Jk,Jk,Jk,Jk,Jk,Jk,Jk,Jk,Jk,Jk,Jk,Jk,Jk,Jk,Jk,Jk,Jk,Jk,Jk,Jk,Jk,Jk,Jk,Jk,Jk,Jk,Jk,Jk,Jk,Jk,Jk,Jk,Jk,Jk,Jk,Jk,Jk,Jk,Jk,Jk,Jk,Jk,Jk,Jk,Jk,Jk,Jk,Jk,Jk,Jk,Jk,Jk,Jk,Jk,Jk,Jk,Jk,Jk,Jk,Jk,Jk,Jk],[(Blk.d 1 [(D.list Z19f Z1av Z1dz)]),(Blk.d 20 Z1cp),(Blk.d 1 [(D.list 0 (some 0) [])]),(Blk.a 1 [(AV.sl 4 0 Z1fc none 20)]),(Blk.d Z1hy Z1io),(Blk.d 20 Z1l1)]⟩
  (contK Tg Z8.sp ⟨0,[],false,[]⟩ (inlK Tg Z8 m 4) m Z4 (endK Tg Tryz.f27 endV) [.block 1,.code (subc [1,1,1,0,1,0,0,1,1] (bodyOf Tryz.f27)),.loop (bm 476 114) 5 (subc [1,1,1,0,1,0,0] (bodyOf Tryz.f27)) n0,.block 0,.code (subc [1,1,1,1] (bodyOf Tryz.f27))]))
theorem Z16j (m n0 : Nat) (Z17e : Int) (Z1c1 : Int) (Z19f : Nat) (Z1av : Option Nat) (Z1dz : List D) (Z1cp : List D) (Z1fc : Nat) (Z1hy : Nat) (Z1io : List D) (Z1l1 : List D) : Zbk m n0 Z17e Z1c1 Z19f Z1av Z1dz Z1cp Z1fc Z1hy Z1io Z1l1 =
 (if (List.length Z1l1) = 20 then
 if ownB ⟨0,[],false,[]⟩ 4 = true ∧ Z1hy = (Z1fc * 20) ∧ Z6a (Z1fc + 1) 128 ∧ (List.length Z1l1) = 20 then
 Zpc m n0 Z17e (IntKind.wrap .i64 (Z1c1 + (1 : Int))) Z19f Z1av Z1dz Z1cp (Z1fc + 1) ((Z1fc + 1) * 20) (Z1io ++ Z1l1)
 else none
 else none) := (Z30 m _).trans (by kernel_rfl)
theorem Z16k (m n0 : Nat) (Zxf : Int) (Z12w : Int) (Z14u : Nat) (Z14v : Option Nat) (Z1c0 : List D) (Z13e : List D) (Z1g5 : Nat) (Z1im : Nat) (Z1in : List D) (Z1hx : List D) : Zzs m n0 Zxf Z12w Z14u Z14v Z1c0 Z13e Z1g5 Z1im Z1in Z1hx =
 (if (List.length Z13e) = 20 then
 if ownB ⟨0,[],false,[]⟩ 4 = true ∧ Z1im = (Z1g5 * 20) ∧ Z6a (Z1g5 + 1) 128 ∧ (List.length Z13e) = 20 then
 Zbk m n0 Zxf Z12w Z14u Z14v Z1c0 Z13e (Z1g5 + 1) ((Z1g5 + 1) * 20) (Z1in ++ Z13e) Z1hx
 else none
 else none) := (Z30 m _).trans (by kernel_rfl)
theorem Z16l (m n0 : Nat) (Z3o : Int) (Z7k : Int) (Z71 : Int) (Z5e : Nat) (Zik : Option Nat) (Zzq : List D) (Zxi : List D) (Z1co : Nat) (Z1dy : Nat) (Z1k5 : List D) (Z16i : List D) : Z4p m n0 Z3o Z7k Z71 Z5e Zik Zzq Zxi Z1co Z1dy Z1k5 Z16i =
 (cond (decide (Z3o < (0 : Int)))
 (cond (Z71 == (1 : Int))
 (Zzs m n0 (Z1co : Int) Z7k Z5e Zik Zzq Zxi Z1co Z1dy Z1k5 Z16i)
 (Zbk m n0 Z3o Z7k Z5e Zik Zzq Zxi Z1co Z1dy Z1k5 Z16i))
 (Zbk m n0 Z3o Z7k Z5e Zik Zzq Zxi Z1co Z1dy Z1k5 Z16i)) := (Z30 m _).trans (by kernel_rfl)
noncomputable def Zqr (m : Nat) (Z1l2 : Int) (Z1m7 : Nat) (Z1n1 : Option Nat) (Z1m8 : List D) (Z1m9 : List D) (Z1ma : Nat) (Z1mb : Nat) (Z1lu : List D) : Option D :=
 cutK m (codeK Tg Z8.sp ⟨0,[],false,[]⟩ (inlK Tg Z8 m 4) m Z4 (subc [1,1,1,1,1] (bodyOf Tryz.f27)) ⟨[Jk,Jk,Jk,Jk,(AV.ptr 2 0),Jk,(AV.ptr 3 0),(AV.d (D.v (.int .i64 Z1l2))),Jk,Jk,Jk,Jk,Jk,Jk,Jk,Jk,Jk,Jk,Jk,Jk,Jk,Jk,Jk,Jk,Jk,Jk,Jk,Jk,Jk,Jk,Jk,Jk,Jk,Jk,Jk,Jk,Jk,Jk,Jk,Jk,Jk,Jk,Jk,Jk,Jk,Jk,Jk,Jk,Jk,Jk,Jk,Jk,Jk,Jk,Jk,Jk,Jk,Jk,Jk,Jk,Jk,Jk,Jk,Jk,Jk,Jk,Jk,Jk,Jk,Jk,Jk,Jk,Jk,Jk,Jk,Jk,Jk,Jk,Jk,Jk,Jk,Jk,Jk,Jk,Jk,Jk,Jk,Jk,Jk,Jk,Jk,Jk,Jk,Jk,Jk,Jk,Jk,Jk,Jk,Jk,Jk,Jk,Jk,Jk,Jk,Jk,Jk,Jk,Jk,Jk,Jk,Jk,Jk,Jk],[(Blk.d 1 [(D.list Z1m7 Z1n1 Z1m8)]),(Blk.d 20 Z1m9),(Blk.d 1 [(D.list 0 (some 0) [])]),(Blk.a 1 [(AV.sl 4 0 Z1ma none 20)]),(Blk.d Z1mb Z1lu)]⟩
  (contK Tg Z8.sp ⟨0,[],false,[]⟩ (inlK Tg Z8 m 4) m Z4 (endK Tg Tryz.f27 endV) []))
noncomputable def Zls (m n0 : Nat) (Z1mc : Int) (Z1g6 : Int) (Z1nw : Nat) (Z1nx : Option Nat) (Z1ny : List D) (Z1nz : List D) (Z1k6 : Nat) (Z1md : Nat) (Z1me : List D) : Option D :=
 Z2a (bm 2256 114) 0 5 (codeK Tg Z8.sp ⟨0,[],false,[]⟩ (inlK Tg Z8 m 4) m Z4 (subc [1,1,1,1,1,0,1,0,0] (bodyOf Tryz.f27))) n0 ⟨[Jk,Jk,Jk,Jk,(AV.ptr 2 0),Jk,(AV.ptr 3 0),(AV.d (D.v (.int .i64 Z1mc))),Jk,Jk,Jk,(AV.d (D.v (.int .i64 Z1g6))),Jk,Jk,Jk,Jk,Jk,Jk,Jk,Jk,Jk,Jk,Jk,Jk,Jk,Jk,Jk,Jk,Jk,Jk,Jk,Jk,Jk,Jk,Jk,Jk,Jk,Jk,Jk,Jk,Jk,Jk,Jk,Jk,Jk,Jk,Jk,Jk,Jk,Jk,Jk,Jk,Jk,Jk,Jk,Jk,Jk,Jk,Jk,Jk,Jk,Jk,Jk,Jk,Jk,Jk,Jk,Jk,Jk,Jk,Jk,Jk,Jk,Jk,Jk,Jk,Jk,Jk,Jk,Jk,Jk,Jk,Jk,Jk,Jk,Jk,Jk,Jk,Jk,Jk,Jk,Jk,Jk,Jk,Jk,Jk,Jk,Jk,Jk,Jk,Jk,Jk,Jk,Jk,Jk,Jk,Jk,Jk,Jk,Jk,Jk,Jk,Jk,Jk],[(Blk.d 1 [(D.list Z1nw Z1nx Z1ny)]),(Blk.d 20 Z1nz),(Blk.d 1 [(D.list 0 (some 0) [])]),(Blk.a 1 [(AV.sl 4 0 Z1k6 none 20)]),(Blk.d Z1md Z1me)]⟩
  (contK Tg Z8.sp ⟨0,[],false,[]⟩ (inlK Tg Z8 m 4) m Z4 (endK Tg Tryz.f27 endV) [.block 2,.code (subc [1,1,1,1,1,1] (bodyOf Tryz.f27))])
noncomputable def Ziy (m n0 : Nat) (Z1o0 : Int) (Z1o1 : Int) (Z1o2 : Nat) (Z1o3 : Option Nat) (Z1o4 : List D) (Z1o5 : List D) (Z1o6 : Nat) (Z1o7 : Nat) (Z1o8 : List D) : Option D :=
 cutK m (codeK Tg Z8.sp ⟨0,[],false,[]⟩ (inlK Tg Z8 m 4) m Z4 (subc [1,1,1,1,1,0,1,0,0,1,1] (bodyOf Tryz.f27)) ⟨[Jk,Jk,Jk,Jk,(AV.ptr 2 0),Jk,(AV.ptr 3 0),(AV.d (D.v (.int .i64 Z1o0))),Jk,Jk,Jk,(AV.d (D.v (.int .i64 Z1o1))),Jk,Jk,Jk,Jk,Jk,Jk,Jk,Jk,Jk,Jk,Jk,Jk,Jk,Jk,Jk,Jk,Jk,Jk,Jk,Jk,Jk,Jk,Jk,Jk,Jk,Jk,Jk,Jk,Jk,Jk,Jk,Jk,Jk,Jk,Jk,Jk,Jk,Jk,Jk,Jk,Jk,Jk,Jk,Jk,Jk,Jk,Jk,Jk,Jk,Jk,Jk,Jk,Jk,Jk,Jk,Jk,Jk,Jk,Jk,Jk,Jk,Jk,Jk,Jk,Jk,Jk,Jk,Jk,Jk,Jk,Jk,Jk,Jk,Jk,Jk,Jk,Jk,Jk,Jk,Jk,Jk,Jk,Jk,Jk,Jk,Jk,Jk,Jk,Jk,Jk,Jk,Jk,Jk,Jk,Jk,Jk,Jk,Jk,Jk,Jk,Jk,Jk],[(Blk.d 1 [(D.list Z1o2 Z1o3 Z1o4)]),(Blk.d 20 Z1o5),(Blk.d 1 [(D.list 0 (some 0) [])]),(Blk.a 1 [(AV.sl 4 0 Z1o6 none 20)]),(Blk.d Z1o7 Z1o8)]⟩
  (contK Tg Z8.sp ⟨0,[],false,[]⟩ (inlK Tg Z8 m 4) m Z4 (endK Tg Tryz.f27 endV) [.loop (bm 2256 114) 5 (subc [1,1,1,1,1,0,1,0,0] (bodyOf Tryz.f27)) n0,.block 2,.code (subc [1,1,1,1,1,1] (bodyOf Tryz.f27))]))
theorem Zl4 (m n0 : Nat) (Z1o0 : Int) (Z1o1 : Int) (Z1o2 : Nat) (Z1o3 : Option Nat) (Z1o4 : List D) (Z1o5 : List D) (Z1o6 : Nat) (Z1o7 : Nat) (Z1o8 : List D) : Ziy m n0 Z1o0 Z1o1 Z1o2 Z1o3 Z1o4 Z1o5 Z1o6 Z1o7 Z1o8 =
 (Zls m n0 Z1o0 (IntKind.wrap .i64 (Z1o1 + (1 : Int))) Z1o2 Z1o3 Z1o4 Z1o5 Z1o6 Z1o7 Z1o8) := (Z30 m _).trans (by kernel_rfl)
theorem Z18g (m n0 : Nat) (Z1mc : Int) (Z1g6 : Int) (Z1nw : Nat) (Z1nx : Option Nat) (Z1ny : List D) (Z1nz : List D) (Z1k6 : Nat) (Z1md : Nat) (Z1me : List D) : Zls m (n0 + 1) Z1mc Z1g6 Z1nw Z1nx Z1ny Z1nz Z1k6 Z1md Z1me =
 (cond (decide (Z1g6 < (Z1k6 : Int)))
 (cond (Z1g6 != Z1mc)
 (if 0 ≤ Z1g6 ∧ Z1g6 < (Z1k6 : Int) then
 (rdI .i64 Z1me[((0 + ((Int.toNat Z1g6) * 20)) + 0)]?).bind fun x23 =>
 cond (decide (x23 ≥ Z1mc))
 (if 0 ≤ Z1g6 ∧ Z1g6 < (Z1k6 : Int) then
 (rdI .i64 Z1me[((0 + ((Int.toNat Z1g6) * 20)) + 0)]?).bind fun x24 =>
 if 0 ≤ Z1g6 ∧ Z1g6 < (Z1k6 : Int) then
 if 1 = 1 ∧ ((0 + ((Int.toNat Z1g6) * 20)) + 0) < Z1md then
 Ziy m n0 Z1mc Z1g6 Z1nw Z1nx Z1ny Z1nz Z1k6 Z1md (List.set Z1me ((0 + ((Int.toNat Z1g6) * 20)) + 0) (D.v (.int .i64 (IntKind.wrap .i64 (x24 + (1 : Int))))))
 else none
 else none
 else none)
 (Ziy m n0 Z1mc Z1g6 Z1nw Z1nx Z1ny Z1nz Z1k6 Z1md Z1me)
 else none)
 (Ziy m n0 Z1mc Z1g6 Z1nw Z1nx Z1ny Z1nz Z1k6 Z1md Z1me))
 (if (0 + (Z1k6 * 20)) ≤ Z1md then
 some (D.tup [(D.agg [(D.list Z1k6 none (cutL Z1md Z1me 0 (Z1k6 * 20)))]),(D.v (.int .i64 Z1mc))])
 else none)) := by kernel_rfl
theorem Zur (m : Nat) (Z1l2 : Int) (Z1m7 : Nat) (Z1n1 : Option Nat) (Z1m8 : List D) (Z1m9 : List D) (Z1ma : Nat) (Z1mb : Nat) (Z1lu : List D) : Zqr m Z1l2 Z1m7 Z1n1 Z1m8 Z1m9 Z1ma Z1mb Z1lu =
 (Zls m m Z1l2 (0 : Int) Z1m7 Z1n1 Z1m8 Z1m9 Z1ma Z1mb Z1lu) := (Z30 m _).trans (by kernel_rfl)
theorem Z1b0 (m n0 : Nat) (Zi : Int) (Zt : Int) (Z10 : Nat) (Zq : Option Nat) (Zu : List D) (Z1m : List D) (Z37 : Nat) (Z8j : Nat) (Z91 : List D) : Zpc m (n0 + 1) Zi Zt Z10 Zq Zu Z1m Z37 Z8j Z91 =
 (cond (decide (Zt < (Z10 : Int)))
 (if 0 ≤ Zt ∧ Zt < (Z10 : Int) then
 if (((Int.toNat Zt) * 20) + 20) ≤ (List.length Zu) then
 if (List.length ((List.drop ((Int.toNat Zt) * 20) Zu).take 20)) = 20 then
 cond (decide (Zt > (0 : Int)))
 ((rdI .i64 ((List.drop ((Int.toNat Zt) * 20) Zu).take 20)[0]?).bind fun x13 =>
 (rdI .i64 Z1m[0]?).bind fun x14 =>
 cond (decide (x13 > x14))
 (Z4p m n0 Zi Zt (1 : Int) Z10 Zq Zu Z1m Z37 Z8j Z91 ((List.drop ((Int.toNat Zt) * 20) Zu).take 20))
 ((rdI .i64 ((List.drop ((Int.toNat Zt) * 20) Zu).take 20)[0]?).bind fun x15 =>
 (rdI .i64 Z1m[0]?).bind fun x16 =>
 cond (x15 == x16)
 ((Z2f [(D.agg ((List.drop 1 ((List.drop ((Int.toNat Zt) * 20) Zu).take 20)).take 17)),(D.agg ((List.drop 1 Z1m).take 17))]).bind fun d17 =>
 (rdI .i64 (some d17)).bind fun x18 =>
 cond (decide (x18 > (0 : Int)))
 (Z4p m n0 Zi Zt (1 : Int) Z10 Zq Zu Z1m Z37 Z8j Z91 ((List.drop ((Int.toNat Zt) * 20) Zu).take 20))
 (Z4p m n0 Zi Zt (0 : Int) Z10 Zq Zu Z1m Z37 Z8j Z91 ((List.drop ((Int.toNat Zt) * 20) Zu).take 20)))
 (Z4p m n0 Zi Zt (0 : Int) Z10 Zq Zu Z1m Z37 Z8j Z91 ((List.drop ((Int.toNat Zt) * 20) Zu).take 20))))
 (Z4p m n0 Zi Zt (0 : Int) Z10 Zq Zu Z1m Z37 Z8j Z91 ((List.drop ((Int.toNat Zt) * 20) Zu).take 20))
 else none
 else none
 else none)
 (cond (decide (Zi < (0 : Int)))
 (if (List.length Z1m) = 20 then
 if ownB ⟨0,[],false,[]⟩ 4 = true ∧ Z8j = (Z37 * 20) ∧ Z6a (Z37 + 1) 128 ∧ (List.length Z1m) = 20 then
 Zqr m (Z37 : Int) Z10 Zq Zu Z1m (Z37 + 1) ((Z37 + 1) * 20) (Z91 ++ Z1m)
 else none
 else none)
 (Zqr m Zi Z10 Zq Zu Z1m Z37 Z8j Z91))) := by kernel_rfl
noncomputable def Zwe (m : Nat) (a0_0n : Nat) (a0_0c : Option Nat) (a0_0 : List D) (a1 : List D) : Option D :=
 if (List.length a1) = 20 then
 Zpc m m (-1 : Int) (0 : Int) a0_0n a0_0c a0_0 a1 0 0 []
 else none
theorem Z1cy (m : Nat) (a0_0n : Nat) (a0_0c : Option Nat) (a0_0 : List D) (a1 : List D) : funD Tg Z8 m 4 Z4 Tryz.f27 [(D.agg [(D.list a0_0n a0_0c a0_0)]),(D.agg a1)] = Zwe m a0_0n a0_0c a0_0 a1 := by kernel_rfl
theorem Z1hg : Enters Tg 27 := ⟨Tryz.f27,Tryz.func27,by kernel_rfl,by kernel_rfl⟩
theorem Z1hh {ds : List D} {d : D} (h : funD Tg Z8 M 4 Z4 Tryz.f27 ds = some d) : DataSem Tg 27 ds d := Z0 (H := Z8) (SpOk.cons Znw SpOk.nil) mixed InlOk.nil Tryz.func27 Z1hg h
noncomputable def Zn3 : List D → Option D
 | [.agg [.list a0_0n a0_0c a0_0],.agg a1] => Zwe M a0_0n a0_0c a0_0 a1
 | _ => none
theorem Z1hi : ∀ ds d,Zn3 ds = some d → DataSem Tg 27 ds d := by
 intro ds d h
 unfold Zn3 at h
 split at h
 ·exact Z1hh ((Z1cy M _ _ _ _).trans h)
 ·cases h
def Zc : FnH := ⟨[(3,⟨(bm 30 64),[],(some 3)⟩)],[(5,⟨(bm 30 64),[],(some 3)⟩),(8,⟨(bm 62 64),[],(some 4)⟩),(4,⟨(bm 30 64),[],(some 3)⟩)]⟩
noncomputable def Zz : Hints := ⟨[(12,Z18),(26,Zix),(27,Zn3),(45,Zn2),(46,Zea)],[],[]⟩
noncomputable def Zlt (m n0 : Nat) (Zi : Int) (Zt : Nat) (Z10 : Option Nat) (Zq : List D) (Zu : List D) : Option D :=
 Z2a (bm 30 64) 0 3 (codeK Tg Zz.sp ⟨0,[],false,[]⟩ (inlK Tg Zz m 4) m Zc (subc [1,1,0,1,0,0] (bodyOf Tryz.f11))) n0 ⟨[Jk,(AV.ptr 0 0),(AV.ptr 1 0),(AV.ptr 2 0),(AV.d (D.v (.int .i64 Zi))),Jk,Jk,Jk,Jk,Jk,Jk,Jk,Jk,Jk,Jk,Jk,Jk,Jk,Jk,Jk,Jk,Jk,Jk,Jk,Jk,Jk,Jk,Jk,Jk,Jk,Jk,Jk,Jk,Jk,Jk,Jk,Jk,Jk,Jk,Jk,Jk,Jk,Jk,Jk,Jk,Jk,Jk,Jk,Jk,Jk,Jk,Jk,Jk,Jk,Jk,Jk,Jk,Jk,Jk,Jk,Jk,Jk,Jk,Jk],[(Blk.d 1 [(D.list Zt Z10 Zq)]),(Blk.d 1 [(D.list 0 (some 0) [])]),(Blk.d 1 Zu)]⟩
  (contK Tg Zz.sp ⟨0,[],false,[]⟩ (inlK Tg Zz m 4) m Zc (endK Tg Tryz.f11 endV) [.block 0,.code (subc [1,1,1] (bodyOf Tryz.f11))])
noncomputable def Zzt (m n0 : Nat) (Z3o : Int) (Z7k : Nat) (Z71 : Option Nat) (Z5e : List D) (Zik : List D) : Option D :=
 cutK m (codeK Tg Zz.sp ⟨0,[],false,[]⟩ (inlK Tg Zz m 4) m Zc (subc [1,1,0,1,0,0,1] (bodyOf Tryz.f11)) ⟨[Jk,(AV.ptr 0 0),(AV.ptr 1 0),(AV.ptr 2 0),(AV.d (D.v (.int .i64 Z3o))),Jk,Jk,Jk,Jk,Jk,Jk,Jk,Jk,Jk,Jk,Jk,Jk,Jk,Jk,Jk,Jk,Jk,Jk,Jk,Jk,Jk,Jk,Jk,Jk,Jk,Jk,Jk,Jk,Jk,Jk,Jk,Jk,Jk,Jk,Jk,Jk,Jk,Jk,Jk,Jk,Jk,Jk,Jk,Jk,Jk,Jk,Jk,Jk,Jk,Jk,Jk,Jk,Jk,Jk,Jk,Jk,Jk,Jk,Jk],[(Blk.d 1 [(D.list Z7k Z71 Z5e)]),(Blk.d 1 [(D.list 0 (some 0) [])]),(Blk.d 1 Zik)]⟩
  (contK Tg Zz.sp ⟨0,[],false,[]⟩ (inlK Tg Zz m 4) m Zc (endK Tg Tryz.f11 endV) [.loop (bm 30 64) 3 (subc [1,1,0,1,0,0] (bodyOf Tryz.f11)) n0,.block 0,.code (subc [1,1,1] (bodyOf Tryz.f11))]))
noncomputable def Ziz (m n0 : Nat) (Zxf : Int) (Z12w : Nat) (Z14u : Option Nat) (Z14v : List D) (Z1c0 : List D) (Z13e : List D) : Option D :=
 cutK m (codeK Tg Zz.sp ⟨0,[],false,[]⟩ (inlK Tg Zz m 4) m Zc (subc [1,1,0,1,0,0,1,0,0,1,1] (bodyOf Tryz.f11)) ⟨[Jk,(AV.ptr 0 0),(AV.ptr 1 0),(AV.ptr 2 0),(AV.d (D.v (.int .i64 Zxf))),(AV.ptr 3 0),Jk,Jk,Jk,Jk,Jk,Jk,Jk,Jk,Jk,Jk,Jk,Jk,Jk,Jk,Jk,Jk,Jk,Jk,Jk,Jk,Jk,Jk,Jk,Jk,Jk,Jk,Jk,Jk,Jk,Jk,Jk,Jk,Jk,Jk,Jk,Jk,Jk,Jk,Jk,Jk,Jk,Jk,Jk,Jk,Jk,Jk,Jk,Jk,Jk,Jk,Jk,Jk,Jk,Jk,Jk,Jk,Jk,Jk],[(Blk.d 1 [(D.list Z12w Z14u Z14v)]),(Blk.d 1 [(D.list 0 (some 0) [])]),(Blk.d 1 Z1c0),(Blk.d 20 Z13e)]⟩
  (contK Tg Zz.sp ⟨0,[],false,[]⟩ (inlK Tg Zz m 4) m Zc (endK Tg Tryz.f11 endV) [.block 1,.code (subc [1,1,0,1,0,0,1,1] (bodyOf Tryz.f11)),.loop (bm 30 64) 3 (subc [1,1,0,1,0,0] (bodyOf Tryz.f11)) n0,.block 0,.code (subc [1,1,1] (bodyOf Tryz.f11))]))
noncomputable def Zqs (m n0 : Nat) (Z17e : Int) (Z1c1 : Nat) (Z19f : Option Nat) (Z1av : List D) (Z1dz : List D) : Option D :=
 cutK m (codeK Tg Zz.sp ⟨0,[],false,[]⟩ (inlK Tg Zz m 4) m Zc (subc [1,1,0,1,0,0,1,1] (bodyOf Tryz.f11)) ⟨[Jk,(AV.ptr 0 0),(AV.ptr 1 0),(AV.ptr 2 0),(AV.d (D.v (.int .i64 Z17e))),Jk,Jk,Jk,Jk,Jk,Jk,Jk,Jk,Jk,Jk,Jk,Jk,Jk,Jk,Jk,Jk,Jk,Jk,Jk,Jk,Jk,Jk,Jk,Jk,Jk,Jk,Jk,Jk,Jk,Jk,Jk,Jk,Jk,Jk,Jk,Jk,Jk,Jk,Jk,Jk,Jk,Jk,Jk,Jk,Jk,Jk,Jk,Jk,Jk,Jk,Jk,Jk,Jk,Jk,Jk,Jk,Jk,Jk,Jk],[(Blk.d 1 [(D.list Z1c1 Z19f Z1av)]),(Blk.d 1 [(D.list 0 (some 0) [])]),(Blk.d 1 Z1dz)]⟩
  (contK Tg Zz.sp ⟨0,[],false,[]⟩ (inlK Tg Zz m 4) m Zc (endK Tg Tryz.f11 endV) [.loop (bm 30 64) 3 (subc [1,1,0,1,0,0] (bodyOf Tryz.f11)) n0,.block 0,.code (subc [1,1,1] (bodyOf Tryz.f11))]))
theorem Zus (m n0 : Nat) (Z17e : Int) (Z1c1 : Nat) (Z19f : Option Nat) (Z1av : List D) (Z1dz : List D) : Zqs m n0 Z17e Z1c1 Z19f Z1av Z1dz =
 (Zlt m n0 (IntKind.wrap .i64 (Z17e + (1 : Int))) Z1c1 Z19f Z1av Z1dz) := (Z30 m _).trans (by kernel_rfl)
theorem Z16m (m n0 : Nat) (Zxf : Int) (Z12w : Nat) (Z14u : Option Nat) (Z14v : List D) (Z1c0 : List D) (Z13e : List D) : Ziz m n0 Zxf Z12w Z14u Z14v Z1c0 Z13e =
 ((Zix [(D.agg Z1c0),(D.agg Z13e)]).bind fun d50 =>
 (rdI .i64 (some d50)).bind fun x51 =>
 cond (x51 == (0 : Int))
 ((Zn3 [(D.agg Z1c0),(D.agg Z13e)]).bind fun d52 =>
 (rdT d52).bind fun r53 =>
 if List.length r53 = 2 then
 (rdA r53[0]?).bind fun c54 =>
 (rdI .i64 r53[1]?).bind fun x55 =>
 if (List.length c54) = 1 then
 Zqs m n0 Zxf Z12w Z14u Z14v c54
 else none
 else none)
 (Zqs m n0 Zxf Z12w Z14u Z14v Z1c0)) := (Z30 m _).trans (by kernel_rfl)
theorem Z16n (m n0 : Nat) (Z3o : Int) (Z7k : Nat) (Z71 : Option Nat) (Z5e : List D) (Zik : List D) : Zzt m n0 Z3o Z7k Z71 Z5e Zik =
 (if 0 ≤ Z3o ∧ Z3o < (Z7k : Int) then
 (rdI .u8 Z5e[(((Int.toNat Z3o) * 4) + 1)]?).bind fun x39 =>
 (Z18 [(D.v (.int .u8 x39))]).bind fun d40 =>
 (rdA (some d40)).bind fun c41 =>
 if 0 ≤ Z3o ∧ Z3o < (Z7k : Int) then
 (rdI .u8 Z5e[(((Int.toNat Z3o) * 4) + 2)]?).bind fun x42 =>
 (Zn2 [(D.v (.int .u8 x42))]).bind fun d43 =>
 (rdL (some d43)).bind fun q44 =>
 if 0 ≤ Z3o ∧ Z3o < (Z7k : Int) then
 (rdI .u8 Z5e[(((Int.toNat Z3o) * 4) + 3)]?).bind fun x45 =>
 (Zea [(D.v (.int .u8 x45))]).bind fun d46 =>
 (rdL (some d46)).bind fun q47 =>
 if (List.length c41) = 17 then
 if (List.length (List.set (List.set (putL 20 [(D.v (.int .i64 (-1 : Int))),(D.v (.int .u8 (0 : Int))),zU,zU,zU,zU,zU,zU,zU,zU,zU,zU,zU,zU,zU,zU,zU,zU,(D.list 0 (some 0) []),(D.list 0 (some 0) [])] 1 17 c41) 18 (D.list q44.n q44.cap q44.cs)) 19 (D.list q47.n q47.cap q47.cs))) = 20 then
 cond (decide (Z3o > (0 : Int)))
 (if 0 ≤ Z3o ∧ Z3o < (Z7k : Int) then
 (rdI .u8 Z5e[(((Int.toNat Z3o) * 4) + 0)]?).bind fun x48 =>
 (rdL Zik[0]?).bind fun q49 =>
 if (q49.n : Int) = 0 then none else
 Ziz m n0 Z3o Z7k Z71 Z5e Zik (List.set (List.set (List.set (putL 20 [(D.v (.int .i64 (-1 : Int))),(D.v (.int .u8 (0 : Int))),zU,zU,zU,zU,zU,zU,zU,zU,zU,zU,zU,zU,zU,zU,zU,zU,(D.list 0 (some 0) []),(D.list 0 (some 0) [])] 1 17 c41) 18 (D.list q44.n q44.cap q44.cs)) 19 (D.list q47.n q47.cap q47.cs)) 0 (D.v (.int .i64 (Int.tmod (IntKind.wrap .i64 x48) (q49.n : Int)))))
 else none)
 (Ziz m n0 Z3o Z7k Z71 Z5e Zik (List.set (List.set (putL 20 [(D.v (.int .i64 (-1 : Int))),(D.v (.int .u8 (0 : Int))),zU,zU,zU,zU,zU,zU,zU,zU,zU,zU,zU,zU,zU,zU,zU,zU,(D.list 0 (some 0) []),(D.list 0 (some 0) [])] 1 17 c41) 18 (D.list q44.n q44.cap q44.cs)) 19 (D.list q47.n q47.cap q47.cs)))
 else none
 else none
 else none
 else none
 else none) := (Z30 m _).trans (by kernel_rfl)
theorem Z18h (m n0 : Nat) (Zi : Int) (Zt : Nat) (Z10 : Option Nat) (Zq : List D) (Zu : List D) : Zlt m (n0 + 1) Zi Zt Z10 Zq Zu =
 (cond (decide (Zi < (Zt : Int)))
 (cond (decide (Zi < (25 : Int)))
 (Zzt m n0 Zi Zt Z10 Zq Zu)
 (if (List.length Zu) = 1 then
 some (D.agg Zu)
 else none))
 (if (List.length Zu) = 1 then
 some (D.agg Zu)
 else none)) := by kernel_rfl
noncomputable def Z17f (m : Nat) (a0_0n : Nat) (a0_0c : Option Nat) (a0_0 : List D) : Option D :=
 Zlt m m (0 : Int) a0_0n a0_0c a0_0 [(D.list 0 (some 0) [])]
theorem Z1b1 (m : Nat) (a0_0n : Nat) (a0_0c : Option Nat) (a0_0 : List D) : funD Tg Zz m 4 Zc Tryz.f11 [(D.agg [(D.list a0_0n a0_0c a0_0)])] = Z17f m a0_0n a0_0c a0_0 := by kernel_rfl
theorem Z1fj : Enters Tg 11 := ⟨Tryz.f11,Tryz.func11,by kernel_rfl,by kernel_rfl⟩
theorem Z1fk {ds : List D} {d : D} (h : funD Tg Zz M 4 Zc Tryz.f11 ds = some d) : DataSem Tg 11 ds d := Z0 (H := Zz) (SpOk.cons Zqp (SpOk.cons Z1fi (SpOk.cons Z1hi (SpOk.cons Z1hf (SpOk.cons Z1cn SpOk.nil))))) mixed InlOk.nil Tryz.func11 Z1fj h
noncomputable def Z45 : List D → Option D
 | [.agg [.list a0_0n a0_0c a0_0]] => Z17f M a0_0n a0_0c a0_0
 | _ => none
theorem Z1fl : ∀ ds d,Z45 ds = some d → DataSem Tg 11 ds d := by
 intro ds d h
 unfold Z45 at h
 split at h
 ·exact Z1fk ((Z1b1 M _ _ _).trans h)
 ·cases h
end Go.Ev