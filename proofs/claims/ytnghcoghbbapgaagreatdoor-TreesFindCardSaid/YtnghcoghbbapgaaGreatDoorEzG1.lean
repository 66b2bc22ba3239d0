/- Functions of the given program in plain form,printed: each with the proof that it is what the evaluator comes to,and that the program function returns what it says. No conditions. -/
import Derived.Test.YtnghcoghbbapgaaGreatDoorEzK1
import Derived.Test.YtnghcoghbbapgaaGreatDoorEzK2
set_option linter.unusedVariables false
set_option maxRecDepth 100000
namespace Go.Ev
open Go Go.Proofs
def Zp : FnH := ⟨[(6,⟨(bm 1924145348608 47),[],(some 1)⟩)],[(3,⟨(bm 2 47),[],(some 1)⟩),(5,⟨(bm 2 47),[],(some 1)⟩)]⟩
noncomputable def Z1z : Hints := ⟨[],[],[]⟩
noncomputable def Zzk (m : Nat) (Z3o : List D) : Option D :=
 cutK m (codeK Tg Z1z.sp ⟨0,[],false,[]⟩ (inlK Tg Z1z m 4) m Zp (subc [1,1] (bodyOf Tryz.f77)) ⟨[Jk,(AV.ptr 0 0),Jk,Jk,Jk,Jk,Jk,Jk,Jk,Jk,Jk,Jk,Jk,Jk,Jk,Jk,Jk,Jk,Jk,Jk,Jk,Jk,Jk,Jk,Jk,Jk,Jk,Jk,Jk,Jk,Jk,Jk,Jk,Jk,Jk,Jk,Jk,Jk,Jk,Jk,Jk,Jk,Jk,Jk,Jk,Jk,Jk],[(Blk.d 17 Z3o)]⟩
  (contK Tg Z1z.sp ⟨0,[],false,[]⟩ (inlK Tg Z1z m 4) m Zp (endK Tg Tryz.f77 endV) []))
noncomputable def Zig (m : Nat) (Zxf : List D) : Option D :=
 cutK m (codeK Tg Z1z.sp ⟨0,[],false,[]⟩ (inlK Tg Z1z m 4) m Zp (subc [1,1,1] (bodyOf Tryz.f77)) ⟨[Jk,(AV.ptr 0 0),Jk,Jk,Jk,Jk,Jk,Jk,Jk,Jk,Jk,Jk,Jk,Jk,Jk,Jk,Jk,Jk,Jk,Jk,Jk,Jk,Jk,Jk,Jk,Jk,Jk,Jk,Jk,Jk,Jk,Jk,Jk,Jk,Jk,Jk,Jk,Jk,Jk,Jk,Jk,Jk,Jk,Jk,Jk,Jk,Jk],[(Blk.d 17 Zxf)]⟩
  (contK Tg Z1z.sp ⟨0,[],false,[]⟩ (inlK Tg Z1z m 4) m Zp (endK Tg Tryz.f77 endV) []))
noncomputable def Zln (m n0 : Nat) (Zi : Nat) (Zt : Nat) (Z10 : Int) (Zq : Int) (Zu : List D) : Option D :=
 Z2a (bm 1924145348608 47) 0 1 (codeK Tg Z1z.sp ⟨0,[],false,[]⟩ (inlK Tg Z1z m 4) m Zp (subc [1,1,1,0,1,0,0] (bodyOf Tryz.f77))) n0 ⟨[Jk,Jk,Jk,Jk,Jk,Jk,Jk,Jk,Jk,Jk,Jk,Jk,Jk,Jk,Jk,Jk,Jk,Jk,Jk,Jk,Jk,Jk,Jk,Jk,Jk,Jk,Jk,Jk,Jk,Jk,Jk,Jk,Jk,Jk,Jk,Jk,Jk,Jk,(AV.sl 0 Zi Zt (some Zt) 1),(AV.d (D.v (.int .i64 Z10))),(AV.d (D.v (.int .i64 Zq))),Jk,Jk,Jk,Jk,Jk,Jk],[(Blk.d 17 Zu)]⟩
  (contK Tg Z1z.sp ⟨0,[],false,[]⟩ (inlK Tg Z1z m 4) m Zp (endK Tg Tryz.f77 endV) [.block 0,.code (subc [1,1,1,1] (bodyOf Tryz.f77))])
theorem Z183 (m n0 : Nat) (Zi : Nat) (Zt : Nat) (Z10 : Int) (Zq : Int) (Zu : List D) : Zln m (n0 + 1) Zi Zt Z10 Zq Zu =
 (cond (decide (Zq < Z10))
 (if 0 ≤ Zq ∧ Zq < (Zt : Int) then
 (rdI .u32 Zu[(Zi + ((Int.toNat Zq) * 1))]?).bind fun x10 =>
 cond (x10 != (0 : Int))
 (some (D.v (.int .i64 (1 : Int))))
 (Zln m n0 Zi Zt Z10 (IntKind.wrap .i64 (Zq + (1 : Int))) Zu)
 else none)
 (some zI)) := by kernel_rfl
theorem Z163 (m : Nat) (Zxf : List D) : Zig m Zxf =
 ((rdI .u8 Zxf[0]?).bind fun x7 =>
 if 0 ≤ x7 ∧ x7 ≤ (16 : Int) then
 Zln m m (1 + ((Int.toNat x7) * 1)) (16 - (Int.toNat x7)) (((16 - (Int.toNat x7)) : Nat) : Int) (0 : Int) Zxf
 else none) := (Z30 m _).trans (by kernel_rfl)
theorem Z164 (m : Nat) (Z3o : List D) : Zzk m Z3o =
 ((rdI .u32 Z3o[1]?).bind fun x4 =>
 cond (decide (x4 < (2 : Int)))
 ((rdI .u32 Z3o[2]?).bind fun x5 =>
 cond (decide (x5 > (39 : Int)))
 (some (D.v (.int .i64 (1 : Int))))
 ((rdI .u32 Z3o[2]?).bind fun x6 =>
 cond (decide (x6 > (4294967215 : Int)))
 (some (D.v (.int .i64 (1 : Int))))
 (Zig m Z3o)))
 ((rdI .u32 Z3o[2]?).bind fun x11 =>
 cond (decide (x11 > (4294967215 : Int)))
 (some (D.v (.int .i64 (1 : Int))))
 (Zig m Z3o))) := (Z30 m _).trans (by kernel_rfl)
noncomputable def Zsh (m : Nat) (a0 : List D) : Option D :=
 if (List.length a0) = 17 then
 (rdI .u8 a0[0]?).bind fun x1 =>
 cond (decide (x1 < (2 : Int)))
 (some (D.v (.int .i64 (1 : Int))))
 ((rdI .u8 a0[0]?).bind fun x2 =>
 cond (decide (x2 > (16 : Int)))
 (some (D.v (.int .i64 (1 : Int))))
 ((rdI .u32 a0[1]?).bind fun x3 =>
 cond (decide (x3 > (2 : Int)))
 (some (D.v (.int .i64 (1 : Int))))
 (Zzk m a0)))
 else none
theorem Z1an (m : Nat) (a0 : List D) : funD Tg Z1z m 4 Zp Tryz.f77 [(D.agg a0)] = Zsh m a0 := by kernel_rfl
theorem Z1fa : Enters Tg 77 := ⟨Tryz.f77,Tryz.func77,by kernel_rfl,by kernel_rfl⟩
theorem Z1fb {ds : List D} {d : D} (h : funD Tg Z1z M 4 Zp Tryz.f77 ds = some d) : DataSem Tg 77 ds d := Z0 (H := Z1z) SpOk.nil mixed InlOk.nil Tryz.func77 Z1fa h
noncomputable def Z7j : List D → Option D
 | [.agg a0] => Zsh M a0
 | _ => none
theorem Z14n : ∀ ds d,Z7j ds = some d → DataSem Tg 77 ds d := by
 intro ds d h
 unfold Z7j at h
 split at h
 ·exact Z1fb ((Z1an M _).trans h)
 ·cases h
def Z36 : FnH := ⟨[],[]⟩
def Zbh : FnH := ⟨[],[]⟩
noncomputable def Zdn : Hints := ⟨[],[(117,Tryz.f117,Zbh)],[]⟩
noncomputable def Z69 (m : Nat) (a0 : Int) (a1 : Int) : Option D :=
 cond (a0 != a0)
 (cond (a1 != a1)
 (some zI)
 (some (D.v (.int .i64 (-1 : Int)))))
 (cond (a1 != a1)
 (some (D.v (.int .i64 (1 : Int))))
 (cond (decide (a0 < a1))
 (some (D.v (.int .i64 (-1 : Int))))
 (cond (decide (a0 > a1))
 (some (D.v (.int .i64 (1 : Int))))
 (some zI))))
theorem Zwa (m : Nat) (a0 : Int) (a1 : Int) : funD Tg Zdn m 4 Z36 Tryz.f100 [(D.v (.int .u32 a0)),(D.v (.int .u32 a1))] = Z69 m a0 a1 := by kernel_rfl
theorem Zzl : Enters Tg 100 := ⟨Tryz.f100,Tryz.func100,by kernel_rfl,by kernel_rfl⟩
theorem Zzm {ds : List D} {d : D} (h : funD Tg Zdn M 4 Z36 Tryz.f100 ds = some d) : DataSem Tg 100 ds d := Z0 (H := Zdn) SpOk.nil mixed (InlOk.cons Tryz.func117 Z12o InlOk.nil) Tryz.func100 Zzl h
noncomputable def Z3p : List D → Option D
 | [.v (.int .u32 a0),.v (.int .u32 a1)] => Z69 M a0 a1
 | _ => none
theorem Zzn : ∀ ds d,Z3p ds = some d → DataSem Tg 100 ds d := by
 intro ds d h
 unfold Z3p at h
 split at h
 ·exact Zzm ((Zwa M _ _).trans h)
 ·cases h
def Z5 : FnH := ⟨[(2,⟨(bm 3587 36),[],(some 0)⟩)],[]⟩
noncomputable def Zj : Hints := ⟨[(100,Z3p)],[],[]⟩
noncomputable def Z1w (m n0 : Nat) (Zi : Nat) (Zt : Option Nat) (Z10 : List D) (Zq : Nat) (Zu : Option Nat) (Z1m : List D) (Z37 : Int) (Z8j : Int) : Option D :=
 Z2a (bm 3587 36) 0 0 (codeK Tg Zj.sp ⟨0,[],false,[]⟩ (inlK Tg Zj m 4) m Z5 (subc [1,0,1,0,0] (bodyOf Tryz.f79))) n0 ⟨[(AV.d (D.list Zi Zt Z10)),(AV.d (D.list Zq Zu Z1m)),Jk,Jk,Jk,Jk,Jk,Jk,Jk,(AV.d (D.list Zi Zt Z10)),(AV.d (D.v (.int .i64 Z37))),(AV.d (D.v (.int .i64 Z8j))),Jk,Jk,Jk,Jk,Jk,Jk,Jk,Jk,Jk,Jk,Jk,Jk,Jk,Jk,Jk,Jk,Jk,Jk,Jk,Jk,Jk,Jk,Jk,Jk],[]⟩
  (contK Tg Zj.sp ⟨0,[],false,[]⟩ (inlK Tg Zj m 4) m Z5 (endK Tg Tryz.f79 endV) [.block 0,.code (subc [1,1] (bodyOf Tryz.f79))])
theorem Zh5 (m n0 : Nat) (Zi : Nat) (Zt : Option Nat) (Z10 : List D) (Zq : Nat) (Zu : Option Nat) (Z1m : List D) (Z37 : Int) (Z8j : Int) : Z1w m (n0 + 1) Zi Zt Z10 Zq Zu Z1m Z37 Z8j =
 (cond (decide (Z8j < Z37))
 (if 0 ≤ Z8j ∧ Z8j < (Zi : Int) then
 (rdI .u32 Z10[((Int.toNat Z8j) * 1)]?).bind fun x9 =>
 cond (decide (Z8j ≥ (Zq : Int)))
 (some (D.v (.int .i64 (1 : Int))))
 (if 0 ≤ Z8j ∧ Z8j < (Zq : Int) then
 (rdI .u32 Z1m[((Int.toNat Z8j) * 1)]?).bind fun x10 =>
 (Z3p [(D.v (.int .u32 x9)),(D.v (.int .u32 x10))]).bind fun d11 =>
 (rdI .i64 (some d11)).bind fun x12 =>
 cond (x12 != (0 : Int))
 (some (D.v (.int .i64 x12)))
 (Z1w m n0 Zi Zt Z10 Zq Zu Z1m Z37 (IntKind.wrap .i64 (Z8j + (1 : Int))))
 else none)
 else none)
 (cond (decide ((Zi : Int) < (Zq : Int)))
 (some (D.v (.int .i64 (-1 : Int))))
 (some zI))) := by kernel_rfl
noncomputable def Z70 (m : Nat) (a0n : Nat) (a0c : Option Nat) (a0 : List D) (a1n : Nat) (a1c : Option Nat) (a1 : List D) : Option D :=
 Z1w m m a0n a0c a0 a1n a1c a1 (a0n : Int) (0 : Int)
theorem Zih (m : Nat) (a0n : Nat) (a0c : Option Nat) (a0 : List D) (a1n : Nat) (a1c : Option Nat) (a1 : List D) : funD Tg Zj m 4 Z5 Tryz.f79 [(D.list a0n a0c a0),(D.list a1n a1c a1)] = Z70 m a0n a0c a0 a1n a1c a1 := by kernel_rfl
theorem Zl0 : Enters Tg 79 := ⟨Tryz.f79,Tryz.func79,by kernel_rfl,by kernel_rfl⟩
theorem Zl1 {ds : List D} {d : D} (h : funD Tg Zj M 4 Z5 Tryz.f79 ds = some d) : DataSem Tg 79 ds d := Z0 (H := Zj) (SpOk.cons Zzn SpOk.nil) mixed InlOk.nil Tryz.func79 Zl0 h
noncomputable def Z15 : List D → Option D
 | [.list a0n a0c a0,.list a1n a1c a1] => Z70 M a0n a0c a0 a1n a1c a1
 | _ => none
theorem Zl2 : ∀ ds d,Z15 ds = some d → DataSem Tg 79 ds d := by
 intro ds d h
 unfold Z15 at h
 split at h
 ·exact Zl1 ((Zih M _ _ _ _ _ _).trans h)
 ·cases h
def Z8c : FnH := ⟨[],[]⟩
def Zrb : FnH := ⟨[],[]⟩
noncomputable def Ztl : Hints := ⟨[(79,Z15)],[(80,Tryz.f80,Zrb)],[]⟩
noncomputable def Zlo (m : Nat) (a0 : List D) (a1 : List D) : Option D :=
 if (List.length a0) = 17 then
 if (List.length a1) = 17 then
 (rdI .u8 a0[0]?).bind fun x1 =>
 if 0 ≤ (mm true (IntKind.wrap .i64 x1) (16 : Int)) ∧ (mm true (IntKind.wrap .i64 x1) (16 : Int)) ≤ (16 : Int) then
 (rdI .u8 a1[0]?).bind fun x2 =>
 if 0 ≤ (mm true (IntKind.wrap .i64 x2) (16 : Int)) ∧ (mm true (IntKind.wrap .i64 x2) (16 : Int)) ≤ (16 : Int) then
 if (1 + (((Int.toNat (mm true (IntKind.wrap .i64 x1) (16 : Int))) - 0) * 1)) ≤ 17 then
 if (1 + (((Int.toNat (mm true (IntKind.wrap .i64 x2) (16 : Int))) - 0) * 1)) ≤ 17 then
 (Z15 [(D.list ((Int.toNat (mm true (IntKind.wrap .i64 x1) (16 : Int))) - 0) (some 16) (cutL 17 a0 1 (((Int.toNat (mm true (IntKind.wrap .i64 x1) (16 : Int))) - 0) * 1))),(D.list ((Int.toNat (mm true (IntKind.wrap .i64 x2) (16 : Int))) - 0) (some 16) (cutL 17 a1 1 (((Int.toNat (mm true (IntKind.wrap .i64 x2) (16 : Int))) - 0) * 1)))]).bind fun d3 =>
 (rdI .i64 (some d3)).bind fun x4 =>
 some (D.v (.int .i64 x4))
 else none
 else none
 else none
 else none
 else none
 else none
theorem Z165 (m : Nat) (a0 : List D) (a1 : List D) : funD Tg Ztl m 4 Z8c Tryz.f52 [(D.agg a0),(D.agg a1)] = Zlo m a0 a1 := by kernel_rfl
theorem Z1ao : Enters Tg 52 := ⟨Tryz.f52,Tryz.func52,by kernel_rfl,by kernel_rfl⟩
theorem Z1ap {ds : List D} {d : D} (h : funD Tg Ztl M 4 Z8c Tryz.f52 ds = some d) : DataSem Tg 52 ds d := Z0 (H := Ztl) (SpOk.cons Zl2 SpOk.nil) mixed (InlOk.cons Tryz.func80 Z1h3 InlOk.nil) Tryz.func52 Z1ao h
noncomputable def Z4m : List D → Option D
 | [.agg a0,.agg a1] => Zlo M a0 a1
 | _ => none
theorem Zzo : ∀ ds d,Z4m ds = some d → DataSem Tg 52 ds d := by
 intro ds d h
 unfold Z4m at h
 split at h
 ·exact Z1ap ((Z165 M _ _).trans h)
 ·cases h
def Z24 : FnH := ⟨[(4,⟨(bm 7169 38),[],(some 0)⟩)],[]⟩
noncomputable def Z4n : Hints := ⟨[(52,Z4m),(77,Z7j)],[],[]⟩
noncomputable def Z6j (m n0 : Nat) (Zi : Nat) (Zt : Option Nat) (Z10 : List D) (Zq : Int) (Zu : Int) : Option D :=
 Z2a (bm 7169 38) 0 0 (codeK Tg Z4n.sp ⟨0,[],false,[]⟩ (inlK Tg Z4n m 4) m Z24 (subc [1,1,0,1,0,0] (bodyOf Tryz.f58))) n0 ⟨[(AV.d (D.list Zi Zt Z10)),Jk,Jk,Jk,Jk,Jk,Jk,Jk,Jk,Jk,(AV.d (D.list Zi Zt Z10)),(AV.d (D.v (.int .i64 Zq))),(AV.d (D.v (.int .i64 Zu))),Jk,Jk,Jk,Jk,Jk,Jk,Jk,Jk,Jk,Jk,Jk,Jk,Jk,Jk,Jk,Jk,Jk,Jk,Jk,Jk,Jk,Jk,Jk,Jk,Jk],[]⟩
  (contK Tg Z4n.sp ⟨0,[],false,[]⟩ (inlK Tg Z4n m 4) m Z24 (endK Tg Tryz.f58 endV) [.block 0,.code (subc [1,1,1] (bodyOf Tryz.f58))])
theorem Z12v (m n0 : Nat) (Zi : Nat) (Zt : Option Nat) (Z10 : List D) (Zq : Int) (Zu : Int) : Z6j m (n0 + 1) Zi Zt Z10 Zq Zu =
 (cond (decide (Zu < Zq))
 (if 0 ≤ Zu ∧ Zu < (Zi : Int) then
 if (((Int.toNat Zu) * 17) + 17) ≤ (List.length Z10) then
 if (List.length ((List.drop ((Int.toNat Zu) * 17) Z10).take 17)) = 17 then
 (Z7j [(D.agg ((List.drop ((Int.toNat Zu) * 17) Z10).take 17))]).bind fun d7 =>
 (rdI .i64 (some d7)).bind fun x8 =>
 cond (x8 != (0 : Int))
 (some (D.v (.int .i64 x8)))
 (cond (Zu == (0 : Int))
 (Z6j m n0 Zi Zt Z10 Zq (IntKind.wrap .i64 (Zu + (1 : Int))))
 (if 0 ≤ (IntKind.wrap .i64 (Zu - (1 : Int))) ∧ (IntKind.wrap .i64 (Zu - (1 : Int))) < (Zi : Int) then
 if (((Int.toNat (IntKind.wrap .i64 (Zu - (1 : Int)))) * 17) + 17) ≤ (List.length Z10) then
 (Z4m [(D.agg ((List.drop ((Int.toNat (IntKind.wrap .i64 (Zu - (1 : Int)))) * 17) Z10).take 17)),(D.agg ((List.drop ((Int.toNat Zu) * 17) Z10).take 17))]).bind fun d9 =>
 (rdI .i64 (some d9)).bind fun x10 =>
 cond (x10 == (0 : Int))
 (some (D.v (.int .i64 (14 : Int))))
 (cond (decide (x10 > (0 : Int)))
 (some (D.v (.int .i64 (13 : Int))))
 (Z6j m n0 Zi Zt Z10 Zq (IntKind.wrap .i64 (Zu + (1 : Int)))))
 else none
 else none))
 else none
 else none
 else none)
 (some zI)) := by kernel_rfl
noncomputable def Zii (m : Nat) (a0n : Nat) (a0c : Option Nat) (a0 : List D) : Option D :=
 cond (decide ((a0n : Int) > (256 : Int)))
 (some (D.v (.int .i64 (3 : Int))))
 (Z6j m m a0n a0c a0 (a0n : Int) (0 : Int))
theorem Z14o (m : Nat) (a0n : Nat) (a0c : Option Nat) (a0 : List D) : funD Tg Z4n m 4 Z24 Tryz.f58 [(D.list a0n a0c a0)] = Zii m a0n a0c a0 := by kernel_rfl
theorem Z184 : Enters Tg 58 := ⟨Tryz.f58,Tryz.func58,by kernel_rfl,by kernel_rfl⟩
theorem Z185 {ds : List D} {d : D} (h : funD Tg Z4n M 4 Z24 Tryz.f58 ds = some d) : DataSem Tg 58 ds d := Z0 (H := Z4n) (SpOk.cons Zzo (SpOk.cons Z14n SpOk.nil)) mixed InlOk.nil Tryz.func58 Z184 h
noncomputable def Z8d : List D → Option D
 | [.list a0n a0c a0] => Zii M a0n a0c a0
 | _ => none
theorem Z186 : ∀ ds d,Z8d ds = some d → DataSem Tg 58 ds d := by
 intro ds d h
 unfold Z8d at h
 split at h
 ·exact Z185 ((Z14o M _ _ _).trans h)
 ·cases h
def Z16 : FnH := ⟨[(4,⟨(bm 10 46),[],(some 1)⟩)],[(3,⟨(bm 2 46),[],(some 1)⟩)]⟩
noncomputable def Z2o : Hints := ⟨[],[],[]⟩
noncomputable def Zxg (m : Nat) (Z3o : List D) : Option D :=
 cutK m (codeK Tg Z2o.sp ⟨0,[],false,[]⟩ (inlK Tg Z2o m 4) m Z16 (subc [1,1] (bodyOf Tryz.f60)) ⟨[Jk,(AV.ptr 0 0),Jk,Jk,Jk,Jk,Jk,Jk,Jk,Jk,Jk,Jk,Jk,Jk,Jk,Jk,Jk,Jk,Jk,Jk,Jk,Jk,Jk,Jk,Jk,Jk,Jk,Jk,Jk,Jk,Jk,Jk,Jk,Jk,Jk,Jk,Jk,Jk,Jk,Jk,Jk,Jk,Jk,Jk,Jk,Jk],[(Blk.d 17 Z3o)]⟩
  (contK Tg Z2o.sp ⟨0,[],false,[]⟩ (inlK Tg Z2o m 4) m Z16 (endK Tg Tryz.f60 endV) []))
noncomputable def Zij (m n0 : Nat) (Zi : Int) (Zt : List D) : Option D :=
 Z2a (bm 10 46) 0 1 (codeK Tg Z2o.sp ⟨0,[],false,[]⟩ (inlK Tg Z2o m 4) m Z16 (subc [1,1,0,1,0,0] (bodyOf Tryz.f60))) n0 ⟨[Jk,(AV.ptr 0 0),Jk,(AV.d (D.v (.int .i64 Zi))),Jk,Jk,Jk,Jk,Jk,Jk,Jk,Jk,Jk,Jk,Jk,Jk,Jk,Jk,Jk,Jk,Jk,Jk,Jk,Jk,Jk,Jk,Jk,Jk,Jk,Jk,Jk,Jk,Jk,Jk,Jk,Jk,Jk,Jk,Jk,Jk,Jk,Jk,Jk,Jk,Jk,Jk],[(Blk.d 17 Zt)]⟩
  (contK Tg Z2o.sp ⟨0,[],false,[]⟩ (inlK Tg Z2o m 4) m Z16 (endK Tg Tryz.f60 endV) [.block 0,.code (subc [1,1,1] (bodyOf Tryz.f60))])
theorem Z166 (m n0 : Nat) (Zi : Int) (Zt : List D) : Zij m (n0 + 1) Zi Zt =
 (cond (decide (Zi < (16 : Int)))
 (if 0 ≤ Zi ∧ Zi < (16 : Int) then
 (rdI .u32 Zt[(1 + ((Int.toNat Zi) * 1))]?).bind fun x5 =>
 cond (x5 != (0 : Int))
 (some (D.v (.int .i64 (1 : Int))))
 (Zij m n0 (IntKind.wrap .i64 (Zi + (1 : Int))) Zt)
 else none)
 ((rdI .u32 Zt[1]?).bind fun x6 =>
 cond (decide (x6 < (2 : Int)))
 ((rdI .u32 Zt[2]?).bind fun x7 =>
 cond (decide (x7 < (40 : Int)))
 (some zI)
 ((rdI .u32 Zt[1]?).bind fun x8 =>
 cond (x8 == (2 : Int))
 ((rdI .u32 Zt[2]?).bind fun x9 =>
 cond (decide (x9 ≤ (4294967215 : Int)))
 (some zI)
 (some (D.v (.int .i64 (1 : Int)))))
 (some (D.v (.int .i64 (1 : Int))))))
 ((rdI .u32 Zt[1]?).bind fun x10 =>
 cond (x10 == (2 : Int))
 ((rdI .u32 Zt[2]?).bind fun x11 =>
 cond (decide (x11 ≤ (4294967215 : Int)))
 (some zI)
 (some (D.v (.int .i64 (1 : Int)))))
 (some (D.v (.int .i64 (1 : Int))))))) := by kernel_rfl
theorem Z14p (m : Nat) (Z3o : List D) : Zxg m Z3o =
 ((rdI .u8 Z3o[0]?).bind fun x3 =>
 Zij m m (IntKind.wrap .i64 x3) Z3o) := (Z30 m _).trans (by kernel_rfl)
noncomputable def Zp6 (m : Nat) (a0 : List D) : Option D :=
 if (List.length a0) = 17 then
 (rdI .u8 a0[0]?).bind fun x1 =>
 cond (decide (x1 < (2 : Int)))
 (some (D.v (.int .i64 (1 : Int))))
 ((rdI .u8 a0[0]?).bind fun x2 =>
 cond (decide (x2 > (16 : Int)))
 (some (D.v (.int .i64 (1 : Int))))
 (Zxg m a0))
 else none
theorem Z187 (m : Nat) (a0 : List D) : funD Tg Z2o m 4 Z16 Tryz.f60 [(D.agg a0)] = Zp6 m a0 := by kernel_rfl
theorem Z1cf : Enters Tg 60 := ⟨Tryz.f60,Tryz.func60,by kernel_rfl,by kernel_rfl⟩
theorem Z1cg {ds : List D} {d : D} (h : funD Tg Z2o M 4 Z16 Tryz.f60 ds = some d) : DataSem Tg 60 ds d := Z0 (H := Z2o) SpOk.nil mixed InlOk.nil Tryz.func60 Z1cf h
noncomputable def Z5h : List D → Option D
 | [.agg a0] => Zp6 M a0
 | _ => none
theorem Z121 : ∀ ds d,Z5h ds = some d → DataSem Tg 60 ds d := by
 intro ds d h
 unfold Z5h at h
 split at h
 ·exact Z1cg ((Z187 M _).trans h)
 ·cases h
def Za : FnH := ⟨[(3,⟨(bm 236 50),[],(some 2)⟩)],[(5,⟨(bm 236 50),[],(some 2)⟩),(9,⟨(bm 96 50),[],(some 0)⟩)]⟩
noncomputable def Zv : Hints := ⟨[],[],[]⟩
noncomputable def Zci (m n0 : Nat) (Zi : Int) (Zt : Int) (Z10 : Int) (Zq : List D) (Zu : List D) : Option D :=
 Z2a (bm 236 50) 0 2 (codeK Tg Zv.sp ⟨0,[],false,[]⟩ (inlK Tg Zv m 4) m Za (subc [1,1,0,1,0,0] (bodyOf Tryz.f56))) n0 ⟨[Jk,Jk,(AV.ptr 0 0),(AV.ptr 1 0),Jk,(AV.d (D.v (.int .i64 Zi))),(AV.d (D.v (.int .i64 Zt))),(AV.d (D.v (.int .i64 Z10))),Jk,Jk,Jk,Jk,Jk,Jk,Jk,Jk,Jk,Jk,Jk,Jk,Jk,Jk,Jk,Jk,Jk,Jk,Jk,Jk,Jk,Jk,Jk,Jk,Jk,Jk,Jk,Jk,Jk,Jk,Jk,Jk,Jk,Jk,Jk,Jk,Jk,Jk,Jk,Jk,Jk,Jk],[(Blk.d 17 Zq),(Blk.d 17 Zu)]⟩
  (contK Tg Zv.sp ⟨0,[],false,[]⟩ (inlK Tg Zv m 4) m Za (endK Tg Tryz.f56 endV) [.block 0,.code (subc [1,1,1] (bodyOf Tryz.f56))])
noncomputable def Zsi (m n0 : Nat) (Z3o : Int) (Z7k : Int) (Z71 : Int) (Z5e : List D) (Zik : List D) : Option D :=
 cutK m (codeK Tg Zv.sp ⟨0,[],false,[]⟩ (inlK Tg Zv m 4) m Za (subc [1,1,0,1,0,0,1] (bodyOf Tryz.f56)) ⟨[Jk,Jk,(AV.ptr 0 0),(AV.ptr 1 0),Jk,(AV.d (D.v (.int .i64 Z3o))),(AV.d (D.v (.int .i64 Z7k))),(AV.d (D.v (.int .i64 Z71))),Jk,Jk,Jk,Jk,Jk,Jk,Jk,Jk,Jk,Jk,Jk,Jk,Jk,Jk,Jk,Jk,Jk,Jk,Jk,Jk,Jk,Jk,Jk,Jk,Jk,Jk,Jk,Jk,Jk,Jk,Jk,Jk,Jk,Jk,Jk,Jk,Jk,Jk,Jk,Jk,Jk,Jk],[(Blk.d 17 Z5e),(Blk.d 17 Zik)]⟩
  (contK Tg Zv.sp ⟨0,[],false,[]⟩ (inlK Tg Zv m 4) m Za (endK Tg Tryz.f56 endV) [.loop (bm 236 50) 2 (subc [1,1,0,1,0,0] (bodyOf Tryz.f56)) n0,.block 0,.code (subc [1,1,1] (bodyOf Tryz.f56))]))
theorem Z11d (m n0 : Nat) (Z3o : Int) (Z7k : Int) (Z71 : Int) (Z5e : List D) (Zik : List D) : Zsi m n0 Z3o Z7k Z71 Z5e Zik =
 (if 0 ≤ Z71 ∧ Z71 < (16 : Int) then
 (rdI .u32 Z5e[(1 + ((Int.toNat Z71) * 1))]?).bind fun x11 =>
 if 0 ≤ Z71 ∧ Z71 < (16 : Int) then
 (rdI .u32 Zik[(1 + ((Int.toNat Z71) * 1))]?).bind fun x12 =>
 cond (decide (x11 < x12))
 (some (D.v (.int .i64 (-1 : Int))))
 (if 0 ≤ Z71 ∧ Z71 < (16 : Int) then
 (rdI .u32 Z5e[(1 + ((Int.toNat Z71) * 1))]?).bind fun x13 =>
 if 0 ≤ Z71 ∧ Z71 < (16 : Int) then
 (rdI .u32 Zik[(1 + ((Int.toNat Z71) * 1))]?).bind fun x14 =>
 cond (decide (x13 > x14))
 (some (D.v (.int .i64 (1 : Int))))
 (Zci m n0 Z3o Z7k (IntKind.wrap .i64 (Z71 + (1 : Int))) Z5e Zik)
 else none
 else none)
 else none
 else none) := (Z30 m _).trans (by kernel_rfl)
noncomputable def Zil (m : Nat) (Zxf : Int) (Z12w : Int) : Option D :=
 cutK m (codeK Tg Zv.sp ⟨0,[],false,[]⟩ (inlK Tg Zv m 4) m Za (subc [1,1,1] (bodyOf Tryz.f56)) ⟨[Jk,Jk,Jk,Jk,Jk,(AV.d (D.v (.int .i64 Zxf))),(AV.d (D.v (.int .i64 Z12w))),Jk,Jk,Jk,Jk,Jk,Jk,Jk,Jk,Jk,Jk,Jk,Jk,Jk,Jk,Jk,Jk,Jk,Jk,Jk,Jk,Jk,Jk,Jk,Jk,Jk,Jk,Jk,Jk,Jk,Jk,Jk,Jk,Jk,Jk,Jk,Jk,Jk,Jk,Jk,Jk,Jk,Jk,Jk],[]⟩
  (contK Tg Zv.sp ⟨0,[],false,[]⟩ (inlK Tg Zv m 4) m Za (endK Tg Tryz.f56 endV) []))
theorem Z11e (m : Nat) (Zxf : Int) (Z12w : Int) : Zil m Zxf Z12w =
 (cond (decide (Zxf < Z12w))
 (some (D.v (.int .i64 (-1 : Int))))
 (cond (decide (Zxf > Z12w))
 (some (D.v (.int .i64 (1 : Int))))
 (some zI))) := (Z30 m _).trans (by kernel_rfl)
theorem Z12x (m n0 : Nat) (Zi : Int) (Zt : Int) (Z10 : Int) (Zq : List D) (Zu : List D) : Zci m (n0 + 1) Zi Zt Z10 Zq Zu =
 (cond (decide (Z10 < Zi))
 (cond (decide (Z10 < Zt))
 (Zsi m n0 Zi Zt Z10 Zq Zu)
 (Zil m Zi Zt))
 (Zil m Zi Zt)) := by kernel_rfl
noncomputable def Zim (m : Nat) (a0 : List D) (a1 : List D) : Option D :=
 if (List.length a0) = 17 then
 if (List.length a1) = 17 then
 (rdI .u8 a0[0]?).bind fun x1 =>
 (rdI .u8 a1[0]?).bind fun x2 =>
 Zci m m (mm true (IntKind.wrap .i64 x1) (16 : Int)) (mm true (IntKind.wrap .i64 x2) (16 : Int)) (0 : Int) a0 a1
 else none
 else none
theorem Z14q (m : Nat) (a0 : List D) (a1 : List D) : funD Tg Zv m 4 Za Tryz.f56 [(D.agg a0),(D.agg a1)] = Zim m a0 a1 := by kernel_rfl
theorem Z188 : Enters Tg 56 := ⟨Tryz.f56,Tryz.func56,by kernel_rfl,by kernel_rfl⟩
theorem Z189 {ds : List D} {d : D} (h : funD Tg Zv M 4 Za Tryz.f56 ds = some d) : DataSem Tg 56 ds d := Z0 (H := Zv) SpOk.nil mixed InlOk.nil Tryz.func56 Z188 h
noncomputable def Z2f : List D → Option D
 | [.agg a0,.agg a1] => Zim M a0 a1
 | _ => none
theorem Znw : ∀ ds d,Z2f ds = some d → DataSem Tg 56 ds d := by
 intro ds d h
 unfold Z2f at h
 split at h
 ·exact Z189 ((Z14q M _ _).trans h)
 ·cases h
def Z17 : FnH := ⟨[(4,⟨(bm 9 36),[],(some 0)⟩)],[(5,⟨(bm 9 36),[],(some 0)⟩)]⟩
noncomputable def Z2p : Hints := ⟨[(56,Z2f),(60,Z5h)],[],[]⟩
noncomputable def Zin (m n0 : Nat) (Zi : Nat) (Zt : Option Nat) (Z10 : List D) (Zq : Int) : Option D :=
 Z2a (bm 9 36) 0 0 (codeK Tg Z2p.sp ⟨0,[],false,[]⟩ (inlK Tg Z2p m 4) m Z17 (subc [1,1,0,1,0,0] (bodyOf Tryz.f31))) n0 ⟨[(AV.d (D.list Zi Zt Z10)),Jk,Jk,(AV.d (D.v (.int .i64 Zq))),Jk,Jk,Jk,Jk,Jk,Jk,Jk,Jk,Jk,Jk,Jk,Jk,Jk,Jk,Jk,Jk,Jk,Jk,Jk,Jk,Jk,Jk,Jk,Jk,Jk,Jk,Jk,Jk,Jk,Jk,Jk,Jk],[]⟩
  (contK Tg Z2p.sp ⟨0,[],false,[]⟩ (inlK Tg Z2p m 4) m Z17 (endK Tg Tryz.f31 endV) [.block 0,.code (subc [1,1,1] (bodyOf Tryz.f31))])
noncomputable def Znx (m n0 : Nat) (Z3o : Nat) (Z7k : Option Nat) (Z71 : List D) (Z5e : Int) : Option D :=
 cutK m (codeK Tg Z2p.sp ⟨0,[],false,[]⟩ (inlK Tg Z2p m 4) m Z17 (subc [1,1,0,1,0,0,1,1] (bodyOf Tryz.f31)) ⟨[(AV.d (D.list Z3o Z7k Z71)),Jk,Jk,(AV.d (D.v (.int .i64 Z5e))),Jk,Jk,Jk,Jk,Jk,Jk,Jk,Jk,Jk,Jk,Jk,Jk,Jk,Jk,Jk,Jk,Jk,Jk,Jk,Jk,Jk,Jk,Jk,Jk,Jk,Jk,Jk,Jk,Jk,Jk,Jk,Jk],[]⟩
  (contK Tg Z2p.sp ⟨0,[],false,[]⟩ (inlK Tg Z2p m 4) m Z17 (endK Tg Tryz.f31 endV) [.loop (bm 9 36) 0 (subc [1,1,0,1,0,0] (bodyOf Tryz.f31)) n0,.block 0,.code (subc [1,1,1] (bodyOf Tryz.f31))]))
theorem Z14r (m n0 : Nat) (Z3o : Nat) (Z7k : Option Nat) (Z71 : List D) (Z5e : Int) : Znx m n0 Z3o Z7k Z71 Z5e =
 (Zin m n0 Z3o Z7k Z71 (IntKind.wrap .i64 (Z5e + (1 : Int)))) := (Z30 m _).trans (by kernel_rfl)
theorem Z167 (m n0 : Nat) (Zi : Nat) (Zt : Option Nat) (Z10 : List D) (Zq : Int) : Zin m (n0 + 1) Zi Zt Z10 Zq =
 (cond (decide (Zq < (Zi : Int)))
 (if 0 ≤ Zq ∧ Zq < (Zi : Int) then
 if (((Int.toNat Zq) * 17) + 17) ≤ (List.length Z10) then
 (Z5h [(D.agg ((List.drop ((Int.toNat Zq) * 17) Z10).take 17))]).bind fun d7 =>
 (rdI .i64 (some d7)).bind fun x8 =>
 cond (x8 != (0 : Int))
 (some (D.v (.int .i64 (1 : Int))))
 (cond (decide (Zq > (0 : Int)))
 (if 0 ≤ (IntKind.wrap .i64 (Zq - (1 : Int))) ∧ (IntKind.wrap .i64 (Zq - (1 : Int))) < (Zi : Int) then
 if (((Int.toNat (IntKind.wrap .i64 (Zq - (1 : Int)))) * 17) + 17) ≤ (List.length Z10) then
 if 0 ≤ Zq ∧ Zq < (Zi : Int) then
 if (((Int.toNat Zq) * 17) + 17) ≤ (List.length Z10) then
 (Z2f [(D.agg ((List.drop ((Int.toNat (IntKind.wrap .i64 (Zq - (1 : Int)))) * 17) Z10).take 17)),(D.agg ((List.drop ((Int.toNat Zq) * 17) Z10).take 17))]).bind fun d9 =>
 (rdI .i64 (some d9)).bind fun x10 =>
 cond (x10 == (0 : Int))
 (some (D.v (.int .i64 (14 : Int))))
 (cond (decide (x10 > (0 : Int)))
 (some (D.v (.int .i64 (13 : Int))))
 (Znx m n0 Zi Zt Z10 Zq))
 else none
 else none
 else none
 else none)
 (Znx m n0 Zi Zt Z10 Zq))
 else none
 else none)
 (some zI)) := by kernel_rfl
noncomputable def Zp7 (m : Nat) (a0n : Nat) (a0c : Option Nat) (a0 : List D) : Option D :=
 cond (decide ((a0n : Int) > (256 : Int)))
 (some (D.v (.int .i64 (3 : Int))))
 (Zin m m a0n a0c a0 (0 : Int))
theorem Z18a (m : Nat) (a0n : Nat) (a0c : Option Nat) (a0 : List D) : funD Tg Z2p m 4 Z17 Tryz.f31 [(D.list a0n a0c a0)] = Zp7 m a0n a0c a0 := by kernel_rfl
theorem Z1ch : Enters Tg 31 := ⟨Tryz.f31,Tryz.func31,by kernel_rfl,by kernel_rfl⟩
theorem Z1ci {ds : List D} {d : D} (h : funD Tg Z2p M 4 Z17 Tryz.f31 ds = some d) : DataSem Tg 31 ds d := Z0 (H := Z2p) (SpOk.cons Znw (SpOk.cons Z121 SpOk.nil)) mixed InlOk.nil Tryz.func31 Z1ch h
noncomputable def Ze9 : List D → Option D
 | [.list a0n a0c a0] => Zp7 M a0n a0c a0
 | _ => none
theorem Z1cj : ∀ ds d,Ze9 ds = some d → DataSem Tg 31 ds d := by
 intro ds d h
 unfold Ze9 at h
 split at h
 ·exact Z1ci ((Z18a M _ _ _).trans h)
 ·cases h
end Go.Ev