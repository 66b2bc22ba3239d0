/- Functions of the given program in plain form,printed: each with the proof that it is what the evaluator comes to,and that the program function returns what it says. No conditions. -/
import Derived.Test.YthakkigkdhaihaaGreatDoorEzK1
import Derived.Test.YthakkigkdhaihaaGreatDoorEzK2
set_option linter.unusedVariables false
set_option maxRecDepth 100000
namespace Go.Ev
open Go Go.Proofs
def Z10 : FnH := ⟨[(6,⟨(bm 1924145348608 47),[],(some 1),none⟩)],[(3,⟨(bm 2 47),[],(some 1),none⟩),(5,⟨(bm 2 47),[],(some 1),none⟩)]⟩
noncomputable def Z2f : Hints := ⟨[],[],[]⟩
noncomputable def Z128 (m : Nat) (Zsk : List D) : Option D :=
 cutK m (codeK Tg Z2f.sp ⟨0,[],false,[]⟩ (inlK Tg Z2f m 4) m Z10 (subc [1,1] (bodyOf Tryz.f117)) ⟨[Jk,(AV.ptr 0 0),Jk,Jk,Jk,Jk,Jk,Jk,Jk,Jk,Jk,Jk,Jk,Jk,Jk,Jk,Jk,Jk,Jk,Jk,Jk,Jk,Jk,Jk,Jk,Jk,Jk,Jk,Jk,Jk,Jk,Jk,Jk,Jk,Jk,Jk,Jk,Jk,Jk,Jk,Jk,Jk,Jk,Jk,Jk,Jk,Jk],[(Blk.d 17 Zsk)]⟩
  (contK Tg Z2f.sp ⟨0,[],false,[]⟩ (inlK Tg Z2f m 4) m Z10 (endK Tg Tryz.f117 endV) []))
noncomputable def Zj0 (m : Nat) (Z1d5 : List D) : Option D :=
 cutK m (codeK Tg Z2f.sp ⟨0,[],false,[]⟩ (inlK Tg Z2f m 4) m Z10 (subc [1,1,1] (bodyOf Tryz.f117)) ⟨[Jk,(AV.ptr 0 0),Jk,Jk,Jk,Jk,Jk,Jk,Jk,Jk,Jk,Jk,Jk,Jk,Jk,Jk,Jk,Jk,Jk,Jk,Jk,Jk,Jk,Jk,Jk,Jk,Jk,Jk,Jk,Jk,Jk,Jk,Jk,Jk,Jk,Jk,Jk,Jk,Jk,Jk,Jk,Jk,Jk,Jk,Jk,Jk,Jk],[(Blk.d 17 Z1d5)]⟩
  (contK Tg Z2f.sp ⟨0,[],false,[]⟩ (inlK Tg Z2f m 4) m Z10 (endK Tg Tryz.f117 endV) []))
noncomputable def Znr (m n0 : Nat) (Zlk : Nat) (Zpz : Nat) (Zp8 : Int) (Zns : Int) (Zys : List D) : Option D :=
 Ziu (bm 1924145348608 47) 0 1 (codeK Tg Z2f.sp ⟨0,[],false,[]⟩ (inlK Tg Z2f m 4) m Z10 (subc [1,1,1,0,1,0,0] (bodyOf Tryz.f117))) n0 ⟨[Jk,Jk,Jk,Jk,Jk,Jk,Jk,Jk,Jk,Jk,Jk,Jk,Jk,Jk,Jk,Jk,Jk,Jk,Jk,Jk,Jk,Jk,Jk,Jk,Jk,Jk,Jk,Jk,Jk,Jk,Jk,Jk,Jk,Jk,Jk,Jk,Jk,Jk,(AV.sl 0 Zlk Zpz (some Zpz) 1),(AV.d (D.v (.int .i64 Zp8))),(AV.d (D.v (.int .i64 Zns))),Jk,Jk,Jk,Jk,Jk,Jk],[(Blk.d 17 Zys)]⟩
  (contK Tg Z2f.sp ⟨0,[],false,[]⟩ (inlK Tg Z2f m 4) m Z10 (endK Tg Tryz.f117 endV) [.block 0,.code (subc [1,1,1,1] (bodyOf Tryz.f117))])
theorem Z19a (m n0 : Nat) (Zlk : Nat) (Zpz : Nat) (Zp8 : Int) (Zns : Int) (Zys : List D) : Znr m (n0 + 1) Zlk Zpz Zp8 Zns Zys =
 (cond (decide (Zns < Zp8))
 (if 0 ≤ Zns ∧ Zns < (Zpz : Int) then
 (rdI .u32 Zys[(Zlk + ((Int.toNat Zns) * 1))]?).bind fun x10 =>
 cond (x10 != (0 : Int))
 (some (D.v (.int .i64 (1 : Int))))
 (Znr m n0 Zlk Zpz Zp8 (IntKind.wrap .i64 (Zns + (1 : Int))) Zys)
 else none)
 (some zI)) := by kernel_rfl
theorem Z17f (m : Nat) (Z1d5 : List D) : Zj0 m Z1d5 =
 ((rdI .u8 Z1d5[0]?).bind fun x7 =>
 if 0 ≤ x7 ∧ x7 ≤ (16 : Int) then
 Znr m m (1 + ((Int.toNat x7) * 1)) (16 - (Int.toNat x7)) (((16 - (Int.toNat x7)) : Nat) : Int) (0 : Int) Z1d5
 else none) := (Zms m _).trans (by kernel_rfl)
theorem Z17g (m : Nat) (Zsk : List D) : Z128 m Zsk =
 ((rdI .u32 Zsk[1]?).bind fun x4 =>
 cond (decide (x4 < (2 : Int)))
 ((rdI .u32 Zsk[2]?).bind fun x5 =>
 cond (decide (x5 > (39 : Int)))
 (some (D.v (.int .i64 (1 : Int))))
 ((rdI .u32 Zsk[2]?).bind fun x6 =>
 cond (decide (x6 > (4294967215 : Int)))
 (some (D.v (.int .i64 (1 : Int))))
 (Zj0 m Zsk)))
 ((rdI .u32 Zsk[2]?).bind fun x11 =>
 cond (decide (x11 > (4294967215 : Int)))
 (some (D.v (.int .i64 (1 : Int))))
 (Zj0 m Zsk))) := (Zms m _).trans (by kernel_rfl)
noncomputable def Zt1 (m : Nat) (a0 : List D) : Option D :=
 if (List.length a0) = 17 then
 (rdI .u8 a0[0]?).bind fun x1 =>
 cond (decide (x1 < (2 : Int)))
 (some (D.v (.int .i64 (1 : Int))))
 ((rdI .u8 a0[0]?).bind fun x2 =>
 cond (decide (x2 > (16 : Int)))
 (some (D.v (.int .i64 (1 : Int))))
 ((rdI .u32 a0[1]?).bind fun x3 =>
 cond (decide (x3 > (2 : Int)))
 (some (D.v (.int .i64 (1 : Int))))
 (Z128 m a0)))
 else none
theorem Z1bo (m : Nat) (a0 : List D) : funD Tg Z2f m 4 Z10 Tryz.f117 [(D.agg a0)] = Zt1 m a0 := by kernel_rfl
theorem Z1f3 : Enters Tg 117 := ⟨Tryz.f117,Tryz.func117,by kernel_rfl,by kernel_rfl⟩
theorem Z1f4 {ds : List D} {d : D} (h : funD Tg Z2f M 4 Z10 Tryz.f117 ds = some d) : DataSem Tg 117 ds d := Z0 (H := Z2f) SpOk.nil mixed InlOk.nil Tryz.func117 Z1f3 h
noncomputable def Zj1 : List D → Option D
 | [.agg a0] => Zt1 M a0
 | _ => none
theorem Z1f5 : ∀ ds d,Zj1 ds = some d → DataSem Tg 117 ds d := by
 intro ds d h
 unfold Zj1 at h
 split at h
 ·exact Z1f4 ((Z1bo M _).trans h)
 ·cases h
def Z42 : FnH := ⟨[],[]⟩
def Zan : FnH := ⟨[],[]⟩
noncomputable def Zd5 : Hints := ⟨[],[(237,Tryz.f237,Zan)],[]⟩
noncomputable def Z6y (m : Nat) (a0 : Int) (a1 : Int) : Option D :=
 cond (a0 != a0)
 (cond (a1 != a1)
 (some zI)
 (some (D.v (.int .i64 (-1 : Int)))))
 (cond (a1 != a1)
 (some (D.v (.int .i64 (1 : Int))))
 (cond (decide (a0 < a1))
 (some (D.v (.int .i64 (-1 : Int))))
 (cond (decide (a0 > a1))
 (some (D.v (.int .i64 (1 : Int))))
 (some zI))))
theorem Zy8 (m : Nat) (a0 : Int) (a1 : Int) : funD Tg Zd5 m 4 Z42 Tryz.f208 [(D.v (.int .u32 a0)),(D.v (.int .u32 a1))] = Z6y m a0 a1 := by kernel_rfl
theorem Z129 : Enters Tg 208 := ⟨Tryz.f208,Tryz.func208,by kernel_rfl,by kernel_rfl⟩
theorem Z12a {ds : List D} {d : D} (h : funD Tg Zd5 M 4 Z42 Tryz.f208 ds = some d) : DataSem Tg 208 ds d := Z0 (H := Zd5) SpOk.nil mixed (InlOk.cons Tryz.func237 Z14k InlOk.nil) Tryz.func208 Z129 h
noncomputable def Z4i : List D → Option D
 | [.v (.int .u32 a0),.v (.int .u32 a1)] => Z6y M a0 a1
 | _ => none
theorem Z12b : ∀ ds d,Z4i ds = some d → DataSem Tg 208 ds d := by
 intro ds d h
 unfold Z4i at h
 split at h
 ·exact Z12a ((Zy8 M _ _).trans h)
 ·cases h
def Zd : FnH := ⟨[(2,⟨(bm 3587 36),[],(some 0),none⟩)],[]⟩
noncomputable def Zs : Hints := ⟨[(208,Z4i)],[],[]⟩
noncomputable def Z2c (m n0 : Nat) (Zlk : Nat) (Zpz : Option Nat) (Zp8 : List D) (Zns : Nat) (Zys : Option Nat) (Z1jg : List D) (Z1f6 : Int) (Z1jh : Int) : Option D :=
 Ziu (bm 3587 36) 0 0 (codeK Tg Zs.sp ⟨0,[],false,[]⟩ (inlK Tg Zs m 4) m Zd (subc [1,0,1,0,0] (bodyOf Tryz.f177))) n0 ⟨[(AV.d (D.list Zlk Zpz Zp8)),(AV.d (D.list Zns Zys Z1jg)),Jk,Jk,Jk,Jk,Jk,Jk,Jk,(AV.d (D.list Zlk Zpz Zp8)),(AV.d (D.v (.int .i64 Z1f6))),(AV.d (D.v (.int .i64 Z1jh))),Jk,Jk,Jk,Jk,Jk,Jk,Jk,Jk,Jk,Jk,Jk,Jk,Jk,Jk,Jk,Jk,Jk,Jk,Jk,Jk,Jk,Jk,Jk,Jk],[]⟩
  (contK Tg Zs.sp ⟨0,[],false,[]⟩ (inlK Tg Zs m 4) m Zd (endK Tg Tryz.f177 endV) [.block 0,.code (subc [1,1] (bodyOf Tryz.f177))])
theorem Zhm (m n0 : Nat) (Zlk : Nat) (Zpz : Option Nat) (Zp8 : List D) (Zns : Nat) (Zys : Option Nat) (Z1jg : List D) (Z1f6 : Int) (Z1jh : Int) : Z2c m (n0 + 1) Zlk Zpz Zp8 Zns Zys Z1jg Z1f6 Z1jh =
 (cond (decide (Z1jh < Z1f6))
 (if 0 ≤ Z1jh ∧ Z1jh < (Zlk : Int) then
 (rdI .u32 Zp8[((Int.toNat Z1jh) * 1)]?).bind fun x9 =>
 cond (decide (Z1jh ≥ (Zns : Int)))
 (some (D.v (.int .i64 (1 : Int))))
 (if 0 ≤ Z1jh ∧ Z1jh < (Zns : Int) then
 (rdI .u32 Z1jg[((Int.toNat Z1jh) * 1)]?).bind fun x10 =>
 (Z4i [(D.v (.int .u32 x9)),(D.v (.int .u32 x10))]).bind fun d11 =>
 (rdI .i64 (some d11)).bind fun x12 =>
 cond (x12 != (0 : Int))
 (some (D.v (.int .i64 x12)))
 (Z2c m n0 Zlk Zpz Zp8 Zns Zys Z1jg Z1f6 (IntKind.wrap .i64 (Z1jh + (1 : Int))))
 else none)
 else none)
 (cond (decide ((Zlk : Int) < (Zns : Int)))
 (some (D.v (.int .i64 (-1 : Int))))
 (some zI))) := by kernel_rfl
noncomputable def Z7p (m : Nat) (a0n : Nat) (a0c : Option Nat) (a0 : List D) (a1n : Nat) (a1c : Option Nat) (a1 : List D) : Option D :=
 Z2c m m a0n a0c a0 a1n a1c a1 (a0n : Int) (0 : Int)
theorem Zj2 (m : Nat) (a0n : Nat) (a0c : Option Nat) (a0 : List D) (a1n : Nat) (a1c : Option Nat) (a1 : List D) : funD Tg Zs m 4 Zd Tryz.f177 [(D.list a0n a0c a0),(D.list a1n a1c a1)] = Z7p m a0n a0c a0 a1n a1c a1 := by kernel_rfl
theorem Zmx : Enters Tg 177 := ⟨Tryz.f177,Tryz.func177,by kernel_rfl,by kernel_rfl⟩
theorem Zmy {ds : List D} {d : D} (h : funD Tg Zs M 4 Zd Tryz.f177 ds = some d) : DataSem Tg 177 ds d := Z0 (H := Zs) (SpOk.cons Z12b SpOk.nil) mixed InlOk.nil Tryz.func177 Zmx h
noncomputable def Z1q : List D → Option D
 | [.list a0n a0c a0,.list a1n a1c a1] => Z7p M a0n a0c a0 a1n a1c a1
 | _ => none
theorem Zmz : ∀ ds d,Z1q ds = some d → DataSem Tg 177 ds d := by
 intro ds d h
 unfold Z1q at h
 split at h
 ·exact Zmy ((Zj2 M _ _ _ _ _ _).trans h)
 ·cases h
def Z8h : FnH := ⟨[],[]⟩
def Zsl : FnH := ⟨[],[]⟩
noncomputable def Zuk : Hints := ⟨[(177,Z1q)],[(178,Tryz.f178,Zsl)],[]⟩
noncomputable def Znt (m : Nat) (a0 : List D) (a1 : List D) : Option D :=
 if (List.length a0) = 17 then
 if (List.length a1) = 17 then
 (rdI .u8 a0[0]?).bind fun x1 =>
 if 0 ≤ (mm true (IntKind.wrap .i64 x1) (16 : Int)) ∧ (mm true (IntKind.wrap .i64 x1) (16 : Int)) ≤ (16 : Int) then
 (rdI .u8 a1[0]?).bind fun x2 =>
 if 0 ≤ (mm true (IntKind.wrap .i64 x2) (16 : Int)) ∧ (mm true (IntKind.wrap .i64 x2) (16 : Int)) ≤ (16 : Int) then
 if (1 + (((Int.toNat (mm true (IntKind.wrap .i64 x1) (16 : Int))) - 0) * 1)) ≤ 17 then
 if (1 + (((Int.toNat (mm true (IntKind.wrap .i64 x2) (16 : Int))) - 0) * 1)) ≤ 17 then
 (Z1q [(D.list ((Int.toNat (mm true (IntKind.wrap .i64 x1) (16 : Int))) - 0) (some 16) (cutL 17 a0 1 (((Int.toNat (mm true (IntKind.wrap .i64 x1) (16 : Int))) - 0) * 1))),(D.list ((Int.toNat (mm true (IntKind.wrap .i64 x2) (16 : Int))) - 0) (some 16) (cutL 17 a1 1 (((Int.toNat (mm true (IntKind.wrap .i64 x2) (16 : Int))) - 0) * 1)))]).bind fun d3 =>
 (rdI .i64 (some d3)).bind fun x4 =>
 some (D.v (.int .i64 x4))
 else none
 else none
 else none
 else none
 else none
 else none
theorem Z17h (m : Nat) (a0 : List D) (a1 : List D) : funD Tg Zuk m 4 Z8h Tryz.f144 [(D.agg a0),(D.agg a1)] = Znt m a0 a1 := by kernel_rfl
theorem Z1bp : Enters Tg 144 := ⟨Tryz.f144,Tryz.func144,by kernel_rfl,by kernel_rfl⟩
theorem Z1bq {ds : List D} {d : D} (h : funD Tg Zuk M 4 Z8h Tryz.f144 ds = some d) : DataSem Tg 144 ds d := Z0 (H := Zuk) (SpOk.cons Zmz SpOk.nil) mixed (InlOk.cons Tryz.func178 Z1gf InlOk.nil) Tryz.func144 Z1bp h
noncomputable def Zao : List D → Option D
 | [.agg a0,.agg a1] => Znt M a0 a1
 | _ => none
theorem Z12c : ∀ ds d,Zao ds = some d → DataSem Tg 144 ds d := by
 intro ds d h
 unfold Zao at h
 split at h
 ·exact Z1bq ((Z17h M _ _).trans h)
 ·cases h
def Z2h : FnH := ⟨[(4,⟨(bm 7169 38),[],(some 0),none⟩)],[]⟩
noncomputable def Z5j : Hints := ⟨[(117,Zj1),(144,Zao)],[],[]⟩
noncomputable def Z72 (m n0 : Nat) (Zlk : Nat) (Zpz : Option Nat) (Zp8 : List D) (Zns : Int) (Zys : Int) : Option D :=
 Ziu (bm 7169 38) 0 0 (codeK Tg Z5j.sp ⟨0,[],false,[]⟩ (inlK Tg Z5j m 4) m Z2h (subc [1,1,0,1,0,0] (bodyOf Tryz.f153))) n0 ⟨[(AV.d (D.list Zlk Zpz Zp8)),Jk,Jk,Jk,Jk,Jk,Jk,Jk,Jk,Jk,(AV.d (D.list Zlk Zpz Zp8)),(AV.d (D.v (.int .i64 Zns))),(AV.d (D.v (.int .i64 Zys))),Jk,Jk,Jk,Jk,Jk,Jk,Jk,Jk,Jk,Jk,Jk,Jk,Jk,Jk,Jk,Jk,Jk,Jk,Jk,Jk,Jk,Jk,Jk,Jk,Jk],[]⟩
  (contK Tg Z5j.sp ⟨0,[],false,[]⟩ (inlK Tg Z5j m 4) m Z2h (endK Tg Tryz.f153 endV) [.block 0,.code (subc [1,1,1] (bodyOf Tryz.f153))])
theorem Z14m (m n0 : Nat) (Zlk : Nat) (Zpz : Option Nat) (Zp8 : List D) (Zns : Int) (Zys : Int) : Z72 m (n0 + 1) Zlk Zpz Zp8 Zns Zys =
 (cond (decide (Zys < Zns))
 (if 0 ≤ Zys ∧ Zys < (Zlk : Int) then
 if (((Int.toNat Zys) * 17) + 17) ≤ (List.length Zp8) then
 if (List.length ((List.drop ((Int.toNat Zys) * 17) Zp8).take 17)) = 17 then
 (Zj1 [(D.agg ((List.drop ((Int.toNat Zys) * 17) Zp8).take 17))]).bind fun d7 =>
 (rdI .i64 (some d7)).bind fun x8 =>
 cond (x8 != (0 : Int))
 (some (D.v (.int .i64 x8)))
 (cond (Zys == (0 : Int))
 (Z72 m n0 Zlk Zpz Zp8 Zns (IntKind.wrap .i64 (Zys + (1 : Int))))
 (if 0 ≤ (IntKind.wrap .i64 (Zys - (1 : Int))) ∧ (IntKind.wrap .i64 (Zys - (1 : Int))) < (Zlk : Int) then
 if (((Int.toNat (IntKind.wrap .i64 (Zys - (1 : Int)))) * 17) + 17) ≤ (List.length Zp8) then
 (Zao [(D.agg ((List.drop ((Int.toNat (IntKind.wrap .i64 (Zys - (1 : Int)))) * 17) Zp8).take 17)),(D.agg ((List.drop ((Int.toNat Zys) * 17) Zp8).take 17))]).bind fun d9 =>
 (rdI .i64 (some d9)).bind fun x10 =>
 cond (x10 == (0 : Int))
 (some (D.v (.int .i64 (14 : Int))))
 (cond (decide (x10 > (0 : Int)))
 (some (D.v (.int .i64 (13 : Int))))
 (Z72 m n0 Zlk Zpz Zp8 Zns (IntKind.wrap .i64 (Zys + (1 : Int)))))
 else none
 else none))
 else none
 else none
 else none)
 (some zI)) := by kernel_rfl
noncomputable def Zj3 (m : Nat) (a0n : Nat) (a0c : Option Nat) (a0 : List D) : Option D :=
 cond (decide ((a0n : Int) > (256 : Int)))
 (some (D.v (.int .i64 (3 : Int))))
 (Z72 m m a0n a0c a0 (a0n : Int) (0 : Int))
theorem Z15l (m : Nat) (a0n : Nat) (a0c : Option Nat) (a0 : List D) : funD Tg Z5j m 4 Z2h Tryz.f153 [(D.list a0n a0c a0)] = Zj3 m a0n a0c a0 := by kernel_rfl
theorem Z19b : Enters Tg 153 := ⟨Tryz.f153,Tryz.func153,by kernel_rfl,by kernel_rfl⟩
theorem Z19c {ds : List D} {d : D} (h : funD Tg Z5j M 4 Z2h Tryz.f153 ds = some d) : DataSem Tg 153 ds d := Z0 (H := Z5j) (SpOk.cons Z1f5 (SpOk.cons Z12c SpOk.nil)) mixed InlOk.nil Tryz.func153 Z19b h
noncomputable def Z8i : List D → Option D
 | [.list a0n a0c a0] => Zj3 M a0n a0c a0
 | _ => none
theorem Z19d : ∀ ds d,Z8i ds = some d → DataSem Tg 153 ds d := by
 intro ds d h
 unfold Z8i at h
 split at h
 ·exact Z19c ((Z15l M _ _ _).trans h)
 ·cases h
def Z68 : FnH := ⟨[],[]⟩
noncomputable def Zp9 : Hints := ⟨[(153,Z8i)],[],[]⟩
noncomputable def Zfp (m : Nat) (a0_0n : Nat) (a0_0c : Option Nat) (a0_0 : List D) (a0_1 : Bool) (a0_2 : Bool) (a0_3 : Bool) : Option D :=
 (Z8i [(D.list a0_0n a0_0c a0_0)]).bind fun d1 =>
 (rdI .i64 (some d1)).bind fun x2 =>
 some (D.v (.int .i64 x2))
theorem Z14n (m : Nat) (a0_0n : Nat) (a0_0c : Option Nat) (a0_0 : List D) (a0_1 : Bool) (a0_2 : Bool) (a0_3 : Bool) : funD Tg Zp9 m 4 Z68 Tryz.f103 [(D.agg [(D.list a0_0n a0_0c a0_0),(D.v (.bool a0_1)),(D.v (.bool a0_2)),(D.v (.bool a0_3))])] = Zfp m a0_0n a0_0c a0_0 a0_1 a0_2 a0_3 := by kernel_rfl
theorem Z17i : Enters Tg 103 := ⟨Tryz.f103,Tryz.func103,by kernel_rfl,by kernel_rfl⟩
theorem Z17j {ds : List D} {d : D} (h : funD Tg Zp9 M 4 Z68 Tryz.f103 ds = some d) : DataSem Tg 103 ds d := Z0 (H := Zp9) (SpOk.cons Z19d SpOk.nil) mixed InlOk.nil Tryz.func103 Z17i h
noncomputable def Z73 : List D → Option D
 | [.agg [.list a0_0n a0_0c a0_0,.v (.bool a0_1),.v (.bool a0_2),.v (.bool a0_3)]] => Zfp M a0_0n a0_0c a0_0 a0_1 a0_2 a0_3
 | _ => none
theorem Z17k : ∀ ds d,Z73 ds = some d → DataSem Tg 103 ds d := by
 intro ds d h
 unfold Z73 at h
 split at h
 ·exact Z17j ((Z14n M _ _ _ _ _ _).trans h)
 ·cases h
def Z1r : FnH := ⟨[(4,⟨(bm 10 46),[],(some 1),none⟩)],[(3,⟨(bm 2 46),[],(some 1),none⟩)]⟩
noncomputable def Z3k : Hints := ⟨[],[],[]⟩
noncomputable def Zyt (m : Nat) (Zsk : List D) : Option D :=
 cutK m (codeK Tg Z3k.sp ⟨0,[],false,[]⟩ (inlK Tg Z3k m 4) m Z1r (subc [1,1] (bodyOf Tryz.f77)) ⟨[Jk,(AV.ptr 0 0),Jk,Jk,Jk,Jk,Jk,Jk,Jk,Jk,Jk,Jk,Jk,Jk,Jk,Jk,Jk,Jk,Jk,Jk,Jk,Jk,Jk,Jk,Jk,Jk,Jk,Jk,Jk,Jk,Jk,Jk,Jk,Jk,Jk,Jk,Jk,Jk,Jk,Jk,Jk,Jk,Jk,Jk,Jk,Jk],[(Blk.d 17 Zsk)]⟩
  (contK Tg Z3k.sp ⟨0,[],false,[]⟩ (inlK Tg Z3k m 4) m Z1r (endK Tg Tryz.f77 endV) []))
noncomputable def Zj4 (m n0 : Nat) (Zlk : Int) (Zpz : List D) : Option D :=
 Ziu (bm 10 46) 0 1 (codeK Tg Z3k.sp ⟨0,[],false,[]⟩ (inlK Tg Z3k m 4) m Z1r (subc [1,1,0,1,0,0] (bodyOf Tryz.f77))) n0 ⟨[Jk,(AV.ptr 0 0),Jk,(AV.d (D.v (.int .i64 Zlk))),Jk,Jk,Jk,Jk,Jk,Jk,Jk,Jk,Jk,Jk,Jk,Jk,Jk,Jk,Jk,Jk,Jk,Jk,Jk,Jk,Jk,Jk,Jk,Jk,Jk,Jk,Jk,Jk,Jk,Jk,Jk,Jk,Jk,Jk,Jk,Jk,Jk,Jk,Jk,Jk,Jk,Jk],[(Blk.d 17 Zpz)]⟩
  (contK Tg Z3k.sp ⟨0,[],false,[]⟩ (inlK Tg Z3k m 4) m Z1r (endK Tg Tryz.f77 endV) [.block 0,.code (subc [1,1,1] (bodyOf Tryz.f77))])
theorem Z17l (m n0 : Nat) (Zlk : Int) (Zpz : List D) : Zj4 m (n0 + 1) Zlk Zpz =
 (cond (decide (Zlk < (16 : Int)))
 (if 0 ≤ Zlk ∧ Zlk < (16 : Int) then
 (rdI .u32 Zpz[(1 + ((Int.toNat Zlk) * 1))]?).bind fun x5 =>
 cond (x5 != (0 : Int))
 (some (D.v (.int .i64 (1 : Int))))
 (Zj4 m n0 (IntKind.wrap .i64 (Zlk + (1 : Int))) Zpz)
 else none)
 ((rdI .u32 Zpz[1]?).bind fun x6 =>
 cond (decide (x6 < (2 : Int)))
 ((rdI .u32 Zpz[2]?).bind fun x7 =>
 cond (decide (x7 < (40 : Int)))
 (some zI)
 ((rdI .u32 Zpz[1]?).bind fun x8 =>
 cond (x8 == (2 : Int))
 ((rdI .u32 Zpz[2]?).bind fun x9 =>
 cond (decide (x9 ≤ (4294967215 : Int)))
 (some zI)
 (some (D.v (.int .i64 (1 : Int)))))
 (some (D.v (.int .i64 (1 : Int))))))
 ((rdI .u32 Zpz[1]?).bind fun x10 =>
 cond (x10 == (2 : Int))
 ((rdI .u32 Zpz[2]?).bind fun x11 =>
 cond (decide (x11 ≤ (4294967215 : Int)))
 (some zI)
 (some (D.v (.int .i64 (1 : Int)))))
 (some (D.v (.int .i64 (1 : Int))))))) := by kernel_rfl
theorem Z15m (m : Nat) (Zsk : List D) : Zyt m Zsk =
 ((rdI .u8 Zsk[0]?).bind fun x3 =>
 Zj4 m m (IntKind.wrap .i64 x3) Zsk) := (Zms m _).trans (by kernel_rfl)
noncomputable def Zqe (m : Nat) (a0 : List D) : Option D :=
 if (List.length a0) = 17 then
 (rdI .u8 a0[0]?).bind fun x1 =>
 cond (decide (x1 < (2 : Int)))
 (some (D.v (.int .i64 (1 : Int))))
 ((rdI .u8 a0[0]?).bind fun x2 =>
 cond (decide (x2 > (16 : Int)))
 (some (D.v (.int .i64 (1 : Int))))
 (Zyt m a0))
 else none
theorem Z19e (m : Nat) (a0 : List D) : funD Tg Z3k m 4 Z1r Tryz.f77 [(D.agg a0)] = Zqe m a0 := by kernel_rfl
theorem Z1d6 : Enters Tg 77 := ⟨Tryz.f77,Tryz.func77,by kernel_rfl,by kernel_rfl⟩
theorem Z1d7 {ds : List D} {d : D} (h : funD Tg Z3k M 4 Z1r Tryz.f77 ds = some d) : DataSem Tg 77 ds d := Z0 (H := Z3k) SpOk.nil mixed InlOk.nil Tryz.func77 Z1d6 h
noncomputable def Zed : List D → Option D
 | [.agg a0] => Zqe M a0
 | _ => none
theorem Z1d8 : ∀ ds d,Zed ds = some d → DataSem Tg 77 ds d := by
 intro ds d h
 unfold Zed at h
 split at h
 ·exact Z1d7 ((Z19e M _).trans h)
 ·cases h
def Zi : FnH := ⟨[(3,⟨(bm 236 50),[],(some 2),none⟩)],[(5,⟨(bm 236 50),[],(some 2),none⟩),(9,⟨(bm 96 50),[],(some 0),none⟩)]⟩
noncomputable def Z15 : Hints := ⟨[],[],[]⟩
noncomputable def Zbz (m n0 : Nat) (Zlk : Int) (Zpz : Int) (Zp8 : Int) (Zns : List D) (Zys : List D) : Option D :=
 Ziu (bm 236 50) 0 2 (codeK Tg Z15.sp ⟨0,[],false,[]⟩ (inlK Tg Z15 m 4) m Zi (subc [1,1,0,1,0,0] (bodyOf Tryz.f78))) n0 ⟨[Jk,Jk,(AV.ptr 0 0),(AV.ptr 1 0),Jk,(AV.d (D.v (.int .i64 Zlk))),(AV.d (D.v (.int .i64 Zpz))),(AV.d (D.v (.int .i64 Zp8))),Jk,Jk,Jk,Jk,Jk,Jk,Jk,Jk,Jk,Jk,Jk,Jk,Jk,Jk,Jk,Jk,Jk,Jk,Jk,Jk,Jk,Jk,Jk,Jk,Jk,Jk,Jk,Jk,Jk,Jk,Jk,Jk,Jk,Jk,Jk,Jk,Jk,Jk,Jk,Jk,Jk,Jk],[(Blk.d 17 Zns),(Blk.d 17 Zys)]⟩
  (contK Tg Z15.sp ⟨0,[],false,[]⟩ (inlK Tg Z15 m 4) m Zi (endK Tg Tryz.f78 endV) [.block 0,.code (subc [1,1,1] (bodyOf Tryz.f78))])
noncomputable def Zt2 (m n0 : Nat) (Zsk : Int) (Z170 : Int) (Zyu : Int) (Z15n : List D) (Z19f : List D) : Option D :=
 cutK m (codeK Tg Z15.sp ⟨0,[],false,[]⟩ (inlK Tg Z15 m 4) m Zi (subc [1,1,0,1,0,0,1] (bodyOf Tryz.f78)) ⟨[Jk,Jk,(AV.ptr 0 0),(AV.ptr 1 0),Jk,(AV.d (D.v (.int .i64 Zsk))),(AV.d (D.v (.int .i64 Z170))),(AV.d (D.v (.int .i64 Zyu))),Jk,Jk,Jk,Jk,Jk,Jk,Jk,Jk,Jk,Jk,Jk,Jk,Jk,Jk,Jk,Jk,Jk,Jk,Jk,Jk,Jk,Jk,Jk,Jk,Jk,Jk,Jk,Jk,Jk,Jk,Jk,Jk,Jk,Jk,Jk,Jk,Jk,Jk,Jk,Jk,Jk,Jk],[(Blk.d 17 Z15n),(Blk.d 17 Z19f)]⟩
  (contK Tg Z15.sp ⟨0,[],false,[]⟩ (inlK Tg Z15 m 4) m Zi (endK Tg Tryz.f78 endV) [.loop (bm 236 50) 2 (subc [1,1,0,1,0,0] (bodyOf Tryz.f78)) n0,.block 0,.code (subc [1,1,1] (bodyOf Tryz.f78))]))
theorem Z13t (m n0 : Nat) (Zsk : Int) (Z170 : Int) (Zyu : Int) (Z15n : List D) (Z19f : List D) : Zt2 m n0 Zsk Z170 Zyu Z15n Z19f =
 (if 0 ≤ Zyu ∧ Zyu < (16 : Int) then
 (rdI .u32 Z15n[(1 + ((Int.toNat Zyu) * 1))]?).bind fun x11 =>
 if 0 ≤ Zyu ∧ Zyu < (16 : Int) then
 (rdI .u32 Z19f[(1 + ((Int.toNat Zyu) * 1))]?).bind fun x12 =>
 cond (decide (x11 < x12))
 (some (D.v (.int .i64 (-1 : Int))))
 (if 0 ≤ Zyu ∧ Zyu < (16 : Int) then
 (rdI .u32 Z15n[(1 + ((Int.toNat Zyu) * 1))]?).bind fun x13 =>
 if 0 ≤ Zyu ∧ Zyu < (16 : Int) then
 (rdI .u32 Z19f[(1 + ((Int.toNat Zyu) * 1))]?).bind fun x14 =>
 cond (decide (x13 > x14))
 (some (D.v (.int .i64 (1 : Int))))
 (Zbz m n0 Zsk Z170 (IntKind.wrap .i64 (Zyu + (1 : Int))) Z15n Z19f)
 else none
 else none)
 else none
 else none) := (Zms m _).trans (by kernel_rfl)
noncomputable def Zj5 (m : Nat) (Z1d5 : Int) (Z1h9 : Int) : Option D :=
 cutK m (codeK Tg Z15.sp ⟨0,[],false,[]⟩ (inlK Tg Z15 m 4) m Zi (subc [1,1,1] (bodyOf Tryz.f78)) ⟨[Jk,Jk,Jk,Jk,Jk,(AV.d (D.v (.int .i64 Z1d5))),(AV.d (D.v (.int .i64 Z1h9))),Jk,Jk,Jk,Jk,Jk,Jk,Jk,Jk,Jk,Jk,Jk,Jk,Jk,Jk,Jk,Jk,Jk,Jk,Jk,Jk,Jk,Jk,Jk,Jk,Jk,Jk,Jk,Jk,Jk,Jk,Jk,Jk,Jk,Jk,Jk,Jk,Jk,Jk,Jk,Jk,Jk,Jk,Jk],[]⟩
  (contK Tg Z15.sp ⟨0,[],false,[]⟩ (inlK Tg Z15 m 4) m Zi (endK Tg Tryz.f78 endV) []))
theorem Z13u (m : Nat) (Z1d5 : Int) (Z1h9 : Int) : Zj5 m Z1d5 Z1h9 =
 (cond (decide (Z1d5 < Z1h9))
 (some (D.v (.int .i64 (-1 : Int))))
 (cond (decide (Z1d5 > Z1h9))
 (some (D.v (.int .i64 (1 : Int))))
 (some zI))) := (Zms m _).trans (by kernel_rfl)
theorem Z14o (m n0 : Nat) (Zlk : Int) (Zpz : Int) (Zp8 : Int) (Zns : List D) (Zys : List D) : Zbz m (n0 + 1) Zlk Zpz Zp8 Zns Zys =
 (cond (decide (Zp8 < Zlk))
 (cond (decide (Zp8 < Zpz))
 (Zt2 m n0 Zlk Zpz Zp8 Zns Zys)
 (Zj5 m Zlk Zpz))
 (Zj5 m Zlk Zpz)) := by kernel_rfl
noncomputable def Zj6 (m : Nat) (a0 : List D) (a1 : List D) : Option D :=
 if (List.length a0) = 17 then
 if (List.length a1) = 17 then
 (rdI .u8 a0[0]?).bind fun x1 =>
 (rdI .u8 a1[0]?).bind fun x2 =>
 Zbz m m (mm true (IntKind.wrap .i64 x1) (16 : Int)) (mm true (IntKind.wrap .i64 x2) (16 : Int)) (0 : Int) a0 a1
 else none
 else none
theorem Z15o (m : Nat) (a0 : List D) (a1 : List D) : funD Tg Z15 m 4 Zi Tryz.f78 [(D.agg a0),(D.agg a1)] = Zj6 m a0 a1 := by kernel_rfl
theorem Z19g : Enters Tg 78 := ⟨Tryz.f78,Tryz.func78,by kernel_rfl,by kernel_rfl⟩
theorem Z19h {ds : List D} {d : D} (h : funD Tg Z15 M 4 Zi Tryz.f78 ds = some d) : DataSem Tg 78 ds d := Z0 (H := Z15) SpOk.nil mixed InlOk.nil Tryz.func78 Z19g h
noncomputable def Z8j : List D → Option D
 | [.agg a0,.agg a1] => Zj6 M a0 a1
 | _ => none
theorem Z19i : ∀ ds d,Z8j ds = some d → DataSem Tg 78 ds d := by
 intro ds d h
 unfold Z8j at h
 split at h
 ·exact Z19h ((Z15o M _ _).trans h)
 ·cases h
def Z1s : FnH := ⟨[(4,⟨(bm 9 36),[],(some 0),none⟩)],[(5,⟨(bm 9 36),[],(some 0),none⟩)]⟩
noncomputable def Z3l : Hints := ⟨[(77,Zed),(78,Z8j)],[],[]⟩
noncomputable def Zj7 (m n0 : Nat) (Zlk : Nat) (Zpz : Option Nat) (Zp8 : List D) (Zns : Int) : Option D :=
 Ziu (bm 9 36) 0 0 (codeK Tg Z3l.sp ⟨0,[],false,[]⟩ (inlK Tg Z3l m 4) m Z1s (subc [1,1,0,1,0,0] (bodyOf Tryz.f22))) n0 ⟨[(AV.d (D.list Zlk Zpz Zp8)),Jk,Jk,(AV.d (D.v (.int .i64 Zns))),Jk,Jk,Jk,Jk,Jk,Jk,Jk,Jk,Jk,Jk,Jk,Jk,Jk,Jk,Jk,Jk,Jk,Jk,Jk,Jk,Jk,Jk,Jk,Jk,Jk,Jk,Jk,Jk,Jk,Jk,Jk,Jk],[]⟩
  (contK Tg Z3l.sp ⟨0,[],false,[]⟩ (inlK Tg Z3l m 4) m Z1s (endK Tg Tryz.f22 endV) [.block 0,.code (subc [1,1,1] (bodyOf Tryz.f22))])
noncomputable def Zpa (m n0 : Nat) (Zsk : Nat) (Z170 : Option Nat) (Zyu : List D) (Z15n : Int) : Option D :=
 cutK m (codeK Tg Z3l.sp ⟨0,[],false,[]⟩ (inlK Tg Z3l m 4) m Z1s (subc [1,1,0,1,0,0,1,1] (bodyOf Tryz.f22)) ⟨[(AV.d (D.list Zsk Z170 Zyu)),Jk,Jk,(AV.d (D.v (.int .i64 Z15n))),Jk,Jk,Jk,Jk,Jk,Jk,Jk,Jk,Jk,Jk,Jk,Jk,Jk,Jk,Jk,Jk,Jk,Jk,Jk,Jk,Jk,Jk,Jk,Jk,Jk,Jk,Jk,Jk,Jk,Jk,Jk,Jk],[]⟩
  (contK Tg Z3l.sp ⟨0,[],false,[]⟩ (inlK Tg Z3l m 4) m Z1s (endK Tg Tryz.f22 endV) [.loop (bm 9 36) 0 (subc [1,1,0,1,0,0] (bodyOf Tryz.f22)) n0,.block 0,.code (subc [1,1,1] (bodyOf Tryz.f22))]))
theorem Z15p (m n0 : Nat) (Zsk : Nat) (Z170 : Option Nat) (Zyu : List D) (Z15n : Int) : Zpa m n0 Zsk Z170 Zyu Z15n =
 (Zj7 m n0 Zsk Z170 Zyu (IntKind.wrap .i64 (Z15n + (1 : Int)))) := (Zms m _).trans (by kernel_rfl)
theorem Z17m (m n0 : Nat) (Zlk : Nat) (Zpz : Option Nat) (Zp8 : List D) (Zns : Int) : Zj7 m (n0 + 1) Zlk Zpz Zp8 Zns =
 (cond (decide (Zns < (Zlk : Int)))
 (if 0 ≤ Zns ∧ Zns < (Zlk : Int) then
 if (((Int.toNat Zns) * 17) + 17) ≤ (List.length Zp8) then
 (Zed [(D.agg ((List.drop ((Int.toNat Zns) * 17) Zp8).take 17))]).bind fun d7 =>
 (rdI .i64 (some d7)).bind fun x8 =>
 cond (x8 != (0 : Int))
 (some (D.v (.int .i64 (1 : Int))))
 (cond (decide (Zns > (0 : Int)))
 (if 0 ≤ (IntKind.wrap .i64 (Zns - (1 : Int))) ∧ (IntKind.wrap .i64 (Zns - (1 : Int))) < (Zlk : Int) then
 if (((Int.toNat (IntKind.wrap .i64 (Zns - (1 : Int)))) * 17) + 17) ≤ (List.length Zp8) then
 if 0 ≤ Zns ∧ Zns < (Zlk : Int) then
 if (((Int.toNat Zns) * 17) + 17) ≤ (List.length Zp8) then
 (Z8j [(D.agg ((List.drop ((Int.toNat (IntKind.wrap .i64 (Zns - (1 : Int)))) * 17) Zp8).take 17)),(D.agg ((List.drop ((Int.toNat Zns) * 17) Zp8).take 17))]).bind fun d9 =>
 (rdI .i64 (some d9)).bind fun x10 =>
 cond (x10 == (0 : Int))
 (some (D.v (.int .i64 (14 : Int))))
 (cond (decide (x10 > (0 : Int)))
 (some (D.v (.int .i64 (13 : Int))))
 (Zpa m n0 Zlk Zpz Zp8 Zns))
 else none
 else none
 else none
 else none)
 (Zpa m n0 Zlk Zpz Zp8 Zns))
 else none
 else none)
 (some zI)) := by kernel_rfl
noncomputable def Zqf (m : Nat) (a0n : Nat) (a0c : Option Nat) (a0 : List D) : Option D :=
 cond (decide ((a0n : Int) > (256 : Int)))
 (some (D.v (.int .i64 (3 : Int))))
 (Zj7 m m a0n a0c a0 (0 : Int))
theorem Z19j (m : Nat) (a0n : Nat) (a0c : Option Nat) (a0 : List D) : funD Tg Z3l m 4 Z1s Tryz.f22 [(D.list a0n a0c a0)] = Zqf m a0n a0c a0 := by kernel_rfl
theorem Z1d9 : Enters Tg 22 := ⟨Tryz.f22,Tryz.func22,by kernel_rfl,by kernel_rfl⟩
theorem Z1da {ds : List D} {d : D} (h : funD Tg Z3l M 4 Z1s Tryz.f22 ds = some d) : DataSem Tg 22 ds d := Z0 (H := Z3l) (SpOk.cons Z1d8 (SpOk.cons Z19i SpOk.nil)) mixed InlOk.nil Tryz.func22 Z1d9 h
noncomputable def Zee : List D → Option D
 | [.list a0n a0c a0] => Zqf M a0n a0c a0
 | _ => none
theorem Z1db : ∀ ds d,Zee ds = some d → DataSem Tg 22 ds d := by
 intro ds d h
 unfold Zee at h
 split at h
 ·exact Z1da ((Z19j M _ _ _).trans h)
 ·cases h
end Go.Ev