/- Functions of the given program in plain form,printed: each with the proof that it is what the evaluator comes to,and that the program function returns what it says. No conditions. -/
import Derived.Test.YtnghcoghbbapgaaGreatDoorEzK1
import Derived.Test.YtnghcoghbbapgaaGreatDoorEzK2
set_option linter.unusedVariables false
set_option maxRecDepth 100000
namespace Go.Ev
open Go Go.Proofs
def Z2f : FnH := ⟨[(6,⟨(bm 1924145348608 47),[],(some 1)⟩)],[(3,⟨(bm 2 47),[],(some 1)⟩),(5,⟨(bm 2 47),[],(some 1)⟩)]⟩
noncomputable def Z44 : Hints := ⟨[],[],[]⟩
noncomputable def Z17q (m : Nat) (Z2z : List D) : Option D :=
 cutK m (codeK Tg Z44.sp ⟨0,[],false,[]⟩ (inlK Tg Z44 m 4) m Z2f (subc [1,1] (bodyOf Tryz.f77)) ⟨[Jk,(AV.ptr 0 0),Jk,Jk,Jk,Jk,Jk,Jk,Jk,Jk,Jk,Jk,Jk,Jk,Jk,Jk,Jk,Jk,Jk,Jk,Jk,Jk,Jk,Jk,Jk,Jk,Jk,Jk,Jk,Jk,Jk,Jk,Jk,Jk,Jk,Jk,Jk,Jk,Jk,Jk,Jk,Jk,Jk,Jk,Jk,Jk,Jk],[(Blk.d 17 Z2z)]⟩
  (contK Tg Z44.sp ⟨0,[],false,[]⟩ (inlK Tg Z44 m 4) m Z2f (endK Tg Tryz.f77 endV) []))
noncomputable def Znr (m : Nat) (Zd7 : List D) : Option D :=
 cutK m (codeK Tg Z44.sp ⟨0,[],false,[]⟩ (inlK Tg Z44 m 4) m Z2f (subc [1,1,1] (bodyOf Tryz.f77)) ⟨[Jk,(AV.ptr 0 0),Jk,Jk,Jk,Jk,Jk,Jk,Jk,Jk,Jk,Jk,Jk,Jk,Jk,Jk,Jk,Jk,Jk,Jk,Jk,Jk,Jk,Jk,Jk,Jk,Jk,Jk,Jk,Jk,Jk,Jk,Jk,Jk,Jk,Jk,Jk,Jk,Jk,Jk,Jk,Jk,Jk,Jk,Jk,Jk,Jk],[(Blk.d 17 Zd7)]⟩
  (contK Tg Z44.sp ⟨0,[],false,[]⟩ (inlK Tg Z44 m 4) m Z2f (endK Tg Tryz.f77 endV) []))
noncomputable def Zrd (m n0 : Nat) (Zq : Nat) (Zv : Nat) (Zz : Int) (Zy : Int) (Z11 : List D) : Option D :=
 Z1k (bm 1924145348608 47) 0 1 (codeK Tg Z44.sp ⟨0,[],false,[]⟩ (inlK Tg Z44 m 4) m Z2f (subc [1,1,1,0,1,0,0] (bodyOf Tryz.f77))) n0 ⟨[Jk,Jk,Jk,Jk,Jk,Jk,Jk,Jk,Jk,Jk,Jk,Jk,Jk,Jk,Jk,Jk,Jk,Jk,Jk,Jk,Jk,Jk,Jk,Jk,Jk,Jk,Jk,Jk,Jk,Jk,Jk,Jk,Jk,Jk,Jk,Jk,Jk,Jk,(AV.sl 0 Zq Zv (some Zv) 1),(AV.d (D.v (.int .i64 Zz))),(AV.d (D.v (.int .i64 Zy))),Jk,Jk,Jk,Jk,Jk,Jk],[(Blk.d 17 Z11)]⟩
  (contK Tg Z44.sp ⟨0,[],false,[]⟩ (inlK Tg Z44 m 4) m Z2f (endK Tg Tryz.f77 endV) [.block 0,.code (subc [1,1,1,1] (bodyOf Tryz.f77))])
theorem Z1j9 (m n0 : Nat) (Zq : Nat) (Zv : Nat) (Zz : Int) (Zy : Int) (Z11 : List D) : Zrd m (n0 + 1) Zq Zv Zz Zy Z11 =
 (cond (decide (Zy < Zz))
 (if 0 ≤ Zy ∧ Zy < (Zv : Int) then
 (rdI .u32 Z11[(Zq + ((Int.toNat Zy) * 1))]?).bind fun x10 =>
 cond (x10 != (0 : Int))
 (some (D.v (.int .i64 (1 : Int))))
 (Zrd m n0 Zq Zv Zz (IntKind.wrap .i64 (Zy + (1 : Int))) Z11)
 else none)
 (some zI)) := by kernel_rfl
theorem Z1gk (m : Nat) (Zd7 : List D) : Znr m Zd7 =
 ((rdI .u8 Zd7[0]?).bind fun x7 =>
 if 0 ≤ x7 ∧ x7 ≤ (16 : Int) then
 Zrd m m (1 + ((Int.toNat x7) * 1)) (16 - (Int.toNat x7)) (((16 - (Int.toNat x7)) : Nat) : Int) (0 : Int) Zd7
 else none) := (Z1w m _).trans (by kernel_rfl)
theorem Z1gl (m : Nat) (Z2z : List D) : Z17q m Z2z =
 ((rdI .u32 Z2z[1]?).bind fun x4 =>
 cond (decide (x4 < (2 : Int)))
 ((rdI .u32 Z2z[2]?).bind fun x5 =>
 cond (decide (x5 > (39 : Int)))
 (some (D.v (.int .i64 (1 : Int))))
 ((rdI .u32 Z2z[2]?).bind fun x6 =>
 cond (decide (x6 > (4294967215 : Int)))
 (some (D.v (.int .i64 (1 : Int))))
 (Znr m Z2z)))
 ((rdI .u32 Z2z[2]?).bind fun x11 =>
 cond (decide (x11 > (4294967215 : Int)))
 (some (D.v (.int .i64 (1 : Int))))
 (Znr m Z2z))) := (Z1w m _).trans (by kernel_rfl)
noncomputable def Zz1 (m : Nat) (a0 : List D) : Option D :=
 if (List.length a0) = 17 then
 (rdI .u8 a0[0]?).bind fun x1 =>
 cond (decide (x1 < (2 : Int)))
 (some (D.v (.int .i64 (1 : Int))))
 ((rdI .u8 a0[0]?).bind fun x2 =>
 cond (decide (x2 > (16 : Int)))
 (some (D.v (.int .i64 (1 : Int))))
 ((rdI .u32 a0[1]?).bind fun x3 =>
 cond (decide (x3 > (2 : Int)))
 (some (D.v (.int .i64 (1 : Int))))
 (Z17q m a0)))
 else none
theorem Z1m6 (m : Nat) (a0 : List D) : funD Tg Z44 m 4 Z2f Tryz.f77 [(D.agg a0)] = Zz1 m a0 := by kernel_rfl
theorem Z1s2 : Enters Tg 77 := ⟨Tryz.f77,Tryz.func77,by kernel_rfl,by kernel_rfl⟩
theorem Z1s3 {ds : List D} {d : D} (h : funD Tg Z44 M 4 Z2f Tryz.f77 ds = some d) : DataSem Tg 77 ds d := Z5 (H := Z44) SpOk.nil mixed InlOk.nil Tryz.func77 Z1s2 h
noncomputable def Zbd : List D → Option D
 | [.agg a0] => Zz1 M a0
 | _ => none
theorem Z1ek : ∀ ds d,Zbd ds = some d → DataSem Tg 77 ds d := by
 intro ds d h
 unfold Zbd at h
 split at h
 ·exact Z1s3 ((Z1m6 M _).trans h)
 ·cases h
def Z63 : FnH := ⟨[],[]⟩
def Zfl : FnH := ⟨[],[]⟩
noncomputable def Zib : Hints := ⟨[],[(117,Tryz.f117,Zfl)],[]⟩
noncomputable def Z9z (m : Nat) (a0 : Int) (a1 : Int) : Option D :=
 cond (a0 != a0)
 (cond (a1 != a1)
 (some zI)
 (some (D.v (.int .i64 (-1 : Int)))))
 (cond (a1 != a1)
 (some (D.v (.int .i64 (1 : Int))))
 (cond (decide (a0 < a1))
 (some (D.v (.int .i64 (-1 : Int))))
 (cond (decide (a0 > a1))
 (some (D.v (.int .i64 (1 : Int))))
 (some zI))))
theorem Z13q (m : Nat) (a0 : Int) (a1 : Int) : funD Tg Zib m 4 Z63 Tryz.f100 [(D.v (.int .u32 a0)),(D.v (.int .u32 a1))] = Z9z m a0 a1 := by kernel_rfl
theorem Z17r : Enters Tg 100 := ⟨Tryz.f100,Tryz.func100,by kernel_rfl,by kernel_rfl⟩
theorem Z17s {ds : List D} {d : D} (h : funD Tg Zib M 4 Z63 Tryz.f100 ds = some d) : DataSem Tg 100 ds d := Z5 (H := Zib) SpOk.nil mixed (InlOk.cons Tryz.func117 Z1c6 InlOk.nil) Tryz.func100 Z17r h
noncomputable def Z6o : List D → Option D
 | [.v (.int .u32 a0),.v (.int .u32 a1)] => Z9z M a0 a1
 | _ => none
theorem Z17t : ∀ ds d,Z6o ds = some d → DataSem Tg 100 ds d := by
 intro ds d h
 unfold Z6o at h
 split at h
 ·exact Z17s ((Z13q M _ _).trans h)
 ·cases h
def Z15 : FnH := ⟨[(2,⟨(bm 3587 36),[],(some 0)⟩)],[]⟩
noncomputable def Z20 : Hints := ⟨[(100,Z6o)],[],[]⟩
noncomputable def Z40 (m n0 : Nat) (Zq : Nat) (Zv : Option Nat) (Zz : List D) (Zy : Nat) (Z11 : Option Nat) (Z13 : List D) (Z1d : Int) (Z1q : Int) : Option D :=
 Z1k (bm 3587 36) 0 0 (codeK Tg Z20.sp ⟨0,[],false,[]⟩ (inlK Tg Z20 m 4) m Z15 (subc [1,0,1,0,0] (bodyOf Tryz.f79))) n0 ⟨[(AV.d (D.list Zq Zv Zz)),(AV.d (D.list Zy Z11 Z13)),Jk,Jk,Jk,Jk,Jk,Jk,Jk,(AV.d (D.list Zq Zv Zz)),(AV.d (D.v (.int .i64 Z1d))),(AV.d (D.v (.int .i64 Z1q))),Jk,Jk,Jk,Jk,Jk,Jk,Jk,Jk,Jk,Jk,Jk,Jk,Jk,Jk,Jk,Jk,Jk,Jk,Jk,Jk,Jk,Jk,Jk,Jk],[]⟩
  (contK Tg Z20.sp ⟨0,[],false,[]⟩ (inlK Tg Z20 m 4) m Z15 (endK Tg Tryz.f79 endV) [.block 0,.code (subc [1,1] (bodyOf Tryz.f79))])
theorem Zmd (m n0 : Nat) (Zq : Nat) (Zv : Option Nat) (Zz : List D) (Zy : Nat) (Z11 : Option Nat) (Z13 : List D) (Z1d : Int) (Z1q : Int) : Z40 m (n0 + 1) Zq Zv Zz Zy Z11 Z13 Z1d Z1q =
 (cond (decide (Z1q < Z1d))
 (if 0 ≤ Z1q ∧ Z1q < (Zq : Int) then
 (rdI .u32 Zz[((Int.toNat Z1q) * 1)]?).bind fun x9 =>
 cond (decide (Z1q ≥ (Zy : Int)))
 (some (D.v (.int .i64 (1 : Int))))
 (if 0 ≤ Z1q ∧ Z1q < (Zy : Int) then
 (rdI .u32 Z13[((Int.toNat Z1q) * 1)]?).bind fun x10 =>
 (Z6o [(D.v (.int .u32 x9)),(D.v (.int .u32 x10))]).bind fun d11 =>
 (rdI .i64 (some d11)).bind fun x12 =>
 cond (x12 != (0 : Int))
 (some (D.v (.int .i64 x12)))
 (Z40 m n0 Zq Zv Zz Zy Z11 Z13 Z1d (IntKind.wrap .i64 (Z1q + (1 : Int))))
 else none)
 else none)
 (cond (decide ((Zq : Int) < (Zy : Int)))
 (some (D.v (.int .i64 (-1 : Int))))
 (some zI))) := by kernel_rfl
noncomputable def Zau (m : Nat) (a0n : Nat) (a0c : Option Nat) (a0 : List D) (a1n : Nat) (a1c : Option Nat) (a1 : List D) : Option D :=
 Z40 m m a0n a0c a0 a1n a1c a1 (a0n : Int) (0 : Int)
theorem Zns (m : Nat) (a0n : Nat) (a0c : Option Nat) (a0 : List D) (a1n : Nat) (a1c : Option Nat) (a1 : List D) : funD Tg Z20 m 4 Z15 Tryz.f79 [(D.list a0n a0c a0),(D.list a1n a1c a1)] = Zau m a0n a0c a0 a1n a1c a1 := by kernel_rfl
theorem Zqi : Enters Tg 79 := ⟨Tryz.f79,Tryz.func79,by kernel_rfl,by kernel_rfl⟩
theorem Zqj {ds : List D} {d : D} (h : funD Tg Z20 M 4 Z15 Tryz.f79 ds = some d) : DataSem Tg 79 ds d := Z5 (H := Z20) (SpOk.cons Z17t SpOk.nil) mixed InlOk.nil Tryz.func79 Zqi h
noncomputable def Z30 : List D → Option D
 | [.list a0n a0c a0,.list a1n a1c a1] => Zau M a0n a0c a0 a1n a1c a1
 | _ => none
theorem Zqk : ∀ ds d,Z30 ds = some d → DataSem Tg 79 ds d := by
 intro ds d h
 unfold Z30 at h
 split at h
 ·exact Zqj ((Zns M _ _ _ _ _ _).trans h)
 ·cases h
def Zca : FnH := ⟨[],[]⟩
def Zxv : FnH := ⟨[],[]⟩
noncomputable def Z10f : Hints := ⟨[(79,Z30)],[(80,Tryz.f80,Zxv)],[]⟩
noncomputable def Zre (m : Nat) (a0 : List D) (a1 : List D) : Option D :=
 if (List.length a0) = 17 then
 if (List.length a1) = 17 then
 (rdI .u8 a0[0]?).bind fun x1 =>
 if 0 ≤ (mm true (IntKind.wrap .i64 x1) (16 : Int)) ∧ (mm true (IntKind.wrap .i64 x1) (16 : Int)) ≤ (16 : Int) then
 (rdI .u8 a1[0]?).bind fun x2 =>
 if 0 ≤ (mm true (IntKind.wrap .i64 x2) (16 : Int)) ∧ (mm true (IntKind.wrap .i64 x2) (16 : Int)) ≤ (16 : Int) then
 if (1 + (((Int.toNat (mm true (IntKind.wrap .i64 x1) (16 : Int))) - 0) * 1)) ≤ 17 then
 if (1 + (((Int.toNat (mm true (IntKind.wrap .i64 x2) (16 : Int))) - 0) * 1)) ≤ 17 then
 (Z30 [(D.list ((Int.toNat (mm true (IntKind.wrap .i64 x1) (16 : Int))) - 0) (some 16) (cutL 17 a0 1 (((Int.toNat (mm true (IntKind.wrap .i64 x1) (16 : Int))) - 0) * 1))),(D.list ((Int.toNat (mm true (IntKind.wrap .i64 x2) (16 : Int))) - 0) (some 16) (cutL 17 a1 1 (((Int.toNat (mm true (IntKind.wrap .i64 x2) (16 : Int))) - 0) * 1)))]).bind fun d3 =>
 (rdI .i64 (some d3)).bind fun x4 =>
 some (D.v (.int .i64 x4))
 else none
 else none
 else none
 else none
 else none
 else none
theorem Z1gm (m : Nat) (a0 : List D) (a1 : List D) : funD Tg Z10f m 4 Zca Tryz.f52 [(D.agg a0),(D.agg a1)] = Zre m a0 a1 := by kernel_rfl
theorem Z1m7 : Enters Tg 52 := ⟨Tryz.f52,Tryz.func52,by kernel_rfl,by kernel_rfl⟩
theorem Z1m8 {ds : List D} {d : D} (h : funD Tg Z10f M 4 Zca Tryz.f52 ds = some d) : DataSem Tg 52 ds d := Z5 (H := Z10f) (SpOk.cons Zqk SpOk.nil) mixed (InlOk.cons Tryz.func80 Z1ul InlOk.nil) Tryz.func52 Z1m7 h
noncomputable def Z5d : List D → Option D
 | [.agg a0,.agg a1] => Zre M a0 a1
 | _ => none
theorem Zx0 : ∀ ds d,Z5d ds = some d → DataSem Tg 52 ds d := by
 intro ds d h
 unfold Z5d at h
 split at h
 ·exact Z1m8 ((Z1gm M _ _).trans h)
 ·cases h
def Z4b : FnH := ⟨[(4,⟨(bm 7169 38),[],(some 0)⟩)],[]⟩
noncomputable def Z7v : Hints := ⟨[(52,Z5d),(77,Zbd)],[],[]⟩
noncomputable def Zaa (m n0 : Nat) (Zq : Nat) (Zv : Option Nat) (Zz : List D) (Zy : Int) (Z11 : Int) : Option D :=
 Z1k (bm 7169 38) 0 0 (codeK Tg Z7v.sp ⟨0,[],false,[]⟩ (inlK Tg Z7v m 4) m Z4b (subc [1,1,0,1,0,0] (bodyOf Tryz.f58))) n0 ⟨[(AV.d (D.list Zq Zv Zz)),Jk,Jk,Jk,Jk,Jk,Jk,Jk,Jk,Jk,(AV.d (D.list Zq Zv Zz)),(AV.d (D.v (.int .i64 Zy))),(AV.d (D.v (.int .i64 Z11))),Jk,Jk,Jk,Jk,Jk,Jk,Jk,Jk,Jk,Jk,Jk,Jk,Jk,Jk,Jk,Jk,Jk,Jk,Jk,Jk,Jk,Jk,Jk,Jk,Jk],[]⟩
  (contK Tg Z7v.sp ⟨0,[],false,[]⟩ (inlK Tg Z7v m 4) m Z4b (endK Tg Tryz.f58 endV) [.block 0,.code (subc [1,1,1] (bodyOf Tryz.f58))])
theorem Z1cd (m n0 : Nat) (Zq : Nat) (Zv : Option Nat) (Zz : List D) (Zy : Int) (Z11 : Int) : Zaa m (n0 + 1) Zq Zv Zz Zy Z11 =
 (cond (decide (Z11 < Zy))
 (if 0 ≤ Z11 ∧ Z11 < (Zq : Int) then
 if (((Int.toNat Z11) * 17) + 17) ≤ (List.length Zz) then
 if (List.length ((List.drop ((Int.toNat Z11) * 17) Zz).take 17)) = 17 then
 (Zbd [(D.agg ((List.drop ((Int.toNat Z11) * 17) Zz).take 17))]).bind fun d7 =>
 (rdI .i64 (some d7)).bind fun x8 =>
 cond (x8 != (0 : Int))
 (some (D.v (.int .i64 x8)))
 (cond (Z11 == (0 : Int))
 (Zaa m n0 Zq Zv Zz Zy (IntKind.wrap .i64 (Z11 + (1 : Int))))
 (if 0 ≤ (IntKind.wrap .i64 (Z11 - (1 : Int))) ∧ (IntKind.wrap .i64 (Z11 - (1 : Int))) < (Zq : Int) then
 if (((Int.toNat (IntKind.wrap .i64 (Z11 - (1 : Int)))) * 17) + 17) ≤ (List.length Zz) then
 (Z5d [(D.agg ((List.drop ((Int.toNat (IntKind.wrap .i64 (Z11 - (1 : Int)))) * 17) Zz).take 17)),(D.agg ((List.drop ((Int.toNat Z11) * 17) Zz).take 17))]).bind fun d9 =>
 (rdI .i64 (some d9)).bind fun x10 =>
 cond (x10 == (0 : Int))
 (some (D.v (.int .i64 (14 : Int))))
 (cond (decide (x10 > (0 : Int)))
 (some (D.v (.int .i64 (13 : Int))))
 (Zaa m n0 Zq Zv Zz Zy (IntKind.wrap .i64 (Z11 + (1 : Int)))))
 else none
 else none))
 else none
 else none
 else none)
 (some zI)) := by kernel_rfl
noncomputable def Znt (m : Nat) (a0n : Nat) (a0c : Option Nat) (a0 : List D) : Option D :=
 cond (decide ((a0n : Int) > (256 : Int)))
 (some (D.v (.int .i64 (3 : Int))))
 (Zaa m m a0n a0c a0 (a0n : Int) (0 : Int))
theorem Z1el (m : Nat) (a0n : Nat) (a0c : Option Nat) (a0 : List D) : funD Tg Z7v m 4 Z4b Tryz.f58 [(D.list a0n a0c a0)] = Znt m a0n a0c a0 := by kernel_rfl
theorem Z1ja : Enters Tg 58 := ⟨Tryz.f58,Tryz.func58,by kernel_rfl,by kernel_rfl⟩
theorem Z1jb {ds : List D} {d : D} (h : funD Tg Z7v M 4 Z4b Tryz.f58 ds = some d) : DataSem Tg 58 ds d := Z5 (H := Z7v) (SpOk.cons Zx0 (SpOk.cons Z1ek SpOk.nil)) mixed InlOk.nil Tryz.func58 Z1ja h
noncomputable def Z7a : List D → Option D
 | [.list a0n a0c a0] => Znt M a0n a0c a0
 | _ => none
theorem Z15a : ∀ ds d,Z7a ds = some d → DataSem Tg 58 ds d := by
 intro ds d h
 unfold Z7a at h
 split at h
 ·exact Z1jb ((Z1el M _ _ _).trans h)
 ·cases h
def Z31 : FnH := ⟨[(4,⟨(bm 10 46),[],(some 1)⟩)],[(3,⟨(bm 2 46),[],(some 1)⟩)]⟩
noncomputable def Z5e : Hints := ⟨[],[],[]⟩
noncomputable def Z15b (m : Nat) (Z2z : List D) : Option D :=
 cutK m (codeK Tg Z5e.sp ⟨0,[],false,[]⟩ (inlK Tg Z5e m 4) m Z31 (subc [1,1] (bodyOf Tryz.f60)) ⟨[Jk,(AV.ptr 0 0),Jk,Jk,Jk,Jk,Jk,Jk,Jk,Jk,Jk,Jk,Jk,Jk,Jk,Jk,Jk,Jk,Jk,Jk,Jk,Jk,Jk,Jk,Jk,Jk,Jk,Jk,Jk,Jk,Jk,Jk,Jk,Jk,Jk,Jk,Jk,Jk,Jk,Jk,Jk,Jk,Jk,Jk,Jk,Jk],[(Blk.d 17 Z2z)]⟩
  (contK Tg Z5e.sp ⟨0,[],false,[]⟩ (inlK Tg Z5e m 4) m Z31 (endK Tg Tryz.f60 endV) []))
noncomputable def Znu (m n0 : Nat) (Zq : Int) (Zv : List D) : Option D :=
 Z1k (bm 10 46) 0 1 (codeK Tg Z5e.sp ⟨0,[],false,[]⟩ (inlK Tg Z5e m 4) m Z31 (subc [1,1,0,1,0,0] (bodyOf Tryz.f60))) n0 ⟨[Jk,(AV.ptr 0 0),Jk,(AV.d (D.v (.int .i64 Zq))),Jk,Jk,Jk,Jk,Jk,Jk,Jk,Jk,Jk,Jk,Jk,Jk,Jk,Jk,Jk,Jk,Jk,Jk,Jk,Jk,Jk,Jk,Jk,Jk,Jk,Jk,Jk,Jk,Jk,Jk,Jk,Jk,Jk,Jk,Jk,Jk,Jk,Jk,Jk,Jk,Jk,Jk],[(Blk.d 17 Zv)]⟩
  (contK Tg Z5e.sp ⟨0,[],false,[]⟩ (inlK Tg Z5e m 4) m Z31 (endK Tg Tryz.f60 endV) [.block 0,.code (subc [1,1,1] (bodyOf Tryz.f60))])
theorem Z1gn (m n0 : Nat) (Zq : Int) (Zv : List D) : Znu m (n0 + 1) Zq Zv =
 (cond (decide (Zq < (16 : Int)))
 (if 0 ≤ Zq ∧ Zq < (16 : Int) then
 (rdI .u32 Zv[(1 + ((Int.toNat Zq) * 1))]?).bind fun x5 =>
 cond (x5 != (0 : Int))
 (some (D.v (.int .i64 (1 : Int))))
 (Znu m n0 (IntKind.wrap .i64 (Zq + (1 : Int))) Zv)
 else none)
 ((rdI .u32 Zv[1]?).bind fun x6 =>
 cond (decide (x6 < (2 : Int)))
 ((rdI .u32 Zv[2]?).bind fun x7 =>
 cond (decide (x7 < (40 : Int)))
 (some zI)
 ((rdI .u32 Zv[1]?).bind fun x8 =>
 cond (x8 == (2 : Int))
 ((rdI .u32 Zv[2]?).bind fun x9 =>
 cond (decide (x9 ≤ (4294967215 : Int)))
 (some zI)
 (some (D.v (.int .i64 (1 : Int)))))
 (some (D.v (.int .i64 (1 : Int))))))
 ((rdI .u32 Zv[1]?).bind fun x10 =>
 cond (x10 == (2 : Int))
 ((rdI .u32 Zv[2]?).bind fun x11 =>
 cond (decide (x11 ≤ (4294967215 : Int)))
 (some zI)
 (some (D.v (.int .i64 (1 : Int)))))
 (some (D.v (.int .i64 (1 : Int))))))) := by kernel_rfl
theorem Z1em (m : Nat) (Z2z : List D) : Z15b m Z2z =
 ((rdI .u8 Z2z[0]?).bind fun x3 =>
 Znu m m (IntKind.wrap .i64 x3) Z2z) := (Z1w m _).trans (by kernel_rfl)
noncomputable def Zvc (m : Nat) (a0 : List D) : Option D :=
 if (List.length a0) = 17 then
 (rdI .u8 a0[0]?).bind fun x1 =>
 cond (decide (x1 < (2 : Int)))
 (some (D.v (.int .i64 (1 : Int))))
 ((rdI .u8 a0[0]?).bind fun x2 =>
 cond (decide (x2 > (16 : Int)))
 (some (D.v (.int .i64 (1 : Int))))
 (Z15b m a0))
 else none
theorem Z1jc (m : Nat) (a0 : List D) : funD Tg Z5e m 4 Z31 Tryz.f60 [(D.agg a0)] = Zvc m a0 := by kernel_rfl
theorem Z1oo : Enters Tg 60 := ⟨Tryz.f60,Tryz.func60,by kernel_rfl,by kernel_rfl⟩
theorem Z1op {ds : List D} {d : D} (h : funD Tg Z5e M 4 Z31 Tryz.f60 ds = some d) : DataSem Tg 60 ds d := Z5 (H := Z5e) SpOk.nil mixed InlOk.nil Tryz.func60 Z1oo h
noncomputable def Z90 : List D → Option D
 | [.agg a0] => Zvc M a0
 | _ => none
theorem Z1bc : ∀ ds d,Z90 ds = some d → DataSem Tg 60 ds d := by
 intro ds d h
 unfold Z90 at h
 split at h
 ·exact Z1op ((Z1jc M _).trans h)
 ·cases h
def Z1m : FnH := ⟨[(3,⟨(bm 236 50),[],(some 2)⟩)],[(5,⟨(bm 236 50),[],(some 2)⟩),(9,⟨(bm 96 50),[],(some 0)⟩)]⟩
noncomputable def Z2j : Hints := ⟨[],[],[]⟩
noncomputable def Zgy (m n0 : Nat) (Zq : Int) (Zv : Int) (Zz : Int) (Zy : List D) (Z11 : List D) : Option D :=
 Z1k (bm 236 50) 0 2 (codeK Tg Z2j.sp ⟨0,[],false,[]⟩ (inlK Tg Z2j m 4) m Z1m (subc [1,1,0,1,0,0] (bodyOf Tryz.f56))) n0 ⟨[Jk,Jk,(AV.ptr 0 0),(AV.ptr 1 0),Jk,(AV.d (D.v (.int .i64 Zq))),(AV.d (D.v (.int .i64 Zv))),(AV.d (D.v (.int .i64 Zz))),Jk,Jk,Jk,Jk,Jk,Jk,Jk,Jk,Jk,Jk,Jk,Jk,Jk,Jk,Jk,Jk,Jk,Jk,Jk,Jk,Jk,Jk,Jk,Jk,Jk,Jk,Jk,Jk,Jk,Jk,Jk,Jk,Jk,Jk,Jk,Jk,Jk,Jk,Jk,Jk,Jk,Jk],[(Blk.d 17 Zy),(Blk.d 17 Z11)]⟩
  (contK Tg Z2j.sp ⟨0,[],false,[]⟩ (inlK Tg Z2j m 4) m Z1m (endK Tg Tryz.f56 endV) [.block 0,.code (subc [1,1,1] (bodyOf Tryz.f56))])
noncomputable def Zz2 (m n0 : Nat) (Z2z : Int) (Z4j : Int) (Z3v : Int) (Z3t : List D) (Z6p : List D) : Option D :=
 cutK m (codeK Tg Z2j.sp ⟨0,[],false,[]⟩ (inlK Tg Z2j m 4) m Z1m (subc [1,1,0,1,0,0,1] (bodyOf Tryz.f56)) ⟨[Jk,Jk,(AV.ptr 0 0),(AV.ptr 1 0),Jk,(AV.d (D.v (.int .i64 Z2z))),(AV.d (D.v (.int .i64 Z4j))),(AV.d (D.v (.int .i64 Z3v))),Jk,Jk,Jk,Jk,Jk,Jk,Jk,Jk,Jk,Jk,Jk,Jk,Jk,Jk,Jk,Jk,Jk,Jk,Jk,Jk,Jk,Jk,Jk,Jk,Jk,Jk,Jk,Jk,Jk,Jk,Jk,Jk,Jk,Jk,Jk,Jk,Jk,Jk,Jk,Jk,Jk,Jk],[(Blk.d 17 Z3t),(Blk.d 17 Z6p)]⟩
  (contK Tg Z2j.sp ⟨0,[],false,[]⟩ (inlK Tg Z2j m 4) m Z1m (endK Tg Tryz.f56 endV) [.loop (bm 236 50) 2 (subc [1,1,0,1,0,0] (bodyOf Tryz.f56)) n0,.block 0,.code (subc [1,1,1] (bodyOf Tryz.f56))]))
theorem Z1a9 (m n0 : Nat) (Z2z : Int) (Z4j : Int) (Z3v : Int) (Z3t : List D) (Z6p : List D) : Zz2 m n0 Z2z Z4j Z3v Z3t Z6p =
 (if 0 ≤ Z3v ∧ Z3v < (16 : Int) then
 (rdI .u32 Z3t[(1 + ((Int.toNat Z3v) * 1))]?).bind fun x11 =>
 if 0 ≤ Z3v ∧ Z3v < (16 : Int) then
 (rdI .u32 Z6p[(1 + ((Int.toNat Z3v) * 1))]?).bind fun x12 =>
 cond (decide (x11 < x12))
 (some (D.v (.int .i64 (-1 : Int))))
 (if 0 ≤ Z3v ∧ Z3v < (16 : Int) then
 (rdI .u32 Z3t[(1 + ((Int.toNat Z3v) * 1))]?).bind fun x13 =>
 if 0 ≤ Z3v ∧ Z3v < (16 : Int) then
 (rdI .u32 Z6p[(1 + ((Int.toNat Z3v) * 1))]?).bind fun x14 =>
 cond (decide (x13 > x14))
 (some (D.v (.int .i64 (1 : Int))))
 (Zgy m n0 Z2z Z4j (IntKind.wrap .i64 (Z3v + (1 : Int))) Z3t Z6p)
 else none
 else none)
 else none
 else none) := (Z1w m _).trans (by kernel_rfl)
noncomputable def Znv (m : Nat) (Zd7 : Int) (Zis : Int) : Option D :=
 cutK m (codeK Tg Z2j.sp ⟨0,[],false,[]⟩ (inlK Tg Z2j m 4) m Z1m (subc [1,1,1] (bodyOf Tryz.f56)) ⟨[Jk,Jk,Jk,Jk,Jk,(AV.d (D.v (.int .i64 Zd7))),(AV.d (D.v (.int .i64 Zis))),Jk,Jk,Jk,Jk,Jk,Jk,Jk,Jk,Jk,Jk,Jk,Jk,Jk,Jk,Jk,Jk,Jk,Jk,Jk,Jk,Jk,Jk,Jk,Jk,Jk,Jk,Jk,Jk,Jk,Jk,Jk,Jk,Jk,Jk,Jk,Jk,Jk,Jk,Jk,Jk,Jk,Jk,Jk],[]⟩
  (contK Tg Z2j.sp ⟨0,[],false,[]⟩ (inlK Tg Z2j m 4) m Z1m (endK Tg Tryz.f56 endV) []))
theorem Z1aa (m : Nat) (Zd7 : Int) (Zis : Int) : Znv m Zd7 Zis =
 (cond (decide (Zd7 < Zis))
 (some (D.v (.int .i64 (-1 : Int))))
 (cond (decide (Zd7 > Zis))
 (some (D.v (.int .i64 (1 : Int))))
 (some zI))) := (Z1w m _).trans (by kernel_rfl)
theorem Z1ce (m n0 : Nat) (Zq : Int) (Zv : Int) (Zz : Int) (Zy : List D) (Z11 : List D) : Zgy m (n0 + 1) Zq Zv Zz Zy Z11 =
 (cond (decide (Zz < Zq))
 (cond (decide (Zz < Zv))
 (Zz2 m n0 Zq Zv Zz Zy Z11)
 (Znv m Zq Zv))
 (Znv m Zq Zv)) := by kernel_rfl
noncomputable def Znw (m : Nat) (a0 : List D) (a1 : List D) : Option D :=
 if (List.length a0) = 17 then
 if (List.length a1) = 17 then
 (rdI .u8 a0[0]?).bind fun x1 =>
 (rdI .u8 a1[0]?).bind fun x2 =>
 Zgy m m (mm true (IntKind.wrap .i64 x1) (16 : Int)) (mm true (IntKind.wrap .i64 x2) (16 : Int)) (0 : Int) a0 a1
 else none
 else none
theorem Z1en (m : Nat) (a0 : List D) (a1 : List D) : funD Tg Z2j m 4 Z1m Tryz.f56 [(D.agg a0),(D.agg a1)] = Znw m a0 a1 := by kernel_rfl
theorem Z1jd : Enters Tg 56 := ⟨Tryz.f56,Tryz.func56,by kernel_rfl,by kernel_rfl⟩
theorem Z1je {ds : List D} {d : D} (h : funD Tg Z2j M 4 Z1m Tryz.f56 ds = some d) : DataSem Tg 56 ds d := Z5 (H := Z2j) SpOk.nil mixed InlOk.nil Tryz.func56 Z1jd h
noncomputable def Z50 : List D → Option D
 | [.agg a0,.agg a1] => Znw M a0 a1
 | _ => none
theorem Ztu : ∀ ds d,Z50 ds = some d → DataSem Tg 56 ds d := by
 intro ds d h
 unfold Z50 at h
 split at h
 ·exact Z1je ((Z1en M _ _).trans h)
 ·cases h
def Z32 : FnH := ⟨[(4,⟨(bm 9 36),[],(some 0)⟩)],[(5,⟨(bm 9 36),[],(some 0)⟩)]⟩
noncomputable def Z5f : Hints := ⟨[(56,Z50),(60,Z90)],[],[]⟩
noncomputable def Znx (m n0 : Nat) (Zq : Nat) (Zv : Option Nat) (Zz : List D) (Zy : Int) : Option D :=
 Z1k (bm 9 36) 0 0 (codeK Tg Z5f.sp ⟨0,[],false,[]⟩ (inlK Tg Z5f m 4) m Z32 (subc [1,1,0,1,0,0] (bodyOf Tryz.f31))) n0 ⟨[(AV.d (D.list Zq Zv Zz)),Jk,Jk,(AV.d (D.v (.int .i64 Zy))),Jk,Jk,Jk,Jk,Jk,Jk,Jk,Jk,Jk,Jk,Jk,Jk,Jk,Jk,Jk,Jk,Jk,Jk,Jk,Jk,Jk,Jk,Jk,Jk,Jk,Jk,Jk,Jk,Jk,Jk,Jk,Jk],[]⟩
  (contK Tg Z5f.sp ⟨0,[],false,[]⟩ (inlK Tg Z5f m 4) m Z32 (endK Tg Tryz.f31 endV) [.block 0,.code (subc [1,1,1] (bodyOf Tryz.f31))])
noncomputable def Ztv (m n0 : Nat) (Z2z : Nat) (Z4j : Option Nat) (Z3v : List D) (Z3t : Int) : Option D :=
 cutK m (codeK Tg Z5f.sp ⟨0,[],false,[]⟩ (inlK Tg Z5f m 4) m Z32 (subc [1,1,0,1,0,0,1,1] (bodyOf Tryz.f31)) ⟨[(AV.d (D.list Z2z Z4j Z3v)),Jk,Jk,(AV.d (D.v (.int .i64 Z3t))),Jk,Jk,Jk,Jk,Jk,Jk,Jk,Jk,Jk,Jk,Jk,Jk,Jk,Jk,Jk,Jk,Jk,Jk,Jk,Jk,Jk,Jk,Jk,Jk,Jk,Jk,Jk,Jk,Jk,Jk,Jk,Jk],[]⟩
  (contK Tg Z5f.sp ⟨0,[],false,[]⟩ (inlK Tg Z5f m 4) m Z32 (endK Tg Tryz.f31 endV) [.loop (bm 9 36) 0 (subc [1,1,0,1,0,0] (bodyOf Tryz.f31)) n0,.block 0,.code (subc [1,1,1] (bodyOf Tryz.f31))]))
theorem Z1eo (m n0 : Nat) (Z2z : Nat) (Z4j : Option Nat) (Z3v : List D) (Z3t : Int) : Ztv m n0 Z2z Z4j Z3v Z3t =
 (Znx m n0 Z2z Z4j Z3v (IntKind.wrap .i64 (Z3t + (1 : Int)))) := (Z1w m _).trans (by kernel_rfl)
theorem Z1go (m n0 : Nat) (Zq : Nat) (Zv : Option Nat) (Zz : List D) (Zy : Int) : Znx m (n0 + 1) Zq Zv Zz Zy =
 (cond (decide (Zy < (Zq : Int)))
 (if 0 ≤ Zy ∧ Zy < (Zq : Int) then
 if (((Int.toNat Zy) * 17) + 17) ≤ (List.length Zz) then
 (Z90 [(D.agg ((List.drop ((Int.toNat Zy) * 17) Zz).take 17))]).bind fun d7 =>
 (rdI .i64 (some d7)).bind fun x8 =>
 cond (x8 != (0 : Int))
 (some (D.v (.int .i64 (1 : Int))))
 (cond (decide (Zy > (0 : Int)))
 (if 0 ≤ (IntKind.wrap .i64 (Zy - (1 : Int))) ∧ (IntKind.wrap .i64 (Zy - (1 : Int))) < (Zq : Int) then
 if (((Int.toNat (IntKind.wrap .i64 (Zy - (1 : Int)))) * 17) + 17) ≤ (List.length Zz) then
 if 0 ≤ Zy ∧ Zy < (Zq : Int) then
 if (((Int.toNat Zy) * 17) + 17) ≤ (List.length Zz) then
 (Z50 [(D.agg ((List.drop ((Int.toNat (IntKind.wrap .i64 (Zy - (1 : Int)))) * 17) Zz).take 17)),(D.agg ((List.drop ((Int.toNat Zy) * 17) Zz).take 17))]).bind fun d9 =>
 (rdI .i64 (some d9)).bind fun x10 =>
 cond (x10 == (0 : Int))
 (some (D.v (.int .i64 (14 : Int))))
 (cond (decide (x10 > (0 : Int)))
 (some (D.v (.int .i64 (13 : Int))))
 (Ztv m n0 Zq Zv Zz Zy))
 else none
 else none
 else none
 else none)
 (Ztv m n0 Zq Zv Zz Zy))
 else none
 else none)
 (some zI)) := by kernel_rfl
noncomputable def Zvd (m : Nat) (a0n : Nat) (a0c : Option Nat) (a0 : List D) : Option D :=
 cond (decide ((a0n : Int) > (256 : Int)))
 (some (D.v (.int .i64 (3 : Int))))
 (Znx m m a0n a0c a0 (0 : Int))
theorem Z1jf (m : Nat) (a0n : Nat) (a0c : Option Nat) (a0 : List D) : funD Tg Z5f m 4 Z32 Tryz.f31 [(D.list a0n a0c a0)] = Zvd m a0n a0c a0 := by kernel_rfl
theorem Z1oq : Enters Tg 31 := ⟨Tryz.f31,Tryz.func31,by kernel_rfl,by kernel_rfl⟩
theorem Z1or {ds : List D} {d : D} (h : funD Tg Z5f M 4 Z32 Tryz.f31 ds = some d) : DataSem Tg 31 ds d := Z5 (H := Z5f) (SpOk.cons Ztu (SpOk.cons Z1bc SpOk.nil)) mixed InlOk.nil Tryz.func31 Z1oq h
noncomputable def Z46 : List D → Option D
 | [.list a0n a0c a0] => Zvd M a0n a0c a0
 | _ => none
theorem Z1bd : ∀ ds d,Z46 ds = some d → DataSem Tg 31 ds d := by
 intro ds d h
 unfold Z46 at h
 split at h
 ·exact Z1or ((Z1jf M _ _ _).trans h)
 ·cases h
end Go.Ev