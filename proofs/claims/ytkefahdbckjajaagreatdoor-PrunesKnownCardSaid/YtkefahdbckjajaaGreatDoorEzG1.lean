/- Functions of the given program in plain form,printed: each with the proof that it is what the evaluator comes to,and that the program function returns what it says. No conditions. -/
import Derived.Test.YtkefahdbckjajaaGreatDoorEzK1
import Derived.Test.YtkefahdbckjajaaGreatDoorEzK2
set_option linter.unusedVariables false
set_option maxRecDepth 100000
namespace Go.Ev
open Go Go.Proofs
def Z2t : FnH := ⟨[(6,⟨(bm 1924145348608 47),[],(some 1)⟩)],[(3,⟨(bm 2 47),[],(some 1)⟩),(5,⟨(bm 2 47),[],(some 1)⟩)]⟩
noncomputable def Z4y : Hints := ⟨[],[],[]⟩
noncomputable def Zy9 (m : Nat) (Z2y : List D) : Option D :=
 cutK m (codeK Tg Z4y.sp ⟨0,[],false,[]⟩ (inlK Tg Z4y m 4) m Z2t (subc [1,1] (bodyOf Tryz.f109)) ⟨[Jk,(AV.ptr 0 0),Jk,Jk,Jk,Jk,Jk,Jk,Jk,Jk,Jk,Jk,Jk,Jk,Jk,Jk,Jk,Jk,Jk,Jk,Jk,Jk,Jk,Jk,Jk,Jk,Jk,Jk,Jk,Jk,Jk,Jk,Jk,Jk,Jk,Jk,Jk,Jk,Jk,Jk,Jk,Jk,Jk,Jk,Jk,Jk,Jk],[(Blk.d 17 Z2y)]⟩
  (contK Tg Z4y.sp ⟨0,[],false,[]⟩ (inlK Tg Z4y m 4) m Z2t (endK Tg Tryz.f109 (fun v L => viewK L 8 v some)) []))
noncomputable def Zjn (m : Nat) (Z9n : List D) : Option D :=
 cutK m (codeK Tg Z4y.sp ⟨0,[],false,[]⟩ (inlK Tg Z4y m 4) m Z2t (subc [1,1,1] (bodyOf Tryz.f109)) ⟨[Jk,(AV.ptr 0 0),Jk,Jk,Jk,Jk,Jk,Jk,Jk,Jk,Jk,Jk,Jk,Jk,Jk,Jk,Jk,Jk,Jk,Jk,Jk,Jk,Jk,Jk,Jk,Jk,Jk,Jk,Jk,Jk,Jk,Jk,Jk,Jk,Jk,Jk,Jk,Jk,Jk,Jk,Jk,Jk,Jk,Jk,Jk,Jk,Jk],[(Blk.d 17 Z9n)]⟩
  (contK Tg Z4y.sp ⟨0,[],false,[]⟩ (inlK Tg Z4y m 4) m Z2t (endK Tg Tryz.f109 (fun v L => viewK L 8 v some)) []))
noncomputable def Zm1 (m n0 : Nat) (Zz : Nat) (Z13 : Nat) (Z18 : Int) (Z1b : Int) (Z14 : List D) : Option D :=
 Z1e (bm 1924145348608 47) 0 1 (codeK Tg Z4y.sp ⟨0,[],false,[]⟩ (inlK Tg Z4y m 4) m Z2t (subc [1,1,1,0,1,0,0] (bodyOf Tryz.f109))) n0 ⟨[Jk,Jk,Jk,Jk,Jk,Jk,Jk,Jk,Jk,Jk,Jk,Jk,Jk,Jk,Jk,Jk,Jk,Jk,Jk,Jk,Jk,Jk,Jk,Jk,Jk,Jk,Jk,Jk,Jk,Jk,Jk,Jk,Jk,Jk,Jk,Jk,Jk,Jk,(AV.sl 0 Zz Z13 (some Z13) 1),(AV.d (D.v (.int .i64 Z18))),(AV.d (D.v (.int .i64 Z1b))),Jk,Jk,Jk,Jk,Jk,Jk],[(Blk.d 17 Z14)]⟩
  (contK Tg Z4y.sp ⟨0,[],false,[]⟩ (inlK Tg Z4y m 4) m Z2t (endK Tg Tryz.f109 (fun v L => viewK L 8 v some)) [.block 0,.code (subc [1,1,1,1] (bodyOf Tryz.f109))])
theorem Z17h (m n0 : Nat) (Zz : Nat) (Z13 : Nat) (Z18 : Int) (Z1b : Int) (Z14 : List D) : Zm1 m (n0 + 1) Zz Z13 Z18 Z1b Z14 =
 (cond (decide (Z1b < Z18))
 (if 0 ≤ Z1b ∧ Z1b < (Z13 : Int) then
 (rdI .u32 Z14[(Zz + ((Int.toNat Z1b) * 1))]?).bind fun x10 =>
 cond (x10 != (0 : Int))
 (some (D.v (.int .i64 (1 : Int))))
 (Zm1 m n0 Zz Z13 Z18 (IntKind.wrap .i64 (Z1b + (1 : Int))) Z14)
 else none)
 (some zI)) := by kernel_rfl
theorem Z15c (m : Nat) (Z9n : List D) : Zjn m Z9n =
 ((rdI .u8 Z9n[0]?).bind fun x7 =>
 if 0 ≤ x7 ∧ x7 ≤ (16 : Int) then
 Zm1 m m (1 + ((Int.toNat x7) * 1)) (16 - (Int.toNat x7)) (((16 - (Int.toNat x7)) : Nat) : Int) (0 : Int) Z9n
 else none) := (Z1y m _).trans (by kernel_rfl)
theorem Z15d (m : Nat) (Z2y : List D) : Zy9 m Z2y =
 ((rdI .u32 Z2y[1]?).bind fun x4 =>
 cond (decide (x4 < (2 : Int)))
 ((rdI .u32 Z2y[2]?).bind fun x5 =>
 cond (decide (x5 > (39 : Int)))
 (some (D.v (.int .i64 (1 : Int))))
 ((rdI .u32 Z2y[2]?).bind fun x6 =>
 cond (decide (x6 > (4294967215 : Int)))
 (some (D.v (.int .i64 (1 : Int))))
 (Zjn m Z2y)))
 ((rdI .u32 Z2y[2]?).bind fun x11 =>
 cond (decide (x11 > (4294967215 : Int)))
 (some (D.v (.int .i64 (1 : Int))))
 (Zjn m Z2y))) := (Z1y m _).trans (by kernel_rfl)
noncomputable def Zs1 (m : Nat) (a0 : List D) : Option D :=
 if (List.length a0) = 17 then
 (rdI .u8 a0[0]?).bind fun x1 =>
 cond (decide (x1 < (2 : Int)))
 (some (D.v (.int .i64 (1 : Int))))
 ((rdI .u8 a0[0]?).bind fun x2 =>
 cond (decide (x2 > (16 : Int)))
 (some (D.v (.int .i64 (1 : Int))))
 ((rdI .u32 a0[1]?).bind fun x3 =>
 cond (decide (x3 > (2 : Int)))
 (some (D.v (.int .i64 (1 : Int))))
 (Zy9 m a0)))
 else none
theorem Z1a2 (m : Nat) (a0 : List D) : funD Tg Z4y m 4 Z2t Tryz.f109 [(D.agg a0)] = Zs1 m a0 := by kernel_rfl
theorem Z1ew : Enters Tg 109 := ⟨Tryz.f109,Tryz.func109,by kernel_rfl,by kernel_rfl⟩
theorem Z1ex {ds : List D} {d : D} (h : funD Tg Z4y M 4 Z2t Tryz.f109 ds = some d) : DataSem Tg 109 ds d := Zf (H := Z4y) SpOk.nil mixed InlOk.nil Tryz.func109 Z1ew h
noncomputable def Zb4 : List D → Option D
 | [.agg a0] => Zs1 M a0
 | _ => none
theorem Z13m : ∀ ds d,Zb4 ds = some d → DataSem Tg 109 ds d := by
 intro ds d h
 unfold Zb4 at h
 split at h
 ·exact Z1ex ((Z1a2 M _).trans h)
 ·cases h
def Z6h : FnH := ⟨[],[]⟩
def Zen : FnH := ⟨[],[]⟩
noncomputable def Zgb : Hints := ⟨[],[(157,Tryz.f157,Zen)],[]⟩
noncomputable def Z9o (m : Nat) (a0 : Int) (a1 : Int) : Option D :=
 cond (a0 != a0)
 (cond (a1 != a1)
 (some zI)
 (some (D.v (.int .i64 (-1 : Int)))))
 (cond (a1 != a1)
 (some (D.v (.int .i64 (1 : Int))))
 (cond (decide (a0 < a1))
 (some (D.v (.int .i64 (-1 : Int))))
 (cond (decide (a0 > a1))
 (some (D.v (.int .i64 (1 : Int))))
 (some zI))))
theorem Zuy (m : Nat) (a0 : Int) (a1 : Int) : funD Tg Zgb m 4 Z6h Tryz.f135 [(D.v (.int .u32 a0)),(D.v (.int .u32 a1))] = Z9o m a0 a1 := by kernel_rfl
theorem Zya : Enters Tg 135 := ⟨Tryz.f135,Tryz.func135,by kernel_rfl,by kernel_rfl⟩
theorem Zyb {ds : List D} {d : D} (h : funD Tg Zgb M 4 Z6h Tryz.f135 ds = some d) : DataSem Tg 135 ds d := Zf (H := Zgb) SpOk.nil mixed (InlOk.cons Tryz.func157 Z111 InlOk.nil) Tryz.func135 Zya h
noncomputable def Z73 : List D → Option D
 | [.v (.int .u32 a0),.v (.int .u32 a1)] => Z9o M a0 a1
 | _ => none
theorem Zyc : ∀ ds d,Z73 ds = some d → DataSem Tg 135 ds d := by
 intro ds d h
 unfold Z73 at h
 split at h
 ·exact Zyb ((Zuy M _ _).trans h)
 ·cases h
def Z1g : FnH := ⟨[(2,⟨(bm 3587 36),[],(some 0)⟩)],[]⟩
noncomputable def Z2g : Hints := ⟨[(135,Z73)],[],[]⟩
noncomputable def Z4v (m n0 : Nat) (Zz : Nat) (Z13 : Option Nat) (Z18 : List D) (Z1b : Nat) (Z14 : Option Nat) (Z1q : List D) (Z1z : Int) (Z32 : Int) : Option D :=
 Z1e (bm 3587 36) 0 0 (codeK Tg Z2g.sp ⟨0,[],false,[]⟩ (inlK Tg Z2g m 4) m Z1g (subc [1,0,1,0,0] (bodyOf Tryz.f111))) n0 ⟨[(AV.d (D.list Zz Z13 Z18)),(AV.d (D.list Z1b Z14 Z1q)),Jk,Jk,Jk,Jk,Jk,Jk,Jk,(AV.d (D.list Zz Z13 Z18)),(AV.d (D.v (.int .i64 Z1z))),(AV.d (D.v (.int .i64 Z32))),Jk,Jk,Jk,Jk,Jk,Jk,Jk,Jk,Jk,Jk,Jk,Jk,Jk,Jk,Jk,Jk,Jk,Jk,Jk,Jk,Jk,Jk,Jk,Jk],[]⟩
  (contK Tg Z2g.sp ⟨0,[],false,[]⟩ (inlK Tg Z2g m 4) m Z1g (endK Tg Tryz.f111 (fun v L => viewK L 8 v some)) [.block 0,.code (subc [1,1] (bodyOf Tryz.f111))])
theorem Zis (m n0 : Nat) (Zz : Nat) (Z13 : Option Nat) (Z18 : List D) (Z1b : Nat) (Z14 : Option Nat) (Z1q : List D) (Z1z : Int) (Z32 : Int) : Z4v m (n0 + 1) Zz Z13 Z18 Z1b Z14 Z1q Z1z Z32 =
 (cond (decide (Z32 < Z1z))
 (if 0 ≤ Z32 ∧ Z32 < (Zz : Int) then
 (rdI .u32 Z18[((Int.toNat Z32) * 1)]?).bind fun x9 =>
 cond (decide (Z32 ≥ (Z1b : Int)))
 (some (D.v (.int .i64 (1 : Int))))
 (if 0 ≤ Z32 ∧ Z32 < (Z1b : Int) then
 (rdI .u32 Z1q[((Int.toNat Z32) * 1)]?).bind fun x10 =>
 (Z73 [(D.v (.int .u32 x9)),(D.v (.int .u32 x10))]).bind fun d11 =>
 (rdI .i64 (some d11)).bind fun x12 =>
 cond (x12 != (0 : Int))
 (some (D.v (.int .i64 x12)))
 (Z4v m n0 Zz Z13 Z18 Z1b Z14 Z1q Z1z (IntKind.wrap .i64 (Z32 + (1 : Int))))
 else none)
 else none)
 (cond (decide ((Zz : Int) < (Z1b : Int)))
 (some (D.v (.int .i64 (-1 : Int))))
 (some zI))) := by kernel_rfl
noncomputable def Zao (m : Nat) (a0n : Nat) (a0c : Option Nat) (a0 : List D) (a1n : Nat) (a1c : Option Nat) (a1 : List D) : Option D :=
 Z4v m m a0n a0c a0 a1n a1c a1 (a0n : Int) (0 : Int)
theorem Zjo (m : Nat) (a0n : Nat) (a0c : Option Nat) (a0 : List D) (a1n : Nat) (a1c : Option Nat) (a1 : List D) : funD Tg Z2g m 4 Z1g Tryz.f111 [(D.list a0n a0c a0),(D.list a1n a1c a1)] = Zao m a0n a0c a0 a1n a1c a1 := by kernel_rfl
theorem Zlh : Enters Tg 111 := ⟨Tryz.f111,Tryz.func111,by kernel_rfl,by kernel_rfl⟩
theorem Zli {ds : List D} {d : D} (h : funD Tg Z2g M 4 Z1g Tryz.f111 ds = some d) : DataSem Tg 111 ds d := Zf (H := Z2g) (SpOk.cons Zyc SpOk.nil) mixed InlOk.nil Tryz.func111 Zlh h
noncomputable def Z3p : List D → Option D
 | [.list a0n a0c a0,.list a1n a1c a1] => Zao M a0n a0c a0 a1n a1c a1
 | _ => none
theorem Zlj : ∀ ds d,Z3p ds = some d → DataSem Tg 111 ds d := by
 intro ds d h
 unfold Z3p at h
 split at h
 ·exact Zli ((Zjo M _ _ _ _ _ _).trans h)
 ·cases h
def Zbr : FnH := ⟨[],[]⟩
def Zr2 : FnH := ⟨[],[]⟩
noncomputable def Zss : Hints := ⟨[(111,Z3p)],[(112,Tryz.f112,Zr2)],[]⟩
noncomputable def Zm2 (m : Nat) (a0 : List D) (a1 : List D) : Option D :=
 if (List.length a0) = 17 then
 if (List.length a1) = 17 then
 (rdI .u8 a0[0]?).bind fun x1 =>
 if 0 ≤ (mm true (IntKind.wrap .i64 x1) (16 : Int)) ∧ (mm true (IntKind.wrap .i64 x1) (16 : Int)) ≤ (16 : Int) then
 (rdI .u8 a1[0]?).bind fun x2 =>
 if 0 ≤ (mm true (IntKind.wrap .i64 x2) (16 : Int)) ∧ (mm true (IntKind.wrap .i64 x2) (16 : Int)) ≤ (16 : Int) then
 if (1 + (((Int.toNat (mm true (IntKind.wrap .i64 x1) (16 : Int))) - 0) * 1)) ≤ 17 then
 if (1 + (((Int.toNat (mm true (IntKind.wrap .i64 x2) (16 : Int))) - 0) * 1)) ≤ 17 then
 (Z3p [(D.list ((Int.toNat (mm true (IntKind.wrap .i64 x1) (16 : Int))) - 0) (some 16) (cutL 17 a0 1 (((Int.toNat (mm true (IntKind.wrap .i64 x1) (16 : Int))) - 0) * 1))),(D.list ((Int.toNat (mm true (IntKind.wrap .i64 x2) (16 : Int))) - 0) (some 16) (cutL 17 a1 1 (((Int.toNat (mm true (IntKind.wrap .i64 x2) (16 : Int))) - 0) * 1)))]).bind fun d3 =>
 (rdI .i64 (some d3)).bind fun x4 =>
 some (D.v (.int .i64 x4))
 else none
 else none
 else none
 else none
 else none
 else none
theorem Z15e (m : Nat) (a0 : List D) (a1 : List D) : funD Tg Zss m 4 Zbr Tryz.f85 [(D.agg a0),(D.agg a1)] = Zm2 m a0 a1 := by kernel_rfl
theorem Z1a3 : Enters Tg 85 := ⟨Tryz.f85,Tryz.func85,by kernel_rfl,by kernel_rfl⟩
theorem Z1a4 {ds : List D} {d : D} (h : funD Tg Zss M 4 Zbr Tryz.f85 ds = some d) : DataSem Tg 85 ds d := Zf (H := Zss) (SpOk.cons Zlj SpOk.nil) mixed (InlOk.cons Tryz.func112 Z1hi InlOk.nil) Tryz.func85 Z1a3 h
noncomputable def Z81 : List D → Option D
 | [.agg a0,.agg a1] => Zm2 M a0 a1
 | _ => none
theorem Zyd : ∀ ds d,Z81 ds = some d → DataSem Tg 85 ds d := by
 intro ds d h
 unfold Z81 at h
 split at h
 ·exact Z1a4 ((Z15e M _ _).trans h)
 ·cases h
def Z54 : FnH := ⟨[(4,⟨(bm 7169 38),[],(some 0)⟩)],[]⟩
noncomputable def Z82 : Hints := ⟨[(85,Z81),(109,Zb4)],[],[]⟩
noncomputable def Z9z (m n0 : Nat) (Zz : Nat) (Z13 : Option Nat) (Z18 : List D) (Z1b : Int) (Z14 : Int) : Option D :=
 Z1e (bm 7169 38) 0 0 (codeK Tg Z82.sp ⟨0,[],false,[]⟩ (inlK Tg Z82 m 4) m Z54 (subc [1,1,0,1,0,0] (bodyOf Tryz.f89))) n0 ⟨[(AV.d (D.list Zz Z13 Z18)),Jk,Jk,Jk,Jk,Jk,Jk,Jk,Jk,Jk,(AV.d (D.list Zz Z13 Z18)),(AV.d (D.v (.int .i64 Z1b))),(AV.d (D.v (.int .i64 Z14))),Jk,Jk,Jk,Jk,Jk,Jk,Jk,Jk,Jk,Jk,Jk,Jk,Jk,Jk,Jk,Jk,Jk,Jk,Jk,Jk,Jk,Jk,Jk,Jk,Jk],[]⟩
  (contK Tg Z82.sp ⟨0,[],false,[]⟩ (inlK Tg Z82 m 4) m Z54 (endK Tg Tryz.f89 (fun v L => viewK L 8 v some)) [.block 0,.code (subc [1,1,1] (bodyOf Tryz.f89))])
theorem Z119 (m n0 : Nat) (Zz : Nat) (Z13 : Option Nat) (Z18 : List D) (Z1b : Int) (Z14 : Int) : Z9z m (n0 + 1) Zz Z13 Z18 Z1b Z14 =
 (cond (decide (Z14 < Z1b))
 (if 0 ≤ Z14 ∧ Z14 < (Zz : Int) then
 if (((Int.toNat Z14) * 17) + 17) ≤ (List.length Z18) then
 if (List.length ((List.drop ((Int.toNat Z14) * 17) Z18).take 17)) = 17 then
 (Zb4 [(D.agg ((List.drop ((Int.toNat Z14) * 17) Z18).take 17))]).bind fun d7 =>
 (rdI .i64 (some d7)).bind fun x8 =>
 cond (x8 != (0 : Int))
 (some (D.v (.int .i64 x8)))
 (cond (Z14 == (0 : Int))
 (Z9z m n0 Zz Z13 Z18 Z1b (IntKind.wrap .i64 (Z14 + (1 : Int))))
 (if 0 ≤ (IntKind.wrap .i64 (Z14 - (1 : Int))) ∧ (IntKind.wrap .i64 (Z14 - (1 : Int))) < (Zz : Int) then
 if (((Int.toNat (IntKind.wrap .i64 (Z14 - (1 : Int)))) * 17) + 17) ≤ (List.length Z18) then
 (Z81 [(D.agg ((List.drop ((Int.toNat (IntKind.wrap .i64 (Z14 - (1 : Int)))) * 17) Z18).take 17)),(D.agg ((List.drop ((Int.toNat Z14) * 17) Z18).take 17))]).bind fun d9 =>
 (rdI .i64 (some d9)).bind fun x10 =>
 cond (x10 == (0 : Int))
 (some (D.v (.int .i64 (14 : Int))))
 (cond (decide (x10 > (0 : Int)))
 (some (D.v (.int .i64 (13 : Int))))
 (Z9z m n0 Zz Z13 Z18 Z1b (IntKind.wrap .i64 (Z14 + (1 : Int)))))
 else none
 else none))
 else none
 else none
 else none)
 (some zI)) := by kernel_rfl
noncomputable def Zjp (m : Nat) (a0n : Nat) (a0c : Option Nat) (a0 : List D) : Option D :=
 cond (decide ((a0n : Int) > (256 : Int)))
 (some (D.v (.int .i64 (3 : Int))))
 (Z9z m m a0n a0c a0 (a0n : Int) (0 : Int))
theorem Z13n (m : Nat) (a0n : Nat) (a0c : Option Nat) (a0 : List D) : funD Tg Z82 m 4 Z54 Tryz.f89 [(D.list a0n a0c a0)] = Zjp m a0n a0c a0 := by kernel_rfl
theorem Z17i : Enters Tg 89 := ⟨Tryz.f89,Tryz.func89,by kernel_rfl,by kernel_rfl⟩
theorem Z17j {ds : List D} {d : D} (h : funD Tg Z82 M 4 Z54 Tryz.f89 ds = some d) : DataSem Tg 89 ds d := Zf (H := Z82) (SpOk.cons Zyd (SpOk.cons Z13m SpOk.nil)) mixed InlOk.nil Tryz.func89 Z17i h
noncomputable def Zbs : List D → Option D
 | [.list a0n a0c a0] => Zjp M a0n a0c a0
 | _ => none
theorem Z17k : ∀ ds d,Zbs ds = some d → DataSem Tg 89 ds d := by
 intro ds d h
 unfold Zbs at h
 split at h
 ·exact Z17j ((Z13n M _ _ _).trans h)
 ·cases h
def Z3q : FnH := ⟨[(4,⟨(bm 10 46),[],(some 1)⟩)],[(3,⟨(bm 2 46),[],(some 1)⟩)]⟩
noncomputable def Z5x : Hints := ⟨[],[],[]⟩
noncomputable def Zwe (m : Nat) (Z2y : List D) : Option D :=
 cutK m (codeK Tg Z5x.sp ⟨0,[],false,[]⟩ (inlK Tg Z5x m 4) m Z3q (subc [1,1] (bodyOf Tryz.f91)) ⟨[Jk,(AV.ptr 0 0),Jk,Jk,Jk,Jk,Jk,Jk,Jk,Jk,Jk,Jk,Jk,Jk,Jk,Jk,Jk,Jk,Jk,Jk,Jk,Jk,Jk,Jk,Jk,Jk,Jk,Jk,Jk,Jk,Jk,Jk,Jk,Jk,Jk,Jk,Jk,Jk,Jk,Jk,Jk,Jk,Jk,Jk,Jk,Jk],[(Blk.d 17 Z2y)]⟩
  (contK Tg Z5x.sp ⟨0,[],false,[]⟩ (inlK Tg Z5x m 4) m Z3q (endK Tg Tryz.f91 (fun v L => viewK L 8 v some)) []))
noncomputable def Zjq (m n0 : Nat) (Zz : Int) (Z13 : List D) : Option D :=
 Z1e (bm 10 46) 0 1 (codeK Tg Z5x.sp ⟨0,[],false,[]⟩ (inlK Tg Z5x m 4) m Z3q (subc [1,1,0,1,0,0] (bodyOf Tryz.f91))) n0 ⟨[Jk,(AV.ptr 0 0),Jk,(AV.d (D.v (.int .i64 Zz))),Jk,Jk,Jk,Jk,Jk,Jk,Jk,Jk,Jk,Jk,Jk,Jk,Jk,Jk,Jk,Jk,Jk,Jk,Jk,Jk,Jk,Jk,Jk,Jk,Jk,Jk,Jk,Jk,Jk,Jk,Jk,Jk,Jk,Jk,Jk,Jk,Jk,Jk,Jk,Jk,Jk,Jk],[(Blk.d 17 Z13)]⟩
  (contK Tg Z5x.sp ⟨0,[],false,[]⟩ (inlK Tg Z5x m 4) m Z3q (endK Tg Tryz.f91 (fun v L => viewK L 8 v some)) [.block 0,.code (subc [1,1,1] (bodyOf Tryz.f91))])
theorem Z15f (m n0 : Nat) (Zz : Int) (Z13 : List D) : Zjq m (n0 + 1) Zz Z13 =
 (cond (decide (Zz < (16 : Int)))
 (if 0 ≤ Zz ∧ Zz < (16 : Int) then
 (rdI .u32 Z13[(1 + ((Int.toNat Zz) * 1))]?).bind fun x5 =>
 cond (x5 != (0 : Int))
 (some (D.v (.int .i64 (1 : Int))))
 (Zjq m n0 (IntKind.wrap .i64 (Zz + (1 : Int))) Z13)
 else none)
 ((rdI .u32 Z13[1]?).bind fun x6 =>
 cond (decide (x6 < (2 : Int)))
 ((rdI .u32 Z13[2]?).bind fun x7 =>
 cond (decide (x7 < (40 : Int)))
 (some zI)
 ((rdI .u32 Z13[1]?).bind fun x8 =>
 cond (x8 == (2 : Int))
 ((rdI .u32 Z13[2]?).bind fun x9 =>
 cond (decide (x9 ≤ (4294967215 : Int)))
 (some zI)
 (some (D.v (.int .i64 (1 : Int)))))
 (some (D.v (.int .i64 (1 : Int))))))
 ((rdI .u32 Z13[1]?).bind fun x10 =>
 cond (x10 == (2 : Int))
 ((rdI .u32 Z13[2]?).bind fun x11 =>
 cond (decide (x11 ≤ (4294967215 : Int)))
 (some zI)
 (some (D.v (.int .i64 (1 : Int)))))
 (some (D.v (.int .i64 (1 : Int))))))) := by kernel_rfl
theorem Z13o (m : Nat) (Z2y : List D) : Zwe m Z2y =
 ((rdI .u8 Z2y[0]?).bind fun x3 =>
 Zjq m m (IntKind.wrap .i64 x3) Z2y) := (Z1y m _).trans (by kernel_rfl)
noncomputable def Zpa (m : Nat) (a0 : List D) : Option D :=
 if (List.length a0) = 17 then
 (rdI .u8 a0[0]?).bind fun x1 =>
 cond (decide (x1 < (2 : Int)))
 (some (D.v (.int .i64 (1 : Int))))
 ((rdI .u8 a0[0]?).bind fun x2 =>
 cond (decide (x2 > (16 : Int)))
 (some (D.v (.int .i64 (1 : Int))))
 (Zwe m a0))
 else none
theorem Z17l (m : Nat) (a0 : List D) : funD Tg Z5x m 4 Z3q Tryz.f91 [(D.agg a0)] = Zpa m a0 := by kernel_rfl
theorem Z1c6 : Enters Tg 91 := ⟨Tryz.f91,Tryz.func91,by kernel_rfl,by kernel_rfl⟩
theorem Z1c7 {ds : List D} {d : D} (h : funD Tg Z5x M 4 Z3q Tryz.f91 ds = some d) : DataSem Tg 91 ds d := Zf (H := Z5x) SpOk.nil mixed InlOk.nil Tryz.func91 Z1c6 h
noncomputable def Z91 : List D → Option D
 | [.agg a0] => Zpa M a0
 | _ => none
theorem Z10n : ∀ ds d,Z91 ds = some d → DataSem Tg 91 ds d := by
 intro ds d h
 unfold Z91 at h
 split at h
 ·exact Z1c7 ((Z17l M _).trans h)
 ·cases h
def Z1v : FnH := ⟨[(3,⟨(bm 236 50),[],(some 2)⟩)],[(5,⟨(bm 236 50),[],(some 2)⟩),(9,⟨(bm 96 50),[],(some 0)⟩)]⟩
noncomputable def Z2v : Hints := ⟨[],[],[]⟩
noncomputable def Zfi (m n0 : Nat) (Zz : Int) (Z13 : Int) (Z18 : Int) (Z1b : List D) (Z14 : List D) : Option D :=
 Z1e (bm 236 50) 0 2 (codeK Tg Z2v.sp ⟨0,[],false,[]⟩ (inlK Tg Z2v m 4) m Z1v (subc [1,1,0,1,0,0] (bodyOf Tryz.f62))) n0 ⟨[Jk,Jk,(AV.ptr 0 0),(AV.ptr 1 0),Jk,(AV.d (D.v (.int .i64 Zz))),(AV.d (D.v (.int .i64 Z13))),(AV.d (D.v (.int .i64 Z18))),Jk,Jk,Jk,Jk,Jk,Jk,Jk,Jk,Jk,Jk,Jk,Jk,Jk,Jk,Jk,Jk,Jk,Jk,Jk,Jk,Jk,Jk,Jk,Jk,Jk,Jk,Jk,Jk,Jk,Jk,Jk,Jk,Jk,Jk,Jk,Jk,Jk,Jk,Jk,Jk,Jk,Jk],[(Blk.d 17 Z1b),(Blk.d 17 Z14)]⟩
  (contK Tg Z2v.sp ⟨0,[],false,[]⟩ (inlK Tg Z2v m 4) m Z1v (endK Tg Tryz.f62 (fun v L => viewK L 8 v some)) [.block 0,.code (subc [1,1,1] (bodyOf Tryz.f62))])
noncomputable def Zs2 (m n0 : Nat) (Z2y : Int) (Z4c : Int) (Z40 : Int) (Z3k : List D) (Z2j : List D) : Option D :=
 cutK m (codeK Tg Z2v.sp ⟨0,[],false,[]⟩ (inlK Tg Z2v m 4) m Z1v (subc [1,1,0,1,0,0,1] (bodyOf Tryz.f62)) ⟨[Jk,Jk,(AV.ptr 0 0),(AV.ptr 1 0),Jk,(AV.d (D.v (.int .i64 Z2y))),(AV.d (D.v (.int .i64 Z4c))),(AV.d (D.v (.int .i64 Z40))),Jk,Jk,Jk,Jk,Jk,Jk,Jk,Jk,Jk,Jk,Jk,Jk,Jk,Jk,Jk,Jk,Jk,Jk,Jk,Jk,Jk,Jk,Jk,Jk,Jk,Jk,Jk,Jk,Jk,Jk,Jk,Jk,Jk,Jk,Jk,Jk,Jk,Jk,Jk,Jk,Jk,Jk],[(Blk.d 17 Z3k),(Blk.d 17 Z2j)]⟩
  (contK Tg Z2v.sp ⟨0,[],false,[]⟩ (inlK Tg Z2v m 4) m Z1v (endK Tg Tryz.f62 (fun v L => viewK L 8 v some)) [.loop (bm 236 50) 2 (subc [1,1,0,1,0,0] (bodyOf Tryz.f62)) n0,.block 0,.code (subc [1,1,1] (bodyOf Tryz.f62))]))
theorem Zzm (m n0 : Nat) (Z2y : Int) (Z4c : Int) (Z40 : Int) (Z3k : List D) (Z2j : List D) : Zs2 m n0 Z2y Z4c Z40 Z3k Z2j =
 (if 0 ≤ Z40 ∧ Z40 < (16 : Int) then
 (rdI .u32 Z3k[(1 + ((Int.toNat Z40) * 1))]?).bind fun x11 =>
 if 0 ≤ Z40 ∧ Z40 < (16 : Int) then
 (rdI .u32 Z2j[(1 + ((Int.toNat Z40) * 1))]?).bind fun x12 =>
 cond (decide (x11 < x12))
 (some (D.v (.int .i64 (-1 : Int))))
 (if 0 ≤ Z40 ∧ Z40 < (16 : Int) then
 (rdI .u32 Z3k[(1 + ((Int.toNat Z40) * 1))]?).bind fun x13 =>
 if 0 ≤ Z40 ∧ Z40 < (16 : Int) then
 (rdI .u32 Z2j[(1 + ((Int.toNat Z40) * 1))]?).bind fun x14 =>
 cond (decide (x13 > x14))
 (some (D.v (.int .i64 (1 : Int))))
 (Zfi m n0 Z2y Z4c (IntKind.wrap .i64 (Z40 + (1 : Int))) Z3k Z2j)
 else none
 else none)
 else none
 else none) := (Z1y m _).trans (by kernel_rfl)
noncomputable def Zjr (m : Nat) (Z9n : Int) (Zbt : Int) : Option D :=
 cutK m (codeK Tg Z2v.sp ⟨0,[],false,[]⟩ (inlK Tg Z2v m 4) m Z1v (subc [1,1,1] (bodyOf Tryz.f62)) ⟨[Jk,Jk,Jk,Jk,Jk,(AV.d (D.v (.int .i64 Z9n))),(AV.d (D.v (.int .i64 Zbt))),Jk,Jk,Jk,Jk,Jk,Jk,Jk,Jk,Jk,Jk,Jk,Jk,Jk,Jk,Jk,Jk,Jk,Jk,Jk,Jk,Jk,Jk,Jk,Jk,Jk,Jk,Jk,Jk,Jk,Jk,Jk,Jk,Jk,Jk,Jk,Jk,Jk,Jk,Jk,Jk,Jk,Jk,Jk],[]⟩
  (contK Tg Z2v.sp ⟨0,[],false,[]⟩ (inlK Tg Z2v m 4) m Z1v (endK Tg Tryz.f62 (fun v L => viewK L 8 v some)) []))
theorem Zzn (m : Nat) (Z9n : Int) (Zbt : Int) : Zjr m Z9n Zbt =
 (cond (decide (Z9n < Zbt))
 (some (D.v (.int .i64 (-1 : Int))))
 (cond (decide (Z9n > Zbt))
 (some (D.v (.int .i64 (1 : Int))))
 (some zI))) := (Z1y m _).trans (by kernel_rfl)
theorem Z11a (m n0 : Nat) (Zz : Int) (Z13 : Int) (Z18 : Int) (Z1b : List D) (Z14 : List D) : Zfi m (n0 + 1) Zz Z13 Z18 Z1b Z14 =
 (cond (decide (Z18 < Zz))
 (cond (decide (Z18 < Z13))
 (Zs2 m n0 Zz Z13 Z18 Z1b Z14)
 (Zjr m Zz Z13))
 (Zjr m Zz Z13)) := by kernel_rfl
noncomputable def Zjs (m : Nat) (a0 : List D) (a1 : List D) : Option D :=
 if (List.length a0) = 17 then
 if (List.length a1) = 17 then
 (rdI .u8 a0[0]?).bind fun x1 =>
 (rdI .u8 a1[0]?).bind fun x2 =>
 Zfi m m (mm true (IntKind.wrap .i64 x1) (16 : Int)) (mm true (IntKind.wrap .i64 x2) (16 : Int)) (0 : Int) a0 a1
 else none
 else none
theorem Z13p (m : Nat) (a0 : List D) (a1 : List D) : funD Tg Z2v m 4 Z1v Tryz.f62 [(D.agg a0),(D.agg a1)] = Zjs m a0 a1 := by kernel_rfl
theorem Z17m : Enters Tg 62 := ⟨Tryz.f62,Tryz.func62,by kernel_rfl,by kernel_rfl⟩
theorem Z17n {ds : List D} {d : D} (h : funD Tg Z2v M 4 Z1v Tryz.f62 ds = some d) : DataSem Tg 62 ds d := Zf (H := Z2v) SpOk.nil mixed InlOk.nil Tryz.func62 Z17m h
noncomputable def Z5l : List D → Option D
 | [.agg a0,.agg a1] => Zjs M a0 a1
 | _ => none
theorem Zo1 : ∀ ds d,Z5l ds = some d → DataSem Tg 62 ds d := by
 intro ds d h
 unfold Z5l at h
 split at h
 ·exact Z17n ((Z13p M _ _).trans h)
 ·cases h
def Z3r : FnH := ⟨[(4,⟨(bm 9 36),[],(some 0)⟩)],[(5,⟨(bm 9 36),[],(some 0)⟩)]⟩
noncomputable def Z5y : Hints := ⟨[(62,Z5l),(91,Z91)],[],[]⟩
noncomputable def Zjt (m n0 : Nat) (Zz : Nat) (Z13 : Option Nat) (Z18 : List D) (Z1b : Int) : Option D :=
 Z1e (bm 9 36) 0 0 (codeK Tg Z5y.sp ⟨0,[],false,[]⟩ (inlK Tg Z5y m 4) m Z3r (subc [1,1,0,1,0,0] (bodyOf Tryz.f53))) n0 ⟨[(AV.d (D.list Zz Z13 Z18)),Jk,Jk,(AV.d (D.v (.int .i64 Z1b))),Jk,Jk,Jk,Jk,Jk,Jk,Jk,Jk,Jk,Jk,Jk,Jk,Jk,Jk,Jk,Jk,Jk,Jk,Jk,Jk,Jk,Jk,Jk,Jk,Jk,Jk,Jk,Jk,Jk,Jk,Jk,Jk],[]⟩
  (contK Tg Z5y.sp ⟨0,[],false,[]⟩ (inlK Tg Z5y m 4) m Z3r (endK Tg Tryz.f53 (fun v L => viewK L 8 v some)) [.block 0,.code (subc [1,1,1] (bodyOf Tryz.f53))])
noncomputable def Zo2 (m n0 : Nat) (Z2y : Nat) (Z4c : Option Nat) (Z40 : List D) (Z3k : Int) : Option D :=
 cutK m (codeK Tg Z5y.sp ⟨0,[],false,[]⟩ (inlK Tg Z5y m 4) m Z3r (subc [1,1,0,1,0,0,1,1] (bodyOf Tryz.f53)) ⟨[(AV.d (D.list Z2y Z4c Z40)),Jk,Jk,(AV.d (D.v (.int .i64 Z3k))),Jk,Jk,Jk,Jk,Jk,Jk,Jk,Jk,Jk,Jk,Jk,Jk,Jk,Jk,Jk,Jk,Jk,Jk,Jk,Jk,Jk,Jk,Jk,Jk,Jk,Jk,Jk,Jk,Jk,Jk,Jk,Jk],[]⟩
  (contK Tg Z5y.sp ⟨0,[],false,[]⟩ (inlK Tg Z5y m 4) m Z3r (endK Tg Tryz.f53 (fun v L => viewK L 8 v some)) [.loop (bm 9 36) 0 (subc [1,1,0,1,0,0] (bodyOf Tryz.f53)) n0,.block 0,.code (subc [1,1,1] (bodyOf Tryz.f53))]))
theorem Z13q (m n0 : Nat) (Z2y : Nat) (Z4c : Option Nat) (Z40 : List D) (Z3k : Int) : Zo2 m n0 Z2y Z4c Z40 Z3k =
 (Zjt m n0 Z2y Z4c Z40 (IntKind.wrap .i64 (Z3k + (1 : Int)))) := (Z1y m _).trans (by kernel_rfl)
theorem Z15g (m n0 : Nat) (Zz : Nat) (Z13 : Option Nat) (Z18 : List D) (Z1b : Int) : Zjt m (n0 + 1) Zz Z13 Z18 Z1b =
 (cond (decide (Z1b < (Zz : Int)))
 (if 0 ≤ Z1b ∧ Z1b < (Zz : Int) then
 if (((Int.toNat Z1b) * 17) + 17) ≤ (List.length Z18) then
 (Z91 [(D.agg ((List.drop ((Int.toNat Z1b) * 17) Z18).take 17))]).bind fun d7 =>
 (rdI .i64 (some d7)).bind fun x8 =>
 cond (x8 != (0 : Int))
 (some (D.v (.int .i64 (1 : Int))))
 (cond (decide (Z1b > (0 : Int)))
 (if 0 ≤ (IntKind.wrap .i64 (Z1b - (1 : Int))) ∧ (IntKind.wrap .i64 (Z1b - (1 : Int))) < (Zz : Int) then
 if (((Int.toNat (IntKind.wrap .i64 (Z1b - (1 : Int)))) * 17) + 17) ≤ (List.length Z18) then
 if 0 ≤ Z1b ∧ Z1b < (Zz : Int) then
 if (((Int.toNat Z1b) * 17) + 17) ≤ (List.length Z18) then
 (Z5l [(D.agg ((List.drop ((Int.toNat (IntKind.wrap .i64 (Z1b - (1 : Int)))) * 17) Z18).take 17)),(D.agg ((List.drop ((Int.toNat Z1b) * 17) Z18).take 17))]).bind fun d9 =>
 (rdI .i64 (some d9)).bind fun x10 =>
 cond (x10 == (0 : Int))
 (some (D.v (.int .i64 (14 : Int))))
 (cond (decide (x10 > (0 : Int)))
 (some (D.v (.int .i64 (13 : Int))))
 (Zo2 m n0 Zz Z13 Z18 Z1b))
 else none
 else none
 else none
 else none)
 (Zo2 m n0 Zz Z13 Z18 Z1b))
 else none
 else none)
 (some zI)) := by kernel_rfl
noncomputable def Zpb (m : Nat) (a0n : Nat) (a0c : Option Nat) (a0 : List D) : Option D :=
 cond (decide ((a0n : Int) > (256 : Int)))
 (some (D.v (.int .i64 (3 : Int))))
 (Zjt m m a0n a0c a0 (0 : Int))
theorem Z17o (m : Nat) (a0n : Nat) (a0c : Option Nat) (a0 : List D) : funD Tg Z5y m 4 Z3r Tryz.f53 [(D.list a0n a0c a0)] = Zpb m a0n a0c a0 := by kernel_rfl
theorem Z1c8 : Enters Tg 53 := ⟨Tryz.f53,Tryz.func53,by kernel_rfl,by kernel_rfl⟩
theorem Z1c9 {ds : List D} {d : D} (h : funD Tg Z5y M 4 Z3r Tryz.f53 ds = some d) : DataSem Tg 53 ds d := Zf (H := Z5y) (SpOk.cons Zo1 (SpOk.cons Z10n SpOk.nil)) mixed InlOk.nil Tryz.func53 Z1c8 h
noncomputable def Zgt : List D → Option D
 | [.list a0n a0c a0] => Zpb M a0n a0c a0
 | _ => none
theorem Z1ca : ∀ ds d,Zgt ds = some d → DataSem Tg 53 ds d := by
 intro ds d h
 unfold Zgt at h
 split at h
 ·exact Z1c9 ((Z17o M _ _ _).trans h)
 ·cases h
end Go.Ev