/- Functions of the given program in plain form,printed: each with the proof that it is what the evaluator comes to,and that the program function returns what it says. No conditions. -/
import Derived.Test.YtkefahdbckjajaaGreatDoorEzK1
import Derived.Test.YtkefahdbckjajaaGreatDoorEzK2
set_option linter.unusedVariables false
set_option maxRecDepth 100000
namespace Go.Ev
open Go Go.Proofs

def Z2h : FnH := ⟨[(6,⟨(bm 1924145348608 47),[],(some 1)⟩)],[(3,⟨(bm 2 47),[],(some 1)⟩),(5,⟨(bm 2 47),[],(some 1)⟩)]⟩
noncomputable def Z4k : Hints := ⟨[],[],[]⟩
noncomputable def Zxe (m : Nat) (Z2o : List D) : Option D :=
 cutK m (codeK Tg Z4k.sp ⟨0,[],false,[]⟩ (inlK Tg Z4k m 4) m Z2h (subc [1,1] (bodyOf Tryz.f109)) ⟨[Jk,(AV.ptr 0 0),Jk,Jk,Jk,Jk,Jk,Jk,Jk,Jk,Jk,Jk,Jk,Jk,Jk,Jk,Jk,Jk,Jk,Jk,Jk,Jk,Jk,Jk,Jk,Jk,Jk,Jk,Jk,Jk,Jk,Jk,Jk,Jk,Jk,Jk,Jk,Jk,Jk,Jk,Jk,Jk,Jk,Jk,Jk,Jk,Jk],[(Blk.d 17 Z2o)]⟩
  (contK Tg Z4k.sp ⟨0,[],false,[]⟩ (inlK Tg Z4k m 4) m Z2h (endK Tg Tryz.f109 (fun v L => viewK L 8 v some)) []))
noncomputable def Zja (m : Nat) (Z8i : List D) : Option D :=
 cutK m (codeK Tg Z4k.sp ⟨0,[],false,[]⟩ (inlK Tg Z4k m 4) m Z2h (subc [1,1,1] (bodyOf Tryz.f109)) ⟨[Jk,(AV.ptr 0 0),Jk,Jk,Jk,Jk,Jk,Jk,Jk,Jk,Jk,Jk,Jk,Jk,Jk,Jk,Jk,Jk,Jk,Jk,Jk,Jk,Jk,Jk,Jk,Jk,Jk,Jk,Jk,Jk,Jk,Jk,Jk,Jk,Jk,Jk,Jk,Jk,Jk,Jk,Jk,Jk,Jk,Jk,Jk,Jk,Jk],[(Blk.d 17 Z8i)]⟩
  (contK Tg Z4k.sp ⟨0,[],false,[]⟩ (inlK Tg Z4k m 4) m Z2h (endK Tg Tryz.f109 (fun v L => viewK L 8 v some)) []))
noncomputable def Zlm (m n0 : Nat) (Zl : Nat) (Zt : Nat) (Zy : Int) (Z11 : Int) (Zs : List D) : Option D :=
 Z15 (bm 1924145348608 47) 0 1 (codeK Tg Z4k.sp ⟨0,[],false,[]⟩ (inlK Tg Z4k m 4) m Z2h (subc [1,1,1,0,1,0,0] (bodyOf Tryz.f109))) n0 ⟨[Jk,Jk,Jk,Jk,Jk,Jk,Jk,Jk,Jk,Jk,Jk,Jk,Jk,Jk,Jk,Jk,Jk,Jk,Jk,Jk,Jk,Jk,Jk,Jk,Jk,Jk,Jk,Jk,Jk,Jk,Jk,Jk,Jk,Jk,Jk,Jk,Jk,Jk,(AV.sl 0 Zl Zt (some Zt) 1),(AV.d (D.v (.int .i64 Zy))),(AV.d (D.v (.int .i64 Z11))),Jk,Jk,Jk,Jk,Jk,Jk],[(Blk.d 17 Zs)]⟩
  (contK Tg Z4k.sp ⟨0,[],false,[]⟩ (inlK Tg Z4k m 4) m Z2h (endK Tg Tryz.f109 (fun v L => viewK L 8 v some)) [.block 0,.code (subc [1,1,1,1] (bodyOf Tryz.f109))])
theorem Z16m (m n0 : Nat) (Zl : Nat) (Zt : Nat) (Zy : Int) (Z11 : Int) (Zs : List D) : Zlm m (n0 + 1) Zl Zt Zy Z11 Zs =
 (cond (decide (Z11 < Zy))
 (if 0 ≤ Z11 ∧ Z11 < (Zt : Int) then
 (rdI .u32 Zs[(Zl + ((Int.toNat Z11) * 1))]?).bind fun x10 =>
 cond (x10 != (0 : Int))
 (some (D.v (.int .i64 (1 : Int))))
 (Zlm m n0 Zl Zt Zy (IntKind.wrap .i64 (Z11 + (1 : Int))) Zs)
 else none)
 (some zI)) := by kernel_rfl
theorem Z14e (m : Nat) (Z8i : List D) : Zja m Z8i =
 ((rdI .u8 Z8i[0]?).bind fun x7 =>
 if 0 ≤ x7 ∧ x7 ≤ (16 : Int) then
 Zlm m m (1 + ((Int.toNat x7) * 1)) (16 - (Int.toNat x7)) (((16 - (Int.toNat x7)) : Nat) : Int) (0 : Int) Z8i
 else none) := (Z1t m _).trans (by kernel_rfl)
theorem Z14f (m : Nat) (Z2o : List D) : Zxe m Z2o =
 ((rdI .u32 Z2o[1]?).bind fun x4 =>
 cond (decide (x4 < (2 : Int)))
 ((rdI .u32 Z2o[2]?).bind fun x5 =>
 cond (decide (x5 > (39 : Int)))
 (some (D.v (.int .i64 (1 : Int))))
 ((rdI .u32 Z2o[2]?).bind fun x6 =>
 cond (decide (x6 > (4294967215 : Int)))
 (some (D.v (.int .i64 (1 : Int))))
 (Zja m Z2o)))
 ((rdI .u32 Z2o[2]?).bind fun x11 =>
 cond (decide (x11 > (4294967215 : Int)))
 (some (D.v (.int .i64 (1 : Int))))
 (Zja m Z2o))) := (Z1t m _).trans (by kernel_rfl)
noncomputable def Zrl (m : Nat) (a0 : List D) : Option D :=
 if (List.length a0) = 17 then
 (rdI .u8 a0[0]?).bind fun x1 =>
 cond (decide (x1 < (2 : Int)))
 (some (D.v (.int .i64 (1 : Int))))
 ((rdI .u8 a0[0]?).bind fun x2 =>
 cond (decide (x2 > (16 : Int)))
 (some (D.v (.int .i64 (1 : Int))))
 ((rdI .u32 a0[1]?).bind fun x3 =>
 cond (decide (x3 > (2 : Int)))
 (some (D.v (.int .i64 (1 : Int))))
 (Zxe m a0)))
 else none
theorem Z19c (m : Nat) (a0 : List D) : funD Tg Z4k m 4 Z2h Tryz.f109 [(D.agg a0)] = Zrl m a0 := by kernel_rfl
theorem Z1e1 : Enters Tg 109 := ⟨Tryz.f109,Tryz.func109,by kernel_rfl,by kernel_rfl⟩
theorem Z1e2 {ds : List D} {d : D} (h : funD Tg Z4k M 4 Z2h Tryz.f109 ds = some d) : DataSem Tg 109 ds d := Z8 (H := Z4k) SpOk.nil mixed InlOk.nil Tryz.func109 Z1e1 h
noncomputable def Zap : List D → Option D
  | [.agg a0] => Zrl M a0
  | _ => none
theorem Z12o : ∀ ds d,Zap ds = some d → DataSem Tg 109 ds d := by
  intro ds d h
  unfold Zap at h
  split at h
  · exact Z1e2 ((Z19c M _).trans h)
  · cases h

def Z64 : FnH := ⟨[],[]⟩
def Ze4 : FnH := ⟨[],[]⟩
noncomputable def Zfw : Hints := ⟨[],[(157,Tryz.f157,Ze4)],[]⟩
noncomputable def Z99 (m : Nat) (a0 : Int) (a1 : Int) : Option D :=
 cond (a0 != a0)
 (cond (a1 != a1)
 (some zI)
 (some (D.v (.int .i64 (-1 : Int)))))
 (cond (a1 != a1)
 (some (D.v (.int .i64 (1 : Int))))
 (cond (decide (a0 < a1))
 (some (D.v (.int .i64 (-1 : Int))))
 (cond (decide (a0 > a1))
 (some (D.v (.int .i64 (1 : Int))))
 (some zI))))
theorem Zub (m : Nat) (a0 : Int) (a1 : Int) : funD Tg Zfw m 4 Z64 Tryz.f135 [(D.v (.int .u32 a0)),(D.v (.int .u32 a1))] = Z99 m a0 a1 := by kernel_rfl
theorem Zxf : Enters Tg 135 := ⟨Tryz.f135,Tryz.func135,by kernel_rfl,by kernel_rfl⟩
theorem Zxg {ds : List D} {d : D} (h : funD Tg Zfw M 4 Z64 Tryz.f135 ds = some d) : DataSem Tg 135 ds d := Z8 (H := Zfw) SpOk.nil mixed (InlOk.cons Tryz.func157 Z103 InlOk.nil) Tryz.func135 Zxf h
noncomputable def Z6s : List D → Option D
  | [.v (.int .u32 a0),.v (.int .u32 a1)] => Z99 M a0 a1
  | _ => none
theorem Zxh : ∀ ds d,Z6s ds = some d → DataSem Tg 135 ds d := by
  intro ds d h
  unfold Z6s at h
  split at h
  · exact Zxg ((Zub M _ _).trans h)
  · cases h

def Z16 : FnH := ⟨[(2,⟨(bm 3587 36),[],(some 0)⟩)],[]⟩
noncomputable def Z24 : Hints := ⟨[(135,Z6s)],[],[]⟩
noncomputable def Z4h (m n0 : Nat) (Zl : Nat) (Zt : Option Nat) (Zy : List D) (Z11 : Nat) (Zs : Option Nat) (Z1b : List D) (Z1o : Int) (Z2r : Int) : Option D :=
 Z15 (bm 3587 36) 0 0 (codeK Tg Z24.sp ⟨0,[],false,[]⟩ (inlK Tg Z24 m 4) m Z16 (subc [1,0,1,0,0] (bodyOf Tryz.f111))) n0 ⟨[(AV.d (D.list Zl Zt Zy)),(AV.d (D.list Z11 Zs Z1b)),Jk,Jk,Jk,Jk,Jk,Jk,Jk,(AV.d (D.list Zl Zt Zy)),(AV.d (D.v (.int .i64 Z1o))),(AV.d (D.v (.int .i64 Z2r))),Jk,Jk,Jk,Jk,Jk,Jk,Jk,Jk,Jk,Jk,Jk,Jk,Jk,Jk,Jk,Jk,Jk,Jk,Jk,Jk,Jk,Jk,Jk,Jk],[]⟩
  (contK Tg Z24.sp ⟨0,[],false,[]⟩ (inlK Tg Z24 m 4) m Z16 (endK Tg Tryz.f111 (fun v L => viewK L 8 v some)) [.block 0,.code (subc [1,1] (bodyOf Tryz.f111))])
theorem Zie (m n0 : Nat) (Zl : Nat) (Zt : Option Nat) (Zy : List D) (Z11 : Nat) (Zs : Option Nat) (Z1b : List D) (Z1o : Int) (Z2r : Int) : Z4h m (n0 + 1) Zl Zt Zy Z11 Zs Z1b Z1o Z2r =
 (cond (decide (Z2r < Z1o))
 (if 0 ≤ Z2r ∧ Z2r < (Zl : Int) then
 (rdI .u32 Zy[((Int.toNat Z2r) * 1)]?).bind fun x9 =>
 cond (decide (Z2r ≥ (Z11 : Int)))
 (some (D.v (.int .i64 (1 : Int))))
 (if 0 ≤ Z2r ∧ Z2r < (Z11 : Int) then
 (rdI .u32 Z1b[((Int.toNat Z2r) * 1)]?).bind fun x10 =>
 (Z6s [(D.v (.int .u32 x9)),(D.v (.int .u32 x10))]).bind fun d11 =>
 (rdI .i64 (some d11)).bind fun x12 =>
 cond (x12 != (0 : Int))
 (some (D.v (.int .i64 x12)))
 (Z4h m n0 Zl Zt Zy Z11 Zs Z1b Z1o (IntKind.wrap .i64 (Z2r + (1 : Int))))
 else none)
 else none)
 (cond (decide ((Zl : Int) < (Z11 : Int)))
 (some (D.v (.int .i64 (-1 : Int))))
 (some zI))) := by kernel_rfl
noncomputable def Za8 (m : Nat) (a0n : Nat) (a0c : Option Nat) (a0 : List D) (a1n : Nat) (a1c : Option Nat) (a1 : List D) : Option D :=
 Z4h m m a0n a0c a0 a1n a1c a1 (a0n : Int) (0 : Int)
theorem Zjb (m : Nat) (a0n : Nat) (a0c : Option Nat) (a0 : List D) (a1n : Nat) (a1c : Option Nat) (a1 : List D) : funD Tg Z24 m 4 Z16 Tryz.f111 [(D.list a0n a0c a0),(D.list a1n a1c a1)] = Za8 m a0n a0c a0 a1n a1c a1 := by kernel_rfl
theorem Zl1 : Enters Tg 111 := ⟨Tryz.f111,Tryz.func111,by kernel_rfl,by kernel_rfl⟩
theorem Zl2 {ds : List D} {d : D} (h : funD Tg Z24 M 4 Z16 Tryz.f111 ds = some d) : DataSem Tg 111 ds d := Z8 (H := Z24) (SpOk.cons Zxh SpOk.nil) mixed InlOk.nil Tryz.func111 Zl1 h
noncomputable def Z3a : List D → Option D
  | [.list a0n a0c a0,.list a1n a1c a1] => Za8 M a0n a0c a0 a1n a1c a1
  | _ => none
theorem Zl3 : ∀ ds d,Z3a ds = some d → DataSem Tg 111 ds d := by
  intro ds d h
  unfold Z3a at h
  split at h
  · exact Zl2 ((Zjb M _ _ _ _ _ _).trans h)
  · cases h

def Zbc : FnH := ⟨[],[]⟩
def Zqn : FnH := ⟨[],[]⟩
noncomputable def Zsc : Hints := ⟨[(111,Z3a)],[(112,Tryz.f112,Zqn)],[]⟩
noncomputable def Zln (m : Nat) (a0 : List D) (a1 : List D) : Option D :=
 if (List.length a0) = 17 then
 if (List.length a1) = 17 then
 (rdI .u8 a0[0]?).bind fun x1 =>
 if 0 ≤ (mm true (IntKind.wrap .i64 x1) (16 : Int)) ∧ (mm true (IntKind.wrap .i64 x1) (16 : Int)) ≤ (16 : Int) then
 (rdI .u8 a1[0]?).bind fun x2 =>
 if 0 ≤ (mm true (IntKind.wrap .i64 x2) (16 : Int)) ∧ (mm true (IntKind.wrap .i64 x2) (16 : Int)) ≤ (16 : Int) then
 if (1 + (((Int.toNat (mm true (IntKind.wrap .i64 x1) (16 : Int))) - 0) * 1)) ≤ 17 then
 if (1 + (((Int.toNat (mm true (IntKind.wrap .i64 x2) (16 : Int))) - 0) * 1)) ≤ 17 then
 (Z3a [(D.list ((Int.toNat (mm true (IntKind.wrap .i64 x1) (16 : Int))) - 0) (some 16) (cutL 17 a0 1 (((Int.toNat (mm true (IntKind.wrap .i64 x1) (16 : Int))) - 0) * 1))),(D.list ((Int.toNat (mm true (IntKind.wrap .i64 x2) (16 : Int))) - 0) (some 16) (cutL 17 a1 1 (((Int.toNat (mm true (IntKind.wrap .i64 x2) (16 : Int))) - 0) * 1)))]).bind fun d3 =>
 (rdI .i64 (some d3)).bind fun x4 =>
 some (D.v (.int .i64 x4))
 else none
 else none
 else none
 else none
 else none
 else none
theorem Z14g (m : Nat) (a0 : List D) (a1 : List D) : funD Tg Zsc m 4 Zbc Tryz.f85 [(D.agg a0),(D.agg a1)] = Zln m a0 a1 := by kernel_rfl
theorem Z19d : Enters Tg 85 := ⟨Tryz.f85,Tryz.func85,by kernel_rfl,by kernel_rfl⟩
theorem Z19e {ds : List D} {d : D} (h : funD Tg Zsc M 4 Zbc Tryz.f85 ds = some d) : DataSem Tg 85 ds d := Z8 (H := Zsc) (SpOk.cons Zl3 SpOk.nil) mixed (InlOk.cons Tryz.func112 Z1gi InlOk.nil) Tryz.func85 Z19d h
noncomputable def Z7o : List D → Option D
  | [.agg a0,.agg a1] => Zln M a0 a1
  | _ => none
theorem Zxi : ∀ ds d,Z7o ds = some d → DataSem Tg 85 ds d := by
  intro ds d h
  unfold Z7o at h
  split at h
  · exact Z19e ((Z14g M _ _).trans h)
  · cases h

def Z4o : FnH := ⟨[(4,⟨(bm 7169 38),[],(some 0)⟩)],[]⟩
noncomputable def Z7p : Hints := ⟨[(85,Z7o),(109,Zap)],[],[]⟩
noncomputable def Z9j (m n0 : Nat) (Zl : Nat) (Zt : Option Nat) (Zy : List D) (Z11 : Int) (Zs : Int) : Option D :=
 Z15 (bm 7169 38) 0 0 (codeK Tg Z7p.sp ⟨0,[],false,[]⟩ (inlK Tg Z7p m 4) m Z4o (subc [1,1,0,1,0,0] (bodyOf Tryz.f89))) n0 ⟨[(AV.d (D.list Zl Zt Zy)),Jk,Jk,Jk,Jk,Jk,Jk,Jk,Jk,Jk,(AV.d (D.list Zl Zt Zy)),(AV.d (D.v (.int .i64 Z11))),(AV.d (D.v (.int .i64 Zs))),Jk,Jk,Jk,Jk,Jk,Jk,Jk,Jk,Jk,Jk,Jk,Jk,Jk,Jk,Jk,Jk,Jk,Jk,Jk,Jk,Jk,Jk,Jk,Jk,Jk],[]⟩
  (contK Tg Z7p.sp ⟨0,[],false,[]⟩ (inlK Tg Z7p m 4) m Z4o (endK Tg Tryz.f89 (fun v L => viewK L 8 v some)) [.block 0,.code (subc [1,1,1] (bodyOf Tryz.f89))])
theorem Z10b (m n0 : Nat) (Zl : Nat) (Zt : Option Nat) (Zy : List D) (Z11 : Int) (Zs : Int) : Z9j m (n0 + 1) Zl Zt Zy Z11 Zs =
 (cond (decide (Zs < Z11))
 (if 0 ≤ Zs ∧ Zs < (Zl : Int) then
 if (((Int.toNat Zs) * 17) + 17) ≤ (List.length Zy) then
 if (List.length ((List.drop ((Int.toNat Zs) * 17) Zy).take 17)) = 17 then
 (Zap [(D.agg ((List.drop ((Int.toNat Zs) * 17) Zy).take 17))]).bind fun d7 =>
 (rdI .i64 (some d7)).bind fun x8 =>
 cond (x8 != (0 : Int))
 (some (D.v (.int .i64 x8)))
 (cond (Zs == (0 : Int))
 (Z9j m n0 Zl Zt Zy Z11 (IntKind.wrap .i64 (Zs + (1 : Int))))
 (if 0 ≤ (IntKind.wrap .i64 (Zs - (1 : Int))) ∧ (IntKind.wrap .i64 (Zs - (1 : Int))) < (Zl : Int) then
 if (((Int.toNat (IntKind.wrap .i64 (Zs - (1 : Int)))) * 17) + 17) ≤ (List.length Zy) then
 (Z7o [(D.agg ((List.drop ((Int.toNat (IntKind.wrap .i64 (Zs - (1 : Int)))) * 17) Zy).take 17)),(D.agg ((List.drop ((Int.toNat Zs) * 17) Zy).take 17))]).bind fun d9 =>
 (rdI .i64 (some d9)).bind fun x10 =>
 cond (x10 == (0 : Int))
 (some (D.v (.int .i64 (14 : Int))))
 (cond (decide (x10 > (0 : Int)))
 (some (D.v (.int .i64 (13 : Int))))
 (Z9j m n0 Zl Zt Zy Z11 (IntKind.wrap .i64 (Zs + (1 : Int)))))
 else none
 else none))
 else none
 else none
 else none)
 (some zI)) := by kernel_rfl
noncomputable def Zjc (m : Nat) (a0n : Nat) (a0c : Option Nat) (a0 : List D) : Option D :=
 cond (decide ((a0n : Int) > (256 : Int)))
 (some (D.v (.int .i64 (3 : Int))))
 (Z9j m m a0n a0c a0 (a0n : Int) (0 : Int))
theorem Z12p (m : Nat) (a0n : Nat) (a0c : Option Nat) (a0 : List D) : funD Tg Z7p m 4 Z4o Tryz.f89 [(D.list a0n a0c a0)] = Zjc m a0n a0c a0 := by kernel_rfl
theorem Z16n : Enters Tg 89 := ⟨Tryz.f89,Tryz.func89,by kernel_rfl,by kernel_rfl⟩
theorem Z16o {ds : List D} {d : D} (h : funD Tg Z7p M 4 Z4o Tryz.f89 ds = some d) : DataSem Tg 89 ds d := Z8 (H := Z7p) (SpOk.cons Zxi (SpOk.cons Z12o SpOk.nil)) mixed InlOk.nil Tryz.func89 Z16n h
noncomputable def Zbd : List D → Option D
  | [.list a0n a0c a0] => Zjc M a0n a0c a0
  | _ => none
theorem Z16p : ∀ ds d,Zbd ds = some d → DataSem Tg 89 ds d := by
  intro ds d h
  unfold Zbd at h
  split at h
  · exact Z16o ((Z12p M _ _ _).trans h)
  · cases h

def Z3b : FnH := ⟨[(4,⟨(bm 10 46),[],(some 1)⟩)],[(3,⟨(bm 2 46),[],(some 1)⟩)]⟩
noncomputable def Z5i : Hints := ⟨[],[],[]⟩
noncomputable def Zvl (m : Nat) (Z2o : List D) : Option D :=
 cutK m (codeK Tg Z5i.sp ⟨0,[],false,[]⟩ (inlK Tg Z5i m 4) m Z3b (subc [1,1] (bodyOf Tryz.f91)) ⟨[Jk,(AV.ptr 0 0),Jk,Jk,Jk,Jk,Jk,Jk,Jk,Jk,Jk,Jk,Jk,Jk,Jk,Jk,Jk,Jk,Jk,Jk,Jk,Jk,Jk,Jk,Jk,Jk,Jk,Jk,Jk,Jk,Jk,Jk,Jk,Jk,Jk,Jk,Jk,Jk,Jk,Jk,Jk,Jk,Jk,Jk,Jk,Jk],[(Blk.d 17 Z2o)]⟩
  (contK Tg Z5i.sp ⟨0,[],false,[]⟩ (inlK Tg Z5i m 4) m Z3b (endK Tg Tryz.f91 (fun v L => viewK L 8 v some)) []))
noncomputable def Zjd (m n0 : Nat) (Zl : Int) (Zt : List D) : Option D :=
 Z15 (bm 10 46) 0 1 (codeK Tg Z5i.sp ⟨0,[],false,[]⟩ (inlK Tg Z5i m 4) m Z3b (subc [1,1,0,1,0,0] (bodyOf Tryz.f91))) n0 ⟨[Jk,(AV.ptr 0 0),Jk,(AV.d (D.v (.int .i64 Zl))),Jk,Jk,Jk,Jk,Jk,Jk,Jk,Jk,Jk,Jk,Jk,Jk,Jk,Jk,Jk,Jk,Jk,Jk,Jk,Jk,Jk,Jk,Jk,Jk,Jk,Jk,Jk,Jk,Jk,Jk,Jk,Jk,Jk,Jk,Jk,Jk,Jk,Jk,Jk,Jk,Jk,Jk],[(Blk.d 17 Zt)]⟩
  (contK Tg Z5i.sp ⟨0,[],false,[]⟩ (inlK Tg Z5i m 4) m Z3b (endK Tg Tryz.f91 (fun v L => viewK L 8 v some)) [.block 0,.code (subc [1,1,1] (bodyOf Tryz.f91))])
theorem Z14h (m n0 : Nat) (Zl : Int) (Zt : List D) : Zjd m (n0 + 1) Zl Zt =
 (cond (decide (Zl < (16 : Int)))
 (if 0 ≤ Zl ∧ Zl < (16 : Int) then
 (rdI .u32 Zt[(1 + ((Int.toNat Zl) * 1))]?).bind fun x5 =>
 cond (x5 != (0 : Int))
 (some (D.v (.int .i64 (1 : Int))))
 (Zjd m n0 (IntKind.wrap .i64 (Zl + (1 : Int))) Zt)
 else none)
 ((rdI .u32 Zt[1]?).bind fun x6 =>
 cond (decide (x6 < (2 : Int)))
 ((rdI .u32 Zt[2]?).bind fun x7 =>
 cond (decide (x7 < (40 : Int)))
 (some zI)
 ((rdI .u32 Zt[1]?).bind fun x8 =>
 cond (x8 == (2 : Int))
 ((rdI .u32 Zt[2]?).bind fun x9 =>
 cond (decide (x9 ≤ (4294967215 : Int)))
 (some zI)
 (some (D.v (.int .i64 (1 : Int)))))
 (some (D.v (.int .i64 (1 : Int))))))
 ((rdI .u32 Zt[1]?).bind fun x10 =>
 cond (x10 == (2 : Int))
 ((rdI .u32 Zt[2]?).bind fun x11 =>
 cond (decide (x11 ≤ (4294967215 : Int)))
 (some zI)
 (some (D.v (.int .i64 (1 : Int)))))
 (some (D.v (.int .i64 (1 : Int))))))) := by kernel_rfl
theorem Z12q (m : Nat) (Z2o : List D) : Zvl m Z2o =
 ((rdI .u8 Z2o[0]?).bind fun x3 =>
 Zjd m m (IntKind.wrap .i64 x3) Z2o) := (Z1t m _).trans (by kernel_rfl)
noncomputable def Zoy (m : Nat) (a0 : List D) : Option D :=
 if (List.length a0) = 17 then
 (rdI .u8 a0[0]?).bind fun x1 =>
 cond (decide (x1 < (2 : Int)))
 (some (D.v (.int .i64 (1 : Int))))
 ((rdI .u8 a0[0]?).bind fun x2 =>
 cond (decide (x2 > (16 : Int)))
 (some (D.v (.int .i64 (1 : Int))))
 (Zvl m a0))
 else none
theorem Z16q (m : Nat) (a0 : List D) : funD Tg Z5i m 4 Z3b Tryz.f91 [(D.agg a0)] = Zoy m a0 := by kernel_rfl
theorem Z1be : Enters Tg 91 := ⟨Tryz.f91,Tryz.func91,by kernel_rfl,by kernel_rfl⟩
theorem Z1bf {ds : List D} {d : D} (h : funD Tg Z5i M 4 Z3b Tryz.f91 ds = some d) : DataSem Tg 91 ds d := Z8 (H := Z5i) SpOk.nil mixed InlOk.nil Tryz.func91 Z1be h
noncomputable def Z8n : List D → Option D
  | [.agg a0] => Zoy M a0
  | _ => none
theorem Zzq : ∀ ds d,Z8n ds = some d → DataSem Tg 91 ds d := by
  intro ds d h
  unfold Z8n at h
  split at h
  · exact Z1bf ((Z16q M _).trans h)
  · cases h

def Z1l : FnH := ⟨[(3,⟨(bm 236 50),[],(some 2)⟩)],[(5,⟨(bm 236 50),[],(some 2)⟩),(9,⟨(bm 96 50),[],(some 0)⟩)]⟩
noncomputable def Z2j : Hints := ⟨[],[],[]⟩
noncomputable def Zf2 (m n0 : Nat) (Zl : Int) (Zt : Int) (Zy : Int) (Z11 : List D) (Zs : List D) : Option D :=
 Z15 (bm 236 50) 0 2 (codeK Tg Z2j.sp ⟨0,[],false,[]⟩ (inlK Tg Z2j m 4) m Z1l (subc [1,1,0,1,0,0] (bodyOf Tryz.f62))) n0 ⟨[Jk,Jk,(AV.ptr 0 0),(AV.ptr 1 0),Jk,(AV.d (D.v (.int .i64 Zl))),(AV.d (D.v (.int .i64 Zt))),(AV.d (D.v (.int .i64 Zy))),Jk,Jk,Jk,Jk,Jk,Jk,Jk,Jk,Jk,Jk,Jk,Jk,Jk,Jk,Jk,Jk,Jk,Jk,Jk,Jk,Jk,Jk,Jk,Jk,Jk,Jk,Jk,Jk,Jk,Jk,Jk,Jk,Jk,Jk,Jk,Jk,Jk,Jk,Jk,Jk,Jk,Jk],[(Blk.d 17 Z11),(Blk.d 17 Zs)]⟩
  (contK Tg Z2j.sp ⟨0,[],false,[]⟩ (inlK Tg Z2j m 4) m Z1l (endK Tg Tryz.f62 (fun v L => viewK L 8 v some)) [.block 0,.code (subc [1,1,1] (bodyOf Tryz.f62))])
noncomputable def Zrm (m n0 : Nat) (Z2o : Int) (Z43 : Int) (Z3v : Int) (Z3o : List D) (Z2d : List D) : Option D :=
 cutK m (codeK Tg Z2j.sp ⟨0,[],false,[]⟩ (inlK Tg Z2j m 4) m Z1l (subc [1,1,0,1,0,0,1] (bodyOf Tryz.f62)) ⟨[Jk,Jk,(AV.ptr 0 0),(AV.ptr 1 0),Jk,(AV.d (D.v (.int .i64 Z2o))),(AV.d (D.v (.int .i64 Z43))),(AV.d (D.v (.int .i64 Z3v))),Jk,Jk,Jk,Jk,Jk,Jk,Jk,Jk,Jk,Jk,Jk,Jk,Jk,Jk,Jk,Jk,Jk,Jk,Jk,Jk,Jk,Jk,Jk,Jk,Jk,Jk,Jk,Jk,Jk,Jk,Jk,Jk,Jk,Jk,Jk,Jk,Jk,Jk,Jk,Jk,Jk,Jk],[(Blk.d 17 Z3o),(Blk.d 17 Z2d)]⟩
  (contK Tg Z2j.sp ⟨0,[],false,[]⟩ (inlK Tg Z2j m 4) m Z1l (endK Tg Tryz.f62 (fun v L => viewK L 8 v some)) [.loop (bm 236 50) 2 (subc [1,1,0,1,0,0] (bodyOf Tryz.f62)) n0,.block 0,.code (subc [1,1,1] (bodyOf Tryz.f62))]))
theorem Zys (m n0 : Nat) (Z2o : Int) (Z43 : Int) (Z3v : Int) (Z3o : List D) (Z2d : List D) : Zrm m n0 Z2o Z43 Z3v Z3o Z2d =
 (if 0 ≤ Z3v ∧ Z3v < (16 : Int) then
 (rdI .u32 Z3o[(1 + ((Int.toNat Z3v) * 1))]?).bind fun x11 =>
 if 0 ≤ Z3v ∧ Z3v < (16 : Int) then
 (rdI .u32 Z2d[(1 + ((Int.toNat Z3v) * 1))]?).bind fun x12 =>
 cond (decide (x11 < x12))
 (some (D.v (.int .i64 (-1 : Int))))
 (if 0 ≤ Z3v ∧ Z3v < (16 : Int) then
 (rdI .u32 Z3o[(1 + ((Int.toNat Z3v) * 1))]?).bind fun x13 =>
 if 0 ≤ Z3v ∧ Z3v < (16 : Int) then
 (rdI .u32 Z2d[(1 + ((Int.toNat Z3v) * 1))]?).bind fun x14 =>
 cond (decide (x13 > x14))
 (some (D.v (.int .i64 (1 : Int))))
 (Zf2 m n0 Z2o Z43 (IntKind.wrap .i64 (Z3v + (1 : Int))) Z3o Z2d)
 else none
 else none)
 else none
 else none) := (Z1t m _).trans (by kernel_rfl)
noncomputable def Zje (m : Nat) (Z8i : Int) (Z9q : Int) : Option D :=
 cutK m (codeK Tg Z2j.sp ⟨0,[],false,[]⟩ (inlK Tg Z2j m 4) m Z1l (subc [1,1,1] (bodyOf Tryz.f62)) ⟨[Jk,Jk,Jk,Jk,Jk,(AV.d (D.v (.int .i64 Z8i))),(AV.d (D.v (.int .i64 Z9q))),Jk,Jk,Jk,Jk,Jk,Jk,Jk,Jk,Jk,Jk,Jk,Jk,Jk,Jk,Jk,Jk,Jk,Jk,Jk,Jk,Jk,Jk,Jk,Jk,Jk,Jk,Jk,Jk,Jk,Jk,Jk,Jk,Jk,Jk,Jk,Jk,Jk,Jk,Jk,Jk,Jk,Jk,Jk],[]⟩
  (contK Tg Z2j.sp ⟨0,[],false,[]⟩ (inlK Tg Z2j m 4) m Z1l (endK Tg Tryz.f62 (fun v L => viewK L 8 v some)) []))
theorem Zyt (m : Nat) (Z8i : Int) (Z9q : Int) : Zje m Z8i Z9q =
 (cond (decide (Z8i < Z9q))
 (some (D.v (.int .i64 (-1 : Int))))
 (cond (decide (Z8i > Z9q))
 (some (D.v (.int .i64 (1 : Int))))
 (some zI))) := (Z1t m _).trans (by kernel_rfl)
theorem Z10c (m n0 : Nat) (Zl : Int) (Zt : Int) (Zy : Int) (Z11 : List D) (Zs : List D) : Zf2 m (n0 + 1) Zl Zt Zy Z11 Zs =
 (cond (decide (Zy < Zl))
 (cond (decide (Zy < Zt))
 (Zrm m n0 Zl Zt Zy Z11 Zs)
 (Zje m Zl Zt))
 (Zje m Zl Zt)) := by kernel_rfl
noncomputable def Zjf (m : Nat) (a0 : List D) (a1 : List D) : Option D :=
 if (List.length a0) = 17 then
 if (List.length a1) = 17 then
 (rdI .u8 a0[0]?).bind fun x1 =>
 (rdI .u8 a1[0]?).bind fun x2 =>
 Zf2 m m (mm true (IntKind.wrap .i64 x1) (16 : Int)) (mm true (IntKind.wrap .i64 x2) (16 : Int)) (0 : Int) a0 a1
 else none
 else none
theorem Z12r (m : Nat) (a0 : List D) (a1 : List D) : funD Tg Z2j m 4 Z1l Tryz.f62 [(D.agg a0),(D.agg a1)] = Zjf m a0 a1 := by kernel_rfl
theorem Z16r : Enters Tg 62 := ⟨Tryz.f62,Tryz.func62,by kernel_rfl,by kernel_rfl⟩
theorem Z16s {ds : List D} {d : D} (h : funD Tg Z2j M 4 Z1l Tryz.f62 ds = some d) : DataSem Tg 62 ds d := Z8 (H := Z2j) SpOk.nil mixed InlOk.nil Tryz.func62 Z16r h
noncomputable def Z52 : List D → Option D
  | [.agg a0,.agg a1] => Zjf M a0 a1
  | _ => none
theorem Znm : ∀ ds d,Z52 ds = some d → DataSem Tg 62 ds d := by
  intro ds d h
  unfold Z52 at h
  split at h
  · exact Z16s ((Z12r M _ _).trans h)
  · cases h

def Z3c : FnH := ⟨[(4,⟨(bm 9 36),[],(some 0)⟩)],[(5,⟨(bm 9 36),[],(some 0)⟩)]⟩
noncomputable def Z5j : Hints := ⟨[(62,Z52),(91,Z8n)],[],[]⟩
noncomputable def Zjg (m n0 : Nat) (Zl : Nat) (Zt : Option Nat) (Zy : List D) (Z11 : Int) : Option D :=
 Z15 (bm 9 36) 0 0 (codeK Tg Z5j.sp ⟨0,[],false,[]⟩ (inlK Tg Z5j m 4) m Z3c (subc [1,1,0,1,0,0] (bodyOf Tryz.f53))) n0 ⟨[(AV.d (D.list Zl Zt Zy)),Jk,Jk,(AV.d (D.v (.int .i64 Z11))),Jk,Jk,Jk,Jk,Jk,Jk,Jk,Jk,Jk,Jk,Jk,Jk,Jk,Jk,Jk,Jk,Jk,Jk,Jk,Jk,Jk,Jk,Jk,Jk,Jk,Jk,Jk,Jk,Jk,Jk,Jk,Jk],[]⟩
  (contK Tg Z5j.sp ⟨0,[],false,[]⟩ (inlK Tg Z5j m 4) m Z3c (endK Tg Tryz.f53 (fun v L => viewK L 8 v some)) [.block 0,.code (subc [1,1,1] (bodyOf Tryz.f53))])
noncomputable def Znn (m n0 : Nat) (Z2o : Nat) (Z43 : Option Nat) (Z3v : List D) (Z3o : Int) : Option D :=
 cutK m (codeK Tg Z5j.sp ⟨0,[],false,[]⟩ (inlK Tg Z5j m 4) m Z3c (subc [1,1,0,1,0,0,1,1] (bodyOf Tryz.f53)) ⟨[(AV.d (D.list Z2o Z43 Z3v)),Jk,Jk,(AV.d (D.v (.int .i64 Z3o))),Jk,Jk,Jk,Jk,Jk,Jk,Jk,Jk,Jk,Jk,Jk,Jk,Jk,Jk,Jk,Jk,Jk,Jk,Jk,Jk,Jk,Jk,Jk,Jk,Jk,Jk,Jk,Jk,Jk,Jk,Jk,Jk],[]⟩
  (contK Tg Z5j.sp ⟨0,[],false,[]⟩ (inlK Tg Z5j m 4) m Z3c (endK Tg Tryz.f53 (fun v L => viewK L 8 v some)) [.loop (bm 9 36) 0 (subc [1,1,0,1,0,0] (bodyOf Tryz.f53)) n0,.block 0,.code (subc [1,1,1] (bodyOf Tryz.f53))]))
theorem Z12s (m n0 : Nat) (Z2o : Nat) (Z43 : Option Nat) (Z3v : List D) (Z3o : Int) : Znn m n0 Z2o Z43 Z3v Z3o =
 (Zjg m n0 Z2o Z43 Z3v (IntKind.wrap .i64 (Z3o + (1 : Int)))) := (Z1t m _).trans (by kernel_rfl)
theorem Z14i (m n0 : Nat) (Zl : Nat) (Zt : Option Nat) (Zy : List D) (Z11 : Int) : Zjg m (n0 + 1) Zl Zt Zy Z11 =
 (cond (decide (Z11 < (Zl : Int)))
 (if 0 ≤ Z11 ∧ Z11 < (Zl : Int) then
 if (((Int.toNat Z11) * 17) + 17) ≤ (List.length Zy) then
 (Z8n [(D.agg ((List.drop ((Int.toNat Z11) * 17) Zy).take 17))]).bind fun d7 =>
 (rdI .i64 (some d7)).bind fun x8 =>
 cond (x8 != (0 : Int))
 (some (D.v (.int .i64 (1 : Int))))
 (cond (decide (Z11 > (0 : Int)))
 (if 0 ≤ (IntKind.wrap .i64 (Z11 - (1 : Int))) ∧ (IntKind.wrap .i64 (Z11 - (1 : Int))) < (Zl : Int) then
 if (((Int.toNat (IntKind.wrap .i64 (Z11 - (1 : Int)))) * 17) + 17) ≤ (List.length Zy) then
 if 0 ≤ Z11 ∧ Z11 < (Zl : Int) then
 if (((Int.toNat Z11) * 17) + 17) ≤ (List.length Zy) then
 (Z52 [(D.agg ((List.drop ((Int.toNat (IntKind.wrap .i64 (Z11 - (1 : Int)))) * 17) Zy).take 17)),(D.agg ((List.drop ((Int.toNat Z11) * 17) Zy).take 17))]).bind fun d9 =>
 (rdI .i64 (some d9)).bind fun x10 =>
 cond (x10 == (0 : Int))
 (some (D.v (.int .i64 (14 : Int))))
 (cond (decide (x10 > (0 : Int)))
 (some (D.v (.int .i64 (13 : Int))))
 (Znn m n0 Zl Zt Zy Z11))
 else none
 else none
 else none
 else none)
 (Znn m n0 Zl Zt Zy Z11))
 else none
 else none)
 (some zI)) := by kernel_rfl
noncomputable def Zoz (m : Nat) (a0n : Nat) (a0c : Option Nat) (a0 : List D) : Option D :=
 cond (decide ((a0n : Int) > (256 : Int)))
 (some (D.v (.int .i64 (3 : Int))))
 (Zjg m m a0n a0c a0 (0 : Int))
theorem Z16t (m : Nat) (a0n : Nat) (a0c : Option Nat) (a0 : List D) : funD Tg Z5j m 4 Z3c Tryz.f53 [(D.list a0n a0c a0)] = Zoz m a0n a0c a0 := by kernel_rfl
theorem Z1bg : Enters Tg 53 := ⟨Tryz.f53,Tryz.func53,by kernel_rfl,by kernel_rfl⟩
theorem Z1bh {ds : List D} {d : D} (h : funD Tg Z5j M 4 Z3c Tryz.f53 ds = some d) : DataSem Tg 53 ds d := Z8 (H := Z5j) (SpOk.cons Znm (SpOk.cons Zzq SpOk.nil)) mixed InlOk.nil Tryz.func53 Z1bg h
noncomputable def Zgf : List D → Option D
  | [.list a0n a0c a0] => Zoz M a0n a0c a0
  | _ => none
theorem Z1bi : ∀ ds d,Zgf ds = some d → DataSem Tg 53 ds d := by
  intro ds d h
  unfold Zgf at h
  split at h
  · exact Z1bh ((Z16t M _ _ _).trans h)
  · cases h

end Go.Ev
