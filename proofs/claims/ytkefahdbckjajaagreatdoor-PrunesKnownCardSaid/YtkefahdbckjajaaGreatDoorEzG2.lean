/- Functions of the given program in plain form,printed: each with the proof that it is what the evaluator comes to,and that the program function returns what it says. No conditions. -/
import Derived.Test.YtkefahdbckjajaaGreatDoorEzG1
set_option linter.unusedVariables false
set_option maxRecDepth 100000
namespace Go.Ev
open Go Go.Proofs
def Zju : FnH := ⟨[],[]⟩
noncomputable def Z11b : Hints := ⟨[],[],[]⟩
noncomputable def Z1a7 (m : Nat)  : Option D :=
 some (D.agg [(D.v (.int .u8 (5 : Int))),(D.v (.int .u32 (2 : Int))),(D.v (.int .u32 (5 : Int))),(D.v (.int .u32 (29 : Int))),(D.v (.int .u32 (32 : Int))),zU,zU,zU,zU,zU,zU,zU,zU,zU,zU,zU,zU])
theorem Z1cb (m : Nat)  : funD Tg Z11b m 4 Zju Tryz.f35 [] = Z1a7 m  := by kernel_rfl
theorem Z1hm : Enters Tg 35 := ⟨Tryz.f35,Tryz.func35,by kernel_rfl,by kernel_rfl⟩
theorem Z1hn {ds : List D} {d : D} (h : funD Tg Z11b M 4 Zju Tryz.f35 ds = some d) : DataSem Tg 35 ds d := Zf (H := Z11b) SpOk.nil mixed InlOk.nil Tryz.func35 Z1hm h
noncomputable def Z4z : List D → Option D
 | [] => Z1a7 M 
 | _ => none
theorem Zyf : ∀ ds d,Z4z ds = some d → DataSem Tg 35 ds d := by
 intro ds d h
 unfold Z4z at h
 split at h
 ·exact Z1hn ((Z1cb M ).trans h)
 ·cases h
def Zbu : FnH := ⟨[],[]⟩
noncomputable def Zst : Hints := ⟨[(35,Z4z)],[],[]⟩
noncomputable def Zm4 (m : Nat) (a0 : Int) : Option D :=
 cond ((Int.tmod a0 (7 : Int)) == (6 : Int))
 ((Z4z []).bind fun d1 =>
 (rdA (some d1)).bind fun c2 =>
 if (List.length c2) = 17 then
 some (D.agg c2)
 else none)
 (some (D.agg [(D.v (.int .u8 (3 : Int))),(D.v (.int .u32 (1 : Int))),(D.v (.int .u32 (2 : Int))),(D.v (.int .u32 (IntKind.wrap .u32 ((3 : Int) + (IntKind.wrap .u32 (Int.tmod a0 (7 : Int))))))),zU,zU,zU,zU,zU,zU,zU,zU,zU,zU,zU,zU,zU]))
theorem Z15k (m : Nat) (a0 : Int) : funD Tg Zst m 4 Zbu Tryz.f38 [(D.v (.int .u8 a0))] = Zm4 m a0 := by kernel_rfl
theorem Z1a8 : Enters Tg 38 := ⟨Tryz.f38,Tryz.func38,by kernel_rfl,by kernel_rfl⟩
theorem Z1a9 {ds : List D} {d : D} (h : funD Tg Zst M 4 Zbu Tryz.f38 ds = some d) : DataSem Tg 38 ds d := Zf (H := Zst) (SpOk.cons Zyf SpOk.nil) mixed InlOk.nil Tryz.func38 Z1a8 h
noncomputable def Z74 : List D → Option D
 | [.v (.int .u8 a0)] => Zm4 M a0
 | _ => none
theorem Zqk : ∀ ds d,Z74 ds = some d → DataSem Tg 38 ds d := by
 intro ds d h
 unfold Z74 at h
 split at h
 ·exact Z1a9 ((Z15k M _).trans h)
 ·cases h
def Zeo : FnH := ⟨[],[]⟩
noncomputable def Zuz : Hints := ⟨[],[],[]⟩
noncomputable def Zpc (m : Nat) (a0 : Int) : Option D :=
 cond ((Int.tmod a0 (4 : Int)) == (1 : Int))
 (some (D.list 1 (some 1) [(D.v (.int .u8 (1 : Int))),(D.v (.string (ByteArray.mk #[104,116,116,112,58,47,47,97]))),(D.v (.bool false)),zU,(D.v (.string (ByteArray.mk #[]))),(D.list 0 (some 0) []),(D.v (.bool false)),zU,(D.v (.string (ByteArray.mk #[]))),(D.v (.int .u8 (0 : Int))),zU,zU,zU,zU,zU,zU,zU,zU,zU,zU,zU,zU,zU,zU,zU,zU,(D.list 0 (some 0) [])]))
 (cond ((Int.tmod a0 (4 : Int)) == (2 : Int))
 (some (D.list 1 (some 1) [(D.v (.int .u8 (2 : Int))),(D.v (.string (ByteArray.mk #[]))),(D.v (.bool false)),zU,(D.v (.string (ByteArray.mk #[]))),(D.list 0 (some 0) []),(D.v (.bool true)),(D.v (.int .u32 (12 : Int))),(D.v (.string (ByteArray.mk #[98]))),(D.v (.int .u8 (0 : Int))),zU,zU,zU,zU,zU,zU,zU,zU,zU,zU,zU,zU,zU,zU,zU,zU,(D.list 0 (some 0) [])]))
 (cond ((Int.tmod a0 (4 : Int)) == (3 : Int))
 (some (D.list 2 (some 2) [(D.v (.int .u8 (2 : Int))),(D.v (.string (ByteArray.mk #[]))),(D.v (.bool false)),zU,(D.v (.string (ByteArray.mk #[]))),(D.list 0 (some 0) []),(D.v (.bool true)),(D.v (.int .u32 (12 : Int))),(D.v (.string (ByteArray.mk #[98]))),(D.v (.int .u8 (0 : Int))),zU,zU,zU,zU,zU,zU,zU,zU,zU,zU,zU,zU,zU,zU,zU,zU,(D.list 0 (some 0) []),(D.v (.int .u8 (1 : Int))),(D.v (.string (ByteArray.mk #[104,116,116,112,58,47,47,97]))),(D.v (.bool false)),zU,(D.v (.string (ByteArray.mk #[]))),(D.list 0 (some 0) []),(D.v (.bool false)),zU,(D.v (.string (ByteArray.mk #[]))),(D.v (.int .u8 (0 : Int))),zU,zU,zU,zU,zU,zU,zU,zU,zU,zU,zU,zU,zU,zU,zU,zU,(D.list 0 (some 0) [])]))
 (some (D.list 0 (some 0) []))))
theorem Z17p (m : Nat) (a0 : Int) : funD Tg Zuz m 4 Zeo Tryz.f73 [(D.v (.int .u8 a0))] = Zpc m a0 := by kernel_rfl
theorem Z1cc : Enters Tg 73 := ⟨Tryz.f73,Tryz.func73,by kernel_rfl,by kernel_rfl⟩
theorem Z1cd {ds : List D} {d : D} (h : funD Tg Zuz M 4 Zeo Tryz.f73 ds = some d) : DataSem Tg 73 ds d := Zf (H := Zuz) SpOk.nil mixed InlOk.nil Tryz.func73 Z1cc h
noncomputable def Zgu : List D → Option D
 | [.v (.int .u8 a0)] => Zpc M a0
 | _ => none
theorem Z1ce : ∀ ds d,Zgu ds = some d → DataSem Tg 73 ds d := by
 intro ds d h
 unfold Zgu at h
 split at h
 ·exact Z1cd ((Z17p M _).trans h)
 ·cases h
def Z2b : FnH := ⟨[(4,⟨(bm 233 49),[(5,17)],(some 2)⟩)],[(8,⟨(bm 233 49),[],(some 2)⟩),(11,⟨(bm 233 49),[],(some 3)⟩)]⟩
noncomputable def Z47 : Hints := ⟨[(62,Z5l)],[],[]⟩
noncomputable def Zjv (m n0 : Nat) (Zz : Nat) (Z13 : Option Nat) (Z18 : List D) (Z1b : Nat) (Z14 : Int) (Z1q : Int) (Z1z : List D) (Z32 : Nat) (Z4e : List D) : Option D :=
 Z1e (bm 233 49) 0 2 (codeK Tg Z47.sp ⟨0,[],false,[]⟩ (inlK Tg Z47 m 4) m Z2b (subc [1,1,1,0,1,0,0] (bodyOf Tryz.f106))) n0 ⟨[(AV.d (D.list Zz Z13 Z18)),Jk,Jk,(AV.ptr 0 0),Jk,(AV.sl 1 0 Z1b none 17),(AV.d (D.v (.int .i64 Z14))),(AV.d (D.v (.int .i64 Z1q))),Jk,Jk,Jk,Jk,Jk,Jk,Jk,Jk,Jk,Jk,Jk,Jk,Jk,Jk,Jk,Jk,Jk,Jk,Jk,Jk,Jk,Jk,Jk,Jk,Jk,Jk,Jk,Jk,Jk,Jk,Jk,Jk,Jk,Jk,Jk,Jk,Jk,Jk,Jk,Jk,Jk],[(Blk.d 17 Z1z),(Blk.d Z32 Z4e)]⟩
  (contK Tg Z47.sp ⟨0,[],false,[]⟩ (inlK Tg Z47 m 4) m Z2b (endK Tg Tryz.f106 (fun v L => viewK L 8 v some)) [.block 0,.code (subc [1,1,1,1] (bodyOf Tryz.f106))])
noncomputable def Zm5 (m n0 : Nat) (Z2y : Nat) (Z4c : Option Nat) (Z40 : List D) (Z3k : Nat) (Z2j : Int) (Z6i : Int) (Z7k : List D) (Zjw : Nat) (Zns : List D) : Option D :=
 cutK m (codeK Tg Z47.sp ⟨0,[],false,[]⟩ (inlK Tg Z47 m 4) m Z2b (subc [1,1,1,0,1,0,0,1,0,0,1] (bodyOf Tryz.f106)) ⟨[(AV.d (D.list Z2y Z4c Z40)),Jk,Jk,(AV.ptr 0 0),Jk,(AV.sl 1 0 Z3k none 17),(AV.d (D.v (.int .i64 Z2j))),(AV.d (D.v (.int .i64 Z6i))),Jk,Jk,Jk,Jk,Jk,Jk,Jk,Jk,Jk,Jk,Jk,Jk,Jk,Jk,Jk,Jk,Jk,Jk,Jk,Jk,Jk,Jk,Jk,Jk,Jk,Jk,Jk,Jk,Jk,Jk,Jk,Jk,Jk,Jk,Jk,Jk,Jk,Jk,Jk,Jk,Jk],[(Blk.d 17 Z7k),(Blk.d Zjw Zns)]⟩
  (contK Tg Z47.sp ⟨0,[],false,[]⟩ (inlK Tg Z47 m 4) m Z2b (endK Tg Tryz.f106 (fun v L => viewK L 8 v some)) [.block 1,.code (subc [1,1,1,0,1,0,0,1,1] (bodyOf Tryz.f106)),.loop (bm 233 49) 2 (subc [1,1,1,0,1,0,0] (bodyOf Tryz.f106)) n0,.block 0,.code (subc [1,1,1,1] (bodyOf Tryz.f106))]))
noncomputable def Zyg (m n0 : Nat) (Z9n : Nat) (Zbt : Option Nat) (Zbv : List D) (Zcj : Nat) (Z8v : Int) (Zaj : Int) (Zha : List D) (Zla : Nat) (Zx2 : List D) (Zwp : List D) : Option D :=
 cutK m (codeK Tg Z47.sp ⟨0,[],false,[]⟩ (inlK Tg Z47 m 4) m Z2b (subc [1,1,1,0,1,0,0,1,0,0,1,1] (bodyOf Tryz.f106)) ⟨[(AV.d (D.list Z9n Zbt Zbv)),Jk,Jk,(AV.ptr 0 0),Jk,(AV.sl 1 0 Zcj none 17),(AV.d (D.v (.int .i64 Z8v))),(AV.d (D.v (.int .i64 Zaj))),Jk,Jk,Jk,Jk,Jk,Jk,Jk,Jk,Jk,Jk,Jk,Jk,Jk,Jk,Jk,Jk,Jk,Jk,Jk,Jk,Jk,Jk,Jk,Jk,Jk,Jk,Jk,Jk,Jk,Jk,Jk,Jk,Jk,Jk,Jk,Jk,Jk,Jk,Jk,Jk,Jk],[(Blk.d 17 Zha),(Blk.d Zla Zx2),(Blk.d 17 Zwp)]⟩
  (contK Tg Z47.sp ⟨0,[],false,[]⟩ (inlK Tg Z47 m 4) m Z2b (endK Tg Tryz.f106 (fun v L => viewK L 8 v some)) [.block 1,.code (subc [1,1,1,0,1,0,0,1,1] (bodyOf Tryz.f106)),.loop (bm 233 49) 2 (subc [1,1,1,0,1,0,0] (bodyOf Tryz.f106)) n0,.block 0,.code (subc [1,1,1,1] (bodyOf Tryz.f106))]))
theorem Z15l (m n0 : Nat) (Z9n : Nat) (Zbt : Option Nat) (Zbv : List D) (Zcj : Nat) (Z8v : Int) (Zaj : Int) (Zha : List D) (Zla : Nat) (Zx2 : List D) (Zwp : List D) : Zyg m n0 Z9n Zbt Zbv Zcj Z8v Zaj Zha Zla Zx2 Zwp =
 (if 0 ≤ Zaj ∧ Zaj < (Z9n : Int) then
 if (((Int.toNat Zaj) * 17) + 17) ≤ (List.length Zbv) then
 if (List.length ((List.drop ((Int.toNat Zaj) * 17) Zbv).take 17)) = 17 then
 if ownB ⟨0,[],false,[]⟩ 1 = true ∧ Zla = (Zcj * 17) ∧ fitsRow (Zcj + 1) 68 ∧ (List.length ((List.drop ((Int.toNat Zaj) * 17) Zbv).take 17)) = 17 then
 Zjv m n0 Z9n Zbt Zbv (Zcj + 1) Z8v (IntKind.wrap .i64 (Zaj + (1 : Int))) Zha ((Zcj + 1) * 17) (Zx2 ++ ((List.drop ((Int.toNat Zaj) * 17) Zbv).take 17))
 else none
 else none
 else none
 else none) := (Z1y m _).trans (by kernel_rfl)
noncomputable def Zfj (m n0 : Nat) (Zc2 : Nat) (Zt6 : Option Nat) (Zv0 : List D) (Zwg : Nat) (Zwh : Int) (Zx3 : Int) (Zza : List D) (Z11c : Nat) (Z11d : List D) : Option D :=
 cutK m (codeK Tg Z47.sp ⟨0,[],false,[]⟩ (inlK Tg Z47 m 4) m Z2b (subc [1,1,1,0,1,0,0,1,0,0,1,1] (bodyOf Tryz.f106)) ⟨[(AV.d (D.list Zc2 Zt6 Zv0)),Jk,Jk,(AV.ptr 0 0),Jk,(AV.sl 1 0 Zwg none 17),(AV.d (D.v (.int .i64 Zwh))),(AV.d (D.v (.int .i64 Zx3))),Jk,Jk,Jk,Jk,Jk,Jk,Jk,Jk,Jk,Jk,Jk,Jk,Jk,Jk,Jk,Jk,Jk,Jk,Jk,Jk,Jk,Jk,Jk,Jk,Jk,Jk,Jk,Jk,Jk,Jk,Jk,Jk,Jk,Jk,Jk,Jk,Jk,Jk,Jk,Jk,Jk],[(Blk.d 17 Zza),(Blk.d Z11c Z11d)]⟩
  (contK Tg Z47.sp ⟨0,[],false,[]⟩ (inlK Tg Z47 m 4) m Z2b (endK Tg Tryz.f106 (fun v L => viewK L 8 v some)) [.block 1,.code (subc [1,1,1,0,1,0,0,1,1] (bodyOf Tryz.f106)),.loop (bm 233 49) 2 (subc [1,1,1,0,1,0,0] (bodyOf Tryz.f106)) n0,.block 0,.code (subc [1,1,1,1] (bodyOf Tryz.f106))]))
theorem Zql (m n0 : Nat) (Zc2 : Nat) (Zt6 : Option Nat) (Zv0 : List D) (Zwg : Nat) (Zwh : Int) (Zx3 : Int) (Zza : List D) (Z11c : Nat) (Z11d : List D) : Zfj m n0 Zc2 Zt6 Zv0 Zwg Zwh Zx3 Zza Z11c Z11d =
 (if 0 ≤ Zx3 ∧ Zx3 < (Zc2 : Int) then
 if (((Int.toNat Zx3) * 17) + 17) ≤ (List.length Zv0) then
 if (List.length ((List.drop ((Int.toNat Zx3) * 17) Zv0).take 17)) = 17 then
 if ownB ⟨0,[],false,[]⟩ 1 = true ∧ Z11c = (Zwg * 17) ∧ fitsRow (Zwg + 1) 68 ∧ (List.length ((List.drop ((Int.toNat Zx3) * 17) Zv0).take 17)) = 17 then
 Zjv m n0 Zc2 Zt6 Zv0 (Zwg + 1) Zwh (IntKind.wrap .i64 (Zx3 + (1 : Int))) Zza ((Zwg + 1) * 17) (Z11d ++ ((List.drop ((Int.toNat Zx3) * 17) Zv0).take 17))
 else none
 else none
 else none
 else none) := (Z1y m _).trans (by kernel_rfl)
theorem Z17q (m n0 : Nat) (Z2y : Nat) (Z4c : Option Nat) (Z40 : List D) (Z3k : Nat) (Z2j : Int) (Z6i : Int) (Z7k : List D) (Zjw : Nat) (Zns : List D) : Zm5 m n0 Z2y Z4c Z40 Z3k Z2j Z6i Z7k Zjw Zns =
 (cond (Z2j == (0 : Int))
 (if 0 ≤ Z6i ∧ Z6i < (Z2y : Int) then
 if (((Int.toNat Z6i) * 17) + 17) ≤ (List.length Z40) then
 (Z5l [(D.agg Z7k),(D.agg ((List.drop ((Int.toNat Z6i) * 17) Z40).take 17))]).bind fun d8 =>
 (rdI .i64 (some d8)).bind fun x9 =>
 cond (decide (x9 < (0 : Int)))
 (if (List.length Z7k) = 17 then
 if ownB ⟨0,[],false,[]⟩ 1 = true ∧ Zjw = (Z3k * 17) ∧ fitsRow (Z3k + 1) 68 ∧ (List.length Z7k) = 17 then
 Zyg m n0 Z2y Z4c Z40 (Z3k + 1) (1 : Int) Z6i Z7k ((Z3k + 1) * 17) (Zns ++ Z7k) Z7k
 else none
 else none)
 (Zfj m n0 Z2y Z4c Z40 Z3k Z2j Z6i Z7k Zjw Zns)
 else none
 else none)
 (Zfj m n0 Z2y Z4c Z40 Z3k Z2j Z6i Z7k Zjw Zns)) := (Z1y m _).trans (by kernel_rfl)
theorem Z1aa (m n0 : Nat) (Zz : Nat) (Z13 : Option Nat) (Z18 : List D) (Z1b : Nat) (Z14 : Int) (Z1q : Int) (Z1z : List D) (Z32 : Nat) (Z4e : List D) : Zjv m (n0 + 1) Zz Z13 Z18 Z1b Z14 Z1q Z1z Z32 Z4e =
 (cond (decide (Z1q < (Zz : Int)))
 (if 0 ≤ Z1q ∧ Z1q < (Zz : Int) then
 if (((Int.toNat Z1q) * 17) + 17) ≤ (List.length Z18) then
 (cellsEq [.int,.int,.int,.int,.int,.int,.int,.int,.int,.int,.int,.int,.int,.int,.int,.int,.int] ((List.drop ((Int.toNat Z1q) * 17) Z18).take 17) Z1z).bind fun b7 =>
 cond b7
 (Zm5 m n0 Zz Z13 Z18 Z1b (1 : Int) Z1q Z1z Z32 Z4e)
 (Zm5 m n0 Zz Z13 Z18 Z1b Z14 Z1q Z1z Z32 Z4e)
 else none
 else none)
 (cond (Z14 == (0 : Int))
 (if (List.length Z1z) = 17 then
 if ownB ⟨0,[],false,[]⟩ 1 = true ∧ Z32 = (Z1b * 17) ∧ fitsRow (Z1b + 1) 68 ∧ (List.length Z1z) = 17 then
 if (0 + ((Z1b + 1) * 17)) ≤ ((Z1b + 1) * 17) then
 some (D.list (Z1b + 1) none (cutL ((Z1b + 1) * 17) (Z4e ++ Z1z) 0 ((Z1b + 1) * 17)))
 else none
 else none
 else none)
 (if (0 + (Z1b * 17)) ≤ Z32 then
 some (D.list Z1b none (cutL Z32 Z4e 0 (Z1b * 17)))
 else none))) := by kernel_rfl
noncomputable def Zv1 (m : Nat) (a0n : Nat) (a0c : Option Nat) (a0 : List D) (a1 : List D) : Option D :=
 if (List.length a1) = 17 then
 Zjv m m a0n a0c a0 0 (0 : Int) (0 : Int) a1 0 []
 else none
theorem Z1cf (m : Nat) (a0n : Nat) (a0c : Option Nat) (a0 : List D) (a1 : List D) : funD Tg Z47 m 4 Z2b Tryz.f106 [(D.list a0n a0c a0),(D.agg a1)] = Zv1 m a0n a0c a0 a1 := by kernel_rfl
theorem Z1ho : Enters Tg 106 := ⟨Tryz.f106,Tryz.func106,by kernel_rfl,by kernel_rfl⟩
theorem Z1hp {ds : List D} {d : D} (h : funD Tg Z47 M 4 Z2b Tryz.f106 ds = some d) : DataSem Tg 106 ds d := Zf (H := Z47) (SpOk.cons Zo1 SpOk.nil) mixed InlOk.nil Tryz.func106 Z1ho h
noncomputable def Znm : List D → Option D
 | [.list a0n a0c a0,.agg a1] => Zv1 M a0n a0c a0 a1
 | _ => none
theorem Z1hq : ∀ ds d,Znm ds = some d → DataSem Tg 106 ds d := by
 intro ds d h
 unfold Znm at h
 split at h
 ·exact Z1hp ((Z1cf M _ _ _ _).trans h)
 ·cases h
def Z55 : FnH := ⟨[(3,⟨(bm 25 20),[],(some 0)⟩)],[(4,⟨(bm 25 20),[],(some 0)⟩)]⟩
noncomputable def Z83 : Hints := ⟨[(38,Z74),(106,Znm)],[],[]⟩
noncomputable def Zpd (m n0 : Nat) (Zz : Int) (Z13 : Nat) (Z18 : Option Nat) (Z1b : List D) (Z14 : Int) : Option D :=
 Z1e (bm 25 20) 0 0 (codeK Tg Z83.sp ⟨0,[],false,[]⟩ (inlK Tg Z83 m 4) m Z55 (subc [1,1,0,1,0,0] (bodyOf Tryz.f72))) n0 ⟨[(AV.d (D.v (.int .u8 Zz))),Jk,Jk,(AV.d (D.list Z13 Z18 Z1b)),(AV.d (D.v (.int .i64 Z14))),Jk,Jk,Jk,Jk,Jk,Jk,Jk,Jk,Jk,Jk,Jk,Jk,Jk,Jk,Jk],[]⟩
  (contK Tg Z83.sp ⟨0,[],false,[]⟩ (inlK Tg Z83 m 4) m Z55 (endK Tg Tryz.f72 (fun v L => viewK L 8 v some)) [.block 0,.code (subc [1,1,1] (bodyOf Tryz.f72))])
noncomputable def Zm6 (m n0 : Nat) (Z2y : Int) (Z4c : Nat) (Z40 : Option Nat) (Z3k : List D) (Z2j : Int) : Option D :=
 cutK m (codeK Tg Z83.sp ⟨0,[],false,[]⟩ (inlK Tg Z83 m 4) m Z55 (subc [1,1,0,1,0,0,1,1] (bodyOf Tryz.f72)) ⟨[(AV.d (D.v (.int .u8 Z2y))),Jk,Jk,(AV.d (D.list Z4c Z40 Z3k)),(AV.d (D.v (.int .i64 Z2j))),Jk,Jk,Jk,Jk,Jk,Jk,Jk,Jk,Jk,Jk,Jk,Jk,Jk,Jk,Jk],[]⟩
  (contK Tg Z83.sp ⟨0,[],false,[]⟩ (inlK Tg Z83 m 4) m Z55 (endK Tg Tryz.f72 (fun v L => viewK L 8 v some)) [.loop (bm 25 20) 0 (subc [1,1,0,1,0,0] (bodyOf Tryz.f72)) n0,.block 0,.code (subc [1,1,1] (bodyOf Tryz.f72))]))
theorem Z17r (m n0 : Nat) (Z2y : Int) (Z4c : Nat) (Z40 : Option Nat) (Z3k : List D) (Z2j : Int) : Zm6 m n0 Z2y Z4c Z40 Z3k Z2j =
 (Zpd m n0 Z2y Z4c Z40 Z3k (IntKind.wrap .i64 (Z2j + (1 : Int)))) := (Z1y m _).trans (by kernel_rfl)
theorem Z1ab (m n0 : Nat) (Zz : Int) (Z13 : Nat) (Z18 : Option Nat) (Z1b : List D) (Z14 : Int) : Zpd m (n0 + 1) Zz Z13 Z18 Z1b Z14 =
 (cond (decide (Z14 < (7 : Int)))
 (if Z14 < 0 then none else
 cond ((Int.tmod (Int.fdiv Zz (2 ^ (min (Int.toNat Z14) (IntKind.bits .u8)))) (2 : Int)) == (1 : Int))
 ((Z74 [(D.v (.int .u8 (IntKind.wrap .u8 Z14)))]).bind fun d9 =>
 (rdA (some d9)).bind fun c10 =>
 (Znm [(D.list Z13 Z18 Z1b),(D.agg c10)]).bind fun d11 =>
 (rdL (some d11)).bind fun q12 =>
 Zm6 m n0 Zz q12.n q12.cap q12.cs Z14)
 (Zm6 m n0 Zz Z13 Z18 Z1b Z14))
 (some (D.list Z13 Z18 Z1b))) := by kernel_rfl
noncomputable def Zv2 (m : Nat) (a0 : Int) : Option D :=
 Zpd m m a0 0 (some 0) [] (0 : Int)
theorem Z1cg (m : Nat) (a0 : Int) : funD Tg Z83 m 4 Z55 Tryz.f72 [(D.v (.int .u8 a0))] = Zv2 m a0 := by kernel_rfl
theorem Z1hr : Enters Tg 72 := ⟨Tryz.f72,Tryz.func72,by kernel_rfl,by kernel_rfl⟩
theorem Z1hs {ds : List D} {d : D} (h : funD Tg Z83 M 4 Z55 Tryz.f72 ds = some d) : DataSem Tg 72 ds d := Zf (H := Z83) (SpOk.cons Zqk (SpOk.cons Z1hq SpOk.nil)) mixed InlOk.nil Tryz.func72 Z1hr h
noncomputable def Znn : List D → Option D
 | [.v (.int .u8 a0)] => Zv2 M a0
 | _ => none
theorem Z1ht : ∀ ds d,Znn ds = some d → DataSem Tg 72 ds d := by
 intro ds d h
 unfold Znn at h
 split at h
 ·exact Z1hs ((Z1cg M _).trans h)
 ·cases h
def Z3s : FnH := ⟨[(2,⟨(bm 38 34),[],(some 1)⟩)],[(5,⟨(bm 38 34),[],(some 1)⟩)]⟩
noncomputable def Z5z : Hints := ⟨[],[],[]⟩
noncomputable def Zjx (m n0 : Nat) (Zz : Int) (Z13 : Int) (Z18 : Nat) (Z1b : Option Nat) (Z14 : List D) : Option D :=
 Z1e (bm 38 34) 0 1 (codeK Tg Z5z.sp ⟨0,[],false,[]⟩ (inlK Tg Z5z m 4) m Z3s (subc [1,1,0,0,0] (bodyOf Tryz.f34))) n0 ⟨[Jk,(AV.d (D.v (.int .i64 Zz))),(AV.ptr 0 0),Jk,Jk,(AV.d (D.v (.int .i64 Z13))),Jk,Jk,Jk,Jk,Jk,Jk,Jk,Jk,Jk,Jk,Jk,Jk,Jk,Jk,Jk,Jk,Jk,Jk,Jk,Jk,Jk,Jk,Jk,Jk,Jk,Jk,Jk,Jk],[(Blk.d 1 [(D.list Z18 Z1b Z14)])]⟩
  (contK Tg Z5z.sp ⟨0,[],false,[]⟩ (inlK Tg Z5z m 4) m Z3s (endK Tg Tryz.f34 (fun v L => viewK L 8 v some)) [.block 0,.code (subc [1,1,1] (bodyOf Tryz.f34))])
noncomputable def Zwi (m n0 : Nat) (Z2y : Int) (Z4c : Int) (Z40 : Nat) (Z3k : Option Nat) (Z2j : List D) : Option D :=
 cutK m (codeK Tg Z5z.sp ⟨0,[],false,[]⟩ (inlK Tg Z5z m 4) m Z3s (subc [1,1,0,0,0,1,0,1] (bodyOf Tryz.f34)) ⟨[Jk,(AV.d (D.v (.int .i64 Z2y))),(AV.ptr 0 0),Jk,Jk,(AV.d (D.v (.int .i64 Z4c))),Jk,Jk,Jk,Jk,Jk,Jk,Jk,Jk,Jk,Jk,Jk,Jk,Jk,Jk,Jk,Jk,Jk,Jk,Jk,Jk,Jk,Jk,Jk,Jk,Jk,Jk,Jk,Jk],[(Blk.d 1 [(D.list Z40 Z3k Z2j)])]⟩
  (contK Tg Z5z.sp ⟨0,[],false,[]⟩ (inlK Tg Z5z m 4) m Z3s (endK Tg Tryz.f34 (fun v L => viewK L 8 v some)) [.block 1,.loop (bm 38 34) 1 (subc [1,1,0,0,0] (bodyOf Tryz.f34)) n0,.block 0,.code (subc [1,1,1] (bodyOf Tryz.f34))]))
theorem Z13t (m n0 : Nat) (Z2y : Int) (Z4c : Int) (Z40 : Nat) (Z3k : Option Nat) (Z2j : List D) : Zwi m n0 Z2y Z4c Z40 Z3k Z2j =
 (if 0 ≤ Z2y ∧ Z2y < (Z40 : Int) then
 (rdI .i64 Z2j[(((Int.toNat Z2y) * 20) + 0)]?).bind fun x9 =>
 Zjx m n0 x9 (IntKind.wrap .i64 (Z4c + (1 : Int))) Z40 Z3k Z2j
 else none) := (Z1y m _).trans (by kernel_rfl)
theorem Z15m (m n0 : Nat) (Zz : Int) (Z13 : Int) (Z18 : Nat) (Z1b : Option Nat) (Z14 : List D) : Zjx m (n0 + 1) Zz Z13 Z18 Z1b Z14 =
 (cond (decide (Zz > (0 : Int)))
 (if 0 ≤ Zz ∧ Zz < (Z18 : Int) then
 (rdI .i64 Z14[(((Int.toNat Zz) * 20) + 0)]?).bind fun x7 =>
 cond (decide (x7 ≥ Zz))
 (some (D.v (.int .i64 (100000 : Int))))
 (if 0 ≤ Zz ∧ Zz < (Z18 : Int) then
 (rdI .i64 Z14[(((Int.toNat Zz) * 20) + 0)]?).bind fun x8 =>
 cond (decide (x8 < (0 : Int)))
 (some (D.v (.int .i64 (100000 : Int))))
 (Zwi m n0 Zz Z13 Z18 Z1b Z14)
 else none)
 else none)
 (some (D.v (.int .i64 Z13)))) := by kernel_rfl
noncomputable def Zpe (m : Nat) (a0_0n : Nat) (a0_0c : Option Nat) (a0_0 : List D) (a1 : Int) : Option D :=
 Zjx m m a1 (0 : Int) a0_0n a0_0c a0_0
theorem Z17s (m : Nat) (a0_0n : Nat) (a0_0c : Option Nat) (a0_0 : List D) (a1 : Int) : funD Tg Z5z m 4 Z3s Tryz.f34 [(D.agg [(D.list a0_0n a0_0c a0_0)]),(D.v (.int .i64 a1))] = Zpe m a0_0n a0_0c a0_0 a1 := by kernel_rfl
theorem Z1ch : Enters Tg 34 := ⟨Tryz.f34,Tryz.func34,by kernel_rfl,by kernel_rfl⟩
theorem Z1ci {ds : List D} {d : D} (h : funD Tg Z5z M 4 Z3s Tryz.f34 ds = some d) : DataSem Tg 34 ds d := Zf (H := Z5z) SpOk.nil mixed InlOk.nil Tryz.func34 Z1ch h
noncomputable def Z2m : List D → Option D
 | [.agg [.list a0_0n a0_0c a0_0],.v (.int .i64 a1)] => Zpe M a0_0n a0_0c a0_0 a1
 | _ => none
theorem Zgv : ∀ ds d,Z2m ds = some d → DataSem Tg 34 ds d := by
 intro ds d h
 unfold Z2m at h
 split at h
 ·exact Z1ci ((Z17s M _ _ _ _).trans h)
 ·cases h
def Z6r : FnH := ⟨[(10,⟨(bm 34 39),[],(some 1)⟩)],[]⟩
noncomputable def Zep : Hints := ⟨[(53,Zgt),(91,Z91),(104,Zgs)],[],[]⟩
noncomputable def Zjy (m n0 : Nat) (Zz : Int) (Z13 : List D) : Option D :=
 Z1e (bm 34 39) 0 1 (codeK Tg Zep.sp ⟨0,[],false,[]⟩ (inlK Tg Zep m 4) m Z6r (subc [1,1,1,1,0,1,0,0] (bodyOf Tryz.f63))) n0 ⟨[Jk,(AV.ptr 0 0),Jk,Jk,Jk,(AV.d (D.v (.int .i64 Zz))),Jk,Jk,Jk,Jk,Jk,Jk,Jk,Jk,Jk,Jk,Jk,Jk,Jk,Jk,Jk,Jk,Jk,Jk,Jk,Jk,Jk,Jk,Jk,Jk,Jk,Jk,Jk,Jk,Jk,Jk,Jk,Jk,Jk],[(Blk.d 20 Z13)]⟩
  (contK Tg Zep.sp ⟨0,[],false,[]⟩ (inlK Tg Zep m 4) m Z6r (endK Tg Tryz.f63 (fun v L => viewK L 8 v some)) [.block 0,.code (subc [1,1,1,1,1] (bodyOf Tryz.f63))])
theorem Z15n (m n0 : Nat) (Zz : Int) (Z13 : List D) : Zjy m (n0 + 1) Zz Z13 =
 ((rdL Z13[19]?).bind fun q15 =>
 cond (decide (Zz < (q15.n : Int)))
 ((rdL Z13[19]?).bind fun q16 =>
 if 0 ≤ Zz ∧ Zz < (q16.n : Int) then
 if (((Int.toNat Zz) * 27) + 27) ≤ (List.length q16.cs) then
 (Zgs [(D.agg ((List.drop ((Int.toNat Zz) * 27) q16.cs).take 27))]).bind fun d17 =>
 (rdI .i64 (some d17)).bind fun x18 =>
 cond (x18 != (0 : Int))
 (some (D.v (.int .i64 x18)))
 (Zjy m n0 (IntKind.wrap .i64 (Zz + (1 : Int))) Z13)
 else none
 else none)
 (some zI)) := by kernel_rfl
noncomputable def Zs3 (m : Nat) (a0 : List D) : Option D :=
 if (List.length a0) = 20 then
 (Z91 [(D.agg ((List.drop 1 a0).take 17))]).bind fun d1 =>
 (rdI .i64 (some d1)).bind fun x2 =>
 cond (x2 != (0 : Int))
 (some (D.v (.int .i64 x2)))
 ((rdL a0[18]?).bind fun q3 =>
 (Zgt [(D.list q3.n q3.cap q3.cs)]).bind fun d4 =>
 (rdI .i64 (some d4)).bind fun x5 =>
 cond (x5 != (0 : Int))
 (some (D.v (.int .i64 x5)))
 ((rdL a0[19]?).bind fun q6 =>
 cond (decide ((q6.n : Int) > (8 : Int)))
 (some (D.v (.int .i64 (3 : Int))))
 (Zjy m m (0 : Int) a0)))
 else none
theorem Z1ac (m : Nat) (a0 : List D) : funD Tg Zep m 4 Z6r Tryz.f63 [(D.agg a0)] = Zs3 m a0 := by kernel_rfl
theorem Z1ey : Enters Tg 63 := ⟨Tryz.f63,Tryz.func63,by kernel_rfl,by kernel_rfl⟩
theorem Z1ez {ds : List D} {d : D} (h : funD Tg Zep M 4 Z6r Tryz.f63 ds = some d) : DataSem Tg 63 ds d := Zf (H := Zep) (SpOk.cons Z1ca (SpOk.cons Z10n (SpOk.cons Z1c5 SpOk.nil))) mixed InlOk.nil Tryz.func63 Z1ey h
noncomputable def Zjz : List D → Option D
 | [.agg a0] => Zs3 M a0
 | _ => none
theorem Z1f0 : ∀ ds d,Zjz ds = some d → DataSem Tg 63 ds d := by
 intro ds d h
 unfold Zjz at h
 split at h
 ·exact Z1ez ((Z1ac M _).trans h)
 ·cases h
def Z1n : FnH := ⟨[(3,⟨(bm 102 27),[(5,1)],(some 2)⟩)],[(4,⟨(bm 102 27),[],(some 3)⟩)]⟩
noncomputable def Z2n : Hints := ⟨[],[],[]⟩
noncomputable def Z8w (m n0 : Nat) (Zz : Int) (Z13 : Nat) (Z18 : Int) (Z1b : Nat) (Z14 : Option Nat) (Z1q : List D) (Z1z : Nat) (Z32 : List D) : Option D :=
 Z1e (bm 102 27) 0 2 (codeK Tg Z2n.sp ⟨0,[],false,[]⟩ (inlK Tg Z2n m 4) m Z1n (subc [1,1,0,1,0,0] (bodyOf Tryz.f44))) n0 ⟨[Jk,(AV.d (D.v (.int .i64 Zz))),(AV.ptr 0 0),Jk,Jk,(AV.sl 1 0 Z13 none 1),(AV.d (D.v (.int .i64 Z18))),Jk,Jk,Jk,Jk,Jk,Jk,Jk,Jk,Jk,Jk,Jk,Jk,Jk,Jk,Jk,Jk,Jk,Jk,Jk,Jk],[(Blk.d 1 [(D.list Z1b Z14 Z1q)]),(Blk.d Z1z Z32)]⟩
  (contK Tg Z2n.sp ⟨0,[],false,[]⟩ (inlK Tg Z2n m 4) m Z1n (endK Tg Tryz.f44 (fun v L => viewK L 8 v some)) [.block 0,.code (subc [1,1,1] (bodyOf Tryz.f44))])
noncomputable def Zqm (m n0 : Nat) (Z2y : Int) (Z4c : Nat) (Z40 : Int) (Z3k : Nat) (Z2j : Option Nat) (Z6i : List D) (Z7k : Nat) (Zjw : List D) (Zns : Int) : Option D :=
 cutK m (codeK Tg Z2n.sp ⟨0,[],false,[]⟩ (inlK Tg Z2n m 4) m Z1n (subc [1,1,0,1,0,0,1,1] (bodyOf Tryz.f44)) ⟨[Jk,(AV.d (D.v (.int .i64 Z2y))),(AV.ptr 0 0),Jk,Jk,(AV.sl 1 0 Z4c none 1),(AV.d (D.v (.int .i64 Z40))),Jk,Jk,Jk,Jk,Jk,Jk,Jk,Jk,Jk,Jk,Jk,Jk,Jk,Jk,Jk,Jk,Jk,Jk,Jk,Jk],[(Blk.d 1 [(D.list Z3k Z2j Z6i)]),(Blk.d Z7k Zjw),(Blk.d 1 [(D.v (.int .i64 Zns))])]⟩
  (contK Tg Z2n.sp ⟨0,[],false,[]⟩ (inlK Tg Z2n m 4) m Z1n (endK Tg Tryz.f44 (fun v L => viewK L 8 v some)) [.loop (bm 102 27) 2 (subc [1,1,0,1,0,0] (bodyOf Tryz.f44)) n0,.block 0,.code (subc [1,1,1] (bodyOf Tryz.f44))]))
theorem Zyh (m n0 : Nat) (Z2y : Int) (Z4c : Nat) (Z40 : Int) (Z3k : Nat) (Z2j : Option Nat) (Z6i : List D) (Z7k : Nat) (Zjw : List D) (Zns : Int) : Zqm m n0 Z2y Z4c Z40 Z3k Z2j Z6i Z7k Zjw Zns =
 (Z8w m n0 Z2y Z4c (IntKind.wrap .i64 (Z40 + (1 : Int))) Z3k Z2j Z6i Z7k Zjw) := (Z1y m _).trans (by kernel_rfl)
noncomputable def Zno (m n0 : Nat) (Z9n : Int) (Zbt : Nat) (Zbv : Int) (Zcj : Nat) (Z8v : Option Nat) (Zaj : List D) (Zha : Nat) (Zla : List D) : Option D :=
 cutK m (codeK Tg Z2n.sp ⟨0,[],false,[]⟩ (inlK Tg Z2n m 4) m Z1n (subc [1,1,0,1,0,0,1,1] (bodyOf Tryz.f44)) ⟨[Jk,(AV.d (D.v (.int .i64 Z9n))),(AV.ptr 0 0),Jk,Jk,(AV.sl 1 0 Zbt none 1),(AV.d (D.v (.int .i64 Zbv))),Jk,Jk,Jk,Jk,Jk,Jk,Jk,Jk,Jk,Jk,Jk,Jk,Jk,Jk,Jk,Jk,Jk,Jk,Jk,Jk],[(Blk.d 1 [(D.list Zcj Z8v Zaj)]),(Blk.d Zha Zla)]⟩
  (contK Tg Z2n.sp ⟨0,[],false,[]⟩ (inlK Tg Z2n m 4) m Z1n (endK Tg Tryz.f44 (fun v L => viewK L 8 v some)) [.loop (bm 102 27) 2 (subc [1,1,0,1,0,0] (bodyOf Tryz.f44)) n0,.block 0,.code (subc [1,1,1] (bodyOf Tryz.f44))]))
theorem Zv3 (m n0 : Nat) (Z9n : Int) (Zbt : Nat) (Zbv : Int) (Zcj : Nat) (Z8v : Option Nat) (Zaj : List D) (Zha : Nat) (Zla : List D) : Zno m n0 Z9n Zbt Zbv Zcj Z8v Zaj Zha Zla =
 (Z8w m n0 Z9n Zbt (IntKind.wrap .i64 (Zbv + (1 : Int))) Zcj Z8v Zaj Zha Zla) := (Z1y m _).trans (by kernel_rfl)
theorem Zzo (m n0 : Nat) (Zz : Int) (Z13 : Nat) (Z18 : Int) (Z1b : Nat) (Z14 : Option Nat) (Z1q : List D) (Z1z : Nat) (Z32 : List D) : Z8w m (n0 + 1) Zz Z13 Z18 Z1b Z14 Z1q Z1z Z32 =
 (cond (decide (Z18 < (Z1b : Int)))
 (if 0 ≤ Z18 ∧ Z18 < (Z1b : Int) then
 (rdI .i64 Z1q[(((Int.toNat Z18) * 20) + 0)]?).bind fun x3 =>
 cond (x3 == Zz)
 (if ownB ⟨0,[],false,[]⟩ 1 = true ∧ Z1z = (Z13 * 1) ∧ fitsRow (Z13 + 1) 8 ∧ 1 = 1 then
 Zqm m n0 Zz (Z13 + 1) Z18 Z1b Z14 Z1q ((Z13 + 1) * 1) (Z32 ++ [(D.v (.int .i64 Z18))]) Z18
 else none)
 (Zno m n0 Zz Z13 Z18 Z1b Z14 Z1q Z1z Z32)
 else none)
 (if (0 + (Z13 * 1)) ≤ Z1z then
 some (D.list Z13 none (cutL Z1z Z32 0 (Z13 * 1)))
 else none)) := by kernel_rfl
noncomputable def Zhb (m : Nat) (a0_0n : Nat) (a0_0c : Option Nat) (a0_0 : List D) (a1 : Int) : Option D :=
 Z8w m m a1 0 (0 : Int) a0_0n a0_0c a0_0 0 []
theorem Z11e (m : Nat) (a0_0n : Nat) (a0_0c : Option Nat) (a0_0 : List D) (a1 : Int) : funD Tg Z2n m 4 Z1n Tryz.f44 [(D.agg [(D.list a0_0n a0_0c a0_0)]),(D.v (.int .i64 a1))] = Zhb m a0_0n a0_0c a0_0 a1 := by kernel_rfl
theorem Z15o : Enters Tg 44 := ⟨Tryz.f44,Tryz.func44,by kernel_rfl,by kernel_rfl⟩
theorem Z15p {ds : List D} {d : D} (h : funD Tg Z2n M 4 Z1n Tryz.f44 ds = some d) : DataSem Tg 44 ds d := Zf (H := Z2n) SpOk.nil mixed InlOk.nil Tryz.func44 Z15o h
noncomputable def Z6n : List D → Option D
 | [.agg [.list a0_0n a0_0c a0_0],.v (.int .i64 a1)] => Zhb M a0_0n a0_0c a0_0 a1
 | _ => none
theorem Ztu : ∀ ds d,Z6n ds = some d → DataSem Tg 44 ds d := by
 intro ds d h
 unfold Z6n at h
 split at h
 ·exact Z15p ((Z11e M _ _ _ _).trans h)
 ·cases h
def Z3t : FnH := ⟨[(2,⟨(bm 170 34),[],(some 2)⟩)],[(3,⟨(bm 170 34),[],(some 2)⟩)]⟩
noncomputable def Z60 : Hints := ⟨[],[],[]⟩
noncomputable def Zk0 (m n0 : Nat) (Zz : Int) (Z13 : Int) (Z18 : Nat) (Z1b : Option Nat) (Z14 : List D) (Z1q : List D) : Option D :=
 Z1e (bm 170 34) 0 2 (codeK Tg Z60.sp ⟨0,[],false,[]⟩ (inlK Tg Z60 m 4) m Z3t (subc [1,0,1,0,0] (bodyOf Tryz.f87))) n0 ⟨[Jk,(AV.d (D.v (.int .i64 Zz))),Jk,(AV.ptr 0 0),Jk,(AV.ptr 1 0),Jk,(AV.d (D.v (.int .i64 Z13))),Jk,Jk,Jk,Jk,Jk,Jk,Jk,Jk,Jk,Jk,Jk,Jk,Jk,Jk,Jk,Jk,Jk,Jk,Jk,Jk,Jk,Jk,Jk,Jk,Jk,Jk],[(Blk.d 1 [(D.list Z18 Z1b Z14)]),(Blk.d 17 Z1q)]⟩
  (contK Tg Z60.sp ⟨0,[],false,[]⟩ (inlK Tg Z60 m 4) m Z3t (endK Tg Tryz.f87 (fun v L => viewK L 8 v some)) [.block 0,.code (subc [1,1] (bodyOf Tryz.f87))])
noncomputable def Zo3 (m n0 : Nat) (Z2y : Int) (Z4c : Int) (Z40 : Nat) (Z3k : Option Nat) (Z2j : List D) (Z6i : List D) : Option D :=
 cutK m (codeK Tg Z60.sp ⟨0,[],false,[]⟩ (inlK Tg Z60 m 4) m Z3t (subc [1,0,1,0,0,1,1] (bodyOf Tryz.f87)) ⟨[Jk,(AV.d (D.v (.int .i64 Z2y))),Jk,(AV.ptr 0 0),Jk,(AV.ptr 1 0),Jk,(AV.d (D.v (.int .i64 Z4c))),Jk,Jk,Jk,Jk,Jk,Jk,Jk,Jk,Jk,Jk,Jk,Jk,Jk,Jk,Jk,Jk,Jk,Jk,Jk,Jk,Jk,Jk,Jk,Jk,Jk,Jk],[(Blk.d 1 [(D.list Z40 Z3k Z2j)]),(Blk.d 17 Z6i)]⟩
  (contK Tg Z60.sp ⟨0,[],false,[]⟩ (inlK Tg Z60 m 4) m Z3t (endK Tg Tryz.f87 (fun v L => viewK L 8 v some)) [.loop (bm 170 34) 2 (subc [1,0,1,0,0] (bodyOf Tryz.f87)) n0,.block 0,.code (subc [1,1] (bodyOf Tryz.f87))]))
theorem Zs4 (m n0 : Nat) (Z2y : Int) (Z4c : Int) (Z40 : Nat) (Z3k : Option Nat) (Z2j : List D) (Z6i : List D) : Zo3 m n0 Z2y Z4c Z40 Z3k Z2j Z6i =
 (Zk0 m n0 Z2y (IntKind.wrap .i64 (Z4c + (1 : Int))) Z40 Z3k Z2j Z6i) := (Z1y m _).trans (by kernel_rfl)
theorem Z15q (m n0 : Nat) (Zz : Int) (Z13 : Int) (Z18 : Nat) (Z1b : Option Nat) (Z14 : List D) (Z1q : List D) : Zk0 m (n0 + 1) Zz Z13 Z18 Z1b Z14 Z1q =
 (cond (decide (Z13 < (Z18 : Int)))
 (if 0 ≤ Z13 ∧ Z13 < (Z18 : Int) then
 (rdI .i64 Z14[(((Int.toNat Z13) * 20) + 0)]?).bind fun x5 =>
 cond (x5 == Zz)
 (if 0 ≤ Z13 ∧ Z13 < (Z18 : Int) then
 if ((((Int.toNat Z13) * 20) + 1) + 17) ≤ (List.length Z14) then
 (cellsEq [.int,.int,.int,.int,.int,.int,.int,.int,.int,.int,.int,.int,.int,.int,.int,.int,.int] ((List.drop (((Int.toNat Z13) * 20) + 1) Z14).take 17) Z1q).bind fun b6 =>
 cond b6
 (some (D.v (.int .i64 Z13)))
 (Zo3 m n0 Zz Z13 Z18 Z1b Z14 Z1q)
 else none
 else none)
 (Zo3 m n0 Zz Z13 Z18 Z1b Z14 Z1q)
 else none)
 (some (D.v (.int .i64 (-1 : Int))))) := by kernel_rfl
noncomputable def Zpf (m : Nat) (a0_0n : Nat) (a0_0c : Option Nat) (a0_0 : List D) (a1 : Int) (a2 : List D) : Option D :=
 if (List.length a2) = 17 then
 Zk0 m m a1 (0 : Int) a0_0n a0_0c a0_0 a2
 else none
theorem Z17t (m : Nat) (a0_0n : Nat) (a0_0c : Option Nat) (a0_0 : List D) (a1 : Int) (a2 : List D) : funD Tg Z60 m 4 Z3t Tryz.f87 [(D.agg [(D.list a0_0n a0_0c a0_0)]),(D.v (.int .i64 a1)),(D.agg a2)] = Zpf m a0_0n a0_0c a0_0 a1 a2 := by kernel_rfl
theorem Z1cj : Enters Tg 87 := ⟨Tryz.f87,Tryz.func87,by kernel_rfl,by kernel_rfl⟩
theorem Z1ck {ds : List D} {d : D} (h : funD Tg Z60 M 4 Z3t Tryz.f87 ds = some d) : DataSem Tg 87 ds d := Zf (H := Z60) SpOk.nil mixed InlOk.nil Tryz.func87 Z1cj h
noncomputable def Zgw : List D → Option D
 | [.agg [.list a0_0n a0_0c a0_0],.v (.int .i64 a1),.agg a2] => Zpf M a0_0n a0_0c a0_0 a1 a2
 | _ => none
theorem Z1cl : ∀ ds d,Zgw ds = some d → DataSem Tg 87 ds d := by
 intro ds d h
 unfold Zgw at h
 split at h
 ·exact Z1ck ((Z17t M _ _ _ _ _).trans h)
 ·cases h
def Z4k : FnH := ⟨[],[(3,⟨(bm 12 56),[],(some 2)⟩),(9,⟨(bm 8 56),[],(some 2)⟩)]⟩
noncomputable def Z75 : Hints := ⟨[(34,Z2m),(63,Zjz),(87,Zgw)],[],[]⟩
noncomputable def Za0 (m : Nat) (Z2y : Nat) (Z4c : Option Nat) (Z40 : List D) (Z3k : List D) : Option D :=
 cutK m (codeK Tg Z75.sp ⟨0,[],false,[]⟩ (inlK Tg Z75 m 4) m Z4k (subc [1,1] (bodyOf Tryz.f48)) ⟨[Jk,Jk,(AV.ptr 0 0),(AV.ptr 1 0),Jk,Jk,Jk,Jk,Jk,Jk,Jk,Jk,Jk,Jk,Jk,Jk,Jk,Jk,Jk,Jk,Jk,Jk,Jk,Jk,Jk,Jk,Jk,Jk,Jk,Jk,Jk,Jk,Jk,Jk,Jk,Jk,Jk,Jk,Jk,Jk,Jk,Jk,Jk,Jk,Jk,Jk,Jk,Jk,Jk,Jk,Jk,Jk,Jk,Jk,Jk,Jk],[(Blk.d 1 [(D.list Z2y Z4c Z40)]),(Blk.d 20 Z3k)]⟩
  (contK Tg Z75.sp ⟨0,[],false,[]⟩ (inlK Tg Z75 m 4) m Z4k (endK Tg Tryz.f48 (fun v L => viewK L 8 v some)) []))
noncomputable def Zk1 (m : Nat) (Z9n : Nat) (Zbt : Option Nat) (Zbv : List D) (Zcj : List D) : Option D :=
 cutK m (codeK Tg Z75.sp ⟨0,[],false,[]⟩ (inlK Tg Z75 m 4) m Z4k (subc [1,1,1,1,1] (bodyOf Tryz.f48)) ⟨[Jk,Jk,Jk,(AV.ptr 1 0),Jk,Jk,Jk,Jk,Jk,Jk,Jk,Jk,Jk,Jk,Jk,Jk,Jk,Jk,Jk,Jk,Jk,Jk,Jk,Jk,Jk,Jk,Jk,Jk,Jk,Jk,Jk,Jk,Jk,Jk,Jk,Jk,Jk,Jk,Jk,Jk,Jk,Jk,Jk,Jk,Jk,Jk,Jk,Jk,Jk,Jk,Jk,Jk,Jk,Jk,Jk,Jk],[(Blk.d 1 [(D.list Z9n Zbt Zbv)]),(Blk.d 20 Zcj)]⟩
  (contK Tg Z75.sp ⟨0,[],false,[]⟩ (inlK Tg Z75 m 4) m Z4k (endK Tg Tryz.f48 (fun v L => viewK L 8 v some)) []))
theorem Z15r (m : Nat) (Z9n : Nat) (Zbt : Option Nat) (Zbv : List D) (Zcj : List D) : Zk1 m Z9n Zbt Zbv Zcj =
 ((Zjz [(D.agg Zcj)]).bind fun d11 =>
 (rdI .i64 (some d11)).bind fun x12 =>
 some (D.v (.int .i64 x12))) := (Z1y m _).trans (by kernel_rfl)
theorem Z15s (m : Nat) (Z2y : Nat) (Z4c : Option Nat) (Z40 : List D) (Z3k : List D) : Za0 m Z2y Z4c Z40 Z3k =
 ((rdI .i64 Z3k[0]?).bind fun x4 =>
 (Zgw [(D.agg [(D.list Z2y Z4c Z40)]),(D.v (.int .i64 x4)),(D.agg ((List.drop 1 Z3k).take 17))]).bind fun d5 =>
 (rdI .i64 (some d5)).bind fun x6 =>
 cond (decide (x6 ≥ (0 : Int)))
 (some (D.v (.int .i64 (20 : Int))))
 (cond ((Z2y : Int) == (65536 : Int))
 (some (D.v (.int .i64 (3 : Int))))
 ((rdI .i64 Z3k[0]?).bind fun x7 =>
 cond (decide (x7 ≥ (0 : Int)))
 ((rdI .i64 Z3k[0]?).bind fun x8 =>
 (Z2m [(D.agg [(D.list Z2y Z4c Z40)]),(D.v (.int .i64 x8))]).bind fun d9 =>
 (rdI .i64 (some d9)).bind fun x10 =>
 cond (x10 == (64 : Int))
 (some (D.v (.int .i64 (12 : Int))))
 (Zk1 m Z2y Z4c Z40 Z3k))
 (Zk1 m Z2y Z4c Z40 Z3k)))) := (Z1y m _).trans (by kernel_rfl)
noncomputable def Zs5 (m : Nat) (a0_0n : Nat) (a0_0c : Option Nat) (a0_0 : List D) (a1 : List D) : Option D :=
 if (List.length a1) = 20 then
 cond ((a0_0n : Int) == (0 : Int))
 ((rdI .i64 a1[0]?).bind fun x1 =>
 cond (x1 != (-1 : Int))
 (some (D.v (.int .i64 (19 : Int))))
 (cond (decide ((a0_0n : Int) > (0 : Int)))
 ((rdI .i64 a1[0]?).bind fun x2 =>
 cond (decide (x2 < (0 : Int)))
 (some (D.v (.int .i64 (19 : Int))))
 ((rdI .i64 a1[0]?).bind fun x3 =>
 cond (decide (x3 ≥ (a0_0n : Int)))
 (some (D.v (.int .i64 (19 : Int))))
 (Za0 m a0_0n a0_0c a0_0 a1)))
 (Za0 m a0_0n a0_0c a0_0 a1)))
 (cond (decide ((a0_0n : Int) > (0 : Int)))
 ((rdI .i64 a1[0]?).bind fun x13 =>
 cond (decide (x13 < (0 : Int)))
 (some (D.v (.int .i64 (19 : Int))))
 ((rdI .i64 a1[0]?).bind fun x14 =>
 cond (decide (x14 ≥ (a0_0n : Int)))
 (some (D.v (.int .i64 (19 : Int))))
 (Za0 m a0_0n a0_0c a0_0 a1)))
 (Za0 m a0_0n a0_0c a0_0 a1))
 else none
theorem Z1ad (m : Nat) (a0_0n : Nat) (a0_0c : Option Nat) (a0_0 : List D) (a1 : List D) : funD Tg Z75 m 4 Z4k Tryz.f48 [(D.agg [(D.list a0_0n a0_0c a0_0)]),(D.agg a1)] = Zs5 m a0_0n a0_0c a0_0 a1 := by kernel_rfl
theorem Z1f1 : Enters Tg 48 := ⟨Tryz.f48,Tryz.func48,by kernel_rfl,by kernel_rfl⟩
theorem Z1f2 {ds : List D} {d : D} (h : funD Tg Z75 M 4 Z4k Tryz.f48 ds = some d) : DataSem Tg 48 ds d := Zf (H := Z75) (SpOk.cons Zgv (SpOk.cons Z1f0 (SpOk.cons Z1cl SpOk.nil))) mixed InlOk.nil Tryz.func48 Z1f1 h
noncomputable def Zk2 : List D → Option D
 | [.agg [.list a0_0n a0_0c a0_0],.agg a1] => Zs5 M a0_0n a0_0c a0_0 a1
 | _ => none
theorem Z1f3 : ∀ ds d,Zk2 ds = some d → DataSem Tg 48 ds d := by
 intro ds d h
 unfold Zk2 at h
 split at h
 ·exact Z1f2 ((Z1ad M _ _ _ _).trans h)
 ·cases h
def Z16 : FnH := ⟨[(4,⟨(bm 476 114),[(1003000,20)],(some 5)⟩),(18,⟨(bm 2256 114),[],(some 5)⟩)],[(10,⟨(bm 2012 114),[],(some 6)⟩),(13,⟨(bm 988 114),[],(some 6)⟩),(12,⟨(bm 988 114),[],(some 6)⟩),(17,⟨(bm 208 114),[],(some 5)⟩),(19,⟨(bm 2256 114),[],(some 5)⟩)]⟩
noncomputable def Z1s : Hints := ⟨[(62,Z5l)],[],[]⟩
noncomputable def Zpg (m n0 : Nat) (Zz : Int) (Z13 : Int) (Z18 : Nat) (Z1b : Option Nat) (Z14 : List D) (Z1q : List D) (Z1z : Nat) (Z32 : Nat) (Z4e : List D) : Option D :=
 Z1e (bm 476 114) 0 5 (codeK Tg Z1s.sp ⟨0,[],false,[]⟩ (inlK Tg Z1s m 4) m Z16 (subc [1,1,1,0,1,0,0] (bodyOf Tryz.f49))) n0 ⟨[Jk,Jk,(AV.ptr 0 0),(AV.ptr 1 0),(AV.ptr 2 0),Jk,(AV.ptr 3 0),(AV.d (D.v (.int .i64 Zz))),(AV.d (D.v (.int .i64 Z13))),Jk,Jk,Jk,Jk,Jk,Jk,Jk,Jk,Jk,Jk,Jk,Jk,Jk,Jk,Jk,Jk,Jk,Jk,Jk,Jk,Jk,Jk,Jk,Jk,Jk,Jk,Jk,Jk,Jk,Jk,Jk,Jk,Jk,Jk,Jk,Jk,Jk,Jk,Jk,Jk,Jk,Jk,Jk,Jk,Jk,Jk,Jk,Jk,Jk,Jk,Jk,Jk,Jk,Jk,Jk,Jk,Jk,Jk,Jk,Jk,Jk,Jk,Jk,Jk,Jk,Jk,Jk,Jk,Jk,Jk,Jk,Jk,Jk,Jk,Jk,Jk,Jk,Jk,Jk,Jk,Jk,Jk,Jk,Jk,Jk,Jk,Jk,Jk,Jk,Jk,Jk,Jk,Jk,Jk,Jk,Jk,Jk,Jk,Jk,Jk,Jk,Jk,Jk,Jk,Jk],[(Blk.d 1 [(D.list Z18 Z1b Z14)]),(Blk.d 20 Z1q),(Blk.d 1 [(D.list 0 (some 0) [])]),(Blk.a 1 [(AV.sl 4 0 Z1z none 20)]),(Blk.d Z32 Z4e)]⟩
  (contK Tg Z1s.sp ⟨0,[],false,[]⟩ (inlK Tg Z1s m 4) m Z16 (endK Tg Tryz.f49 (fun v L => viewK L 8 v some)) [.block 0,.code (subc [1,1,1,1] (bodyOf Tryz.f49))])
noncomputable def Z84 (m n0 : Nat) (Z2y : Int) (Z4c : Int) (Z40 : Int) (Z3k : Nat) (Z2j : Option Nat) (Z6i : List D) (Z7k : List D) (Zjw : Nat) (Zns : Nat) (Z15t : List D) (Zwq : List D) : Option D :=
 cutK m (codeK Tg Z1s.sp ⟨0,[],false,[]⟩ (inlK Tg Z1s m 4) m Z16 (subc [1,1,1,0,1,0,0,1,0,0,1,1,1] (bodyOf Tryz.f49)) ⟨[Jk,Jk,(AV.ptr 0 0),(AV.ptr 1 0),(AV.ptr 2 0),Jk,(AV.ptr 3 0),(AV.d (D.v (.int .i64 Z2y))),(AV.d (D.v (.int .i64 Z4c))),(AV.ptr 5 0),(AV.d (D.v (.int .i64 Z40))),Jk,Jk,Jk,Jk,Jk,Jk,Jk,Jk,Jk,Jk,Jk,Jk,Jk,Jk,Jk,Jk,Jk,Jk,Jk,Jk,Jk,Jk,Jk,Jk,Jk,Jk,Jk,Jk,Jk,Jk,Jk,Jk,Jk,Jk,Jk,Jk,Jk,Jk,Jk,Jk,Jk,Jk,Jk,Jk,Jk,Jk,Jk,Jk,Jk,Jk,Jk,Jk,Jk,Jk,Jk,Jk,Jk,Jk,Jk,Jk,Jk,Jk,Jk,Jk,Jk,Jk,Jk,Jk,Jk,Jk,Jk,Jk,Jk,Jk,Jk,Jk,Jk,Jk,Jk,Jk,Jk,Jk,Jk,Jk,Jk,Jk,Jk,Jk,Jk,Jk,Jk,Jk,Jk,Jk,Jk,Jk,Jk,Jk,Jk,Jk,Jk,Jk,Jk],[(Blk.d 1 [(D.list Z3k Z2j Z6i)]),(Blk.d 20 Z7k),(Blk.d 1 [(D.list 0 (some 0) [])]),(Blk.a 1 [(AV.sl 4 0 Zjw none 20)]),(Blk.d Zns Z15t),(Blk.d 20 Zwq)]⟩
  (contK Tg Z1s.sp ⟨0,[],false,[]⟩ (inlK Tg Z1s m 4) m Z16 (endK Tg Tryz.f49 (fun v L => viewK L 8 v some)) [.block 1,.code (subc [1,1,1,0,1,0,0,1,1] (bodyOf Tryz.f49)),.loop (bm 476 114) 5 (subc [1,1,1,0,1,0,0] (bodyOf Tryz.f49)) n0,.block 0,.code (subc [1,1,1,1] (bodyOf Tryz.f49))]))
noncomputable def Zyi (m n0 : Nat) (Z9n : Int) (Zbt : Int) (Zbv : Nat) (Zcj : Option Nat) (Z8v : List D) (Zaj : List D) (Zha : Nat) (Zla : Nat) (Zx2 : List D) (Zwp : List D) : Option D :=
 cutK m (codeK Tg Z1s.sp ⟨0,[],false,[]⟩ (inlK Tg Z1s m 4) m Z16 (subc [1,1,1,0,1,0,0,1,0,0,1,1,1,0,1,0,1] (bodyOf Tryz.f49)) ⟨[Jk,Jk,(AV.ptr 0 0),(AV.ptr 1 0),(AV.ptr 2 0),Jk,(AV.ptr 3 0),(AV.d (D.v (.int .i64 Z9n))),(AV.d (D.v (.int .i64 Zbt))),(AV.ptr 5 0),Jk,Jk,Jk,Jk,Jk,Jk,Jk,Jk,Jk,Jk,Jk,Jk,Jk,Jk,Jk,Jk,Jk,Jk,Jk,Jk,Jk,Jk,Jk,Jk,Jk,Jk,Jk,Jk,Jk,Jk,Jk,Jk,Jk,Jk,Jk,Jk,Jk,Jk,Jk,Jk,Jk,Jk,Jk,Jk,Jk,Jk,Jk,Jk,Jk,Jk,Jk,Jk,Jk,Jk,Jk,Jk,Jk,Jk,Jk,Jk,Jk,Jk,Jk,Jk,Jk,Jk,Jk,Jk,Jk,Jk,Jk,Jk,Jk,Jk,Jk,Jk,Jk,Jk,Jk,Jk,Jk,Jk,Jk,Jk,Jk,Jk,Jk,Jk,Jk,Jk,Jk,Jk,Jk,Jk,Jk,Jk,Jk,Jk,Jk,Jk,Jk,Jk,Jk,Jk],[(Blk.d 1 [(D.list Zbv Zcj Z8v)]),(Blk.d 20 Zaj),(Blk.d 1 [(D.list 0 (some 0) [])]),(Blk.a 1 [(AV.sl 4 0 Zha none 20)]),(Blk.d Zla Zx2),(Blk.d 20 Zwp)]⟩
  (contK Tg Z1s.sp ⟨0,[],false,[]⟩ (inlK Tg Z1s m 4) m Z16 (endK Tg Tryz.f49 (fun v L => viewK L 8 v some)) [.code (subc [1,1,1,0,1,0,0,1,0,0,1,1,1,1] (bodyOf Tryz.f49)),.block 1,.code (subc [1,1,1,0,1,0,0,1,1] (bodyOf Tryz.f49)),.loop (bm 476 114) 5 (subc [1,1,1,0,1,0,0] (bodyOf Tryz.f49)) n0,.block 0,.code (subc [1,1,1,1] (bodyOf Tryz.f49))]))
noncomputable def Zeq (m n0 : Nat) (Zc2 : Int) (Zt6 : Int) (Zv0 : Nat) (Zwg : Option Nat) (Zwh : List D) (Zx3 : List D) (Zza : Nat) (Z11c : Nat) (Z11d : List D) (Z15u : List D) : Option D :=
 cutK m (codeK Tg Z1s.sp ⟨0,[],false,[]⟩ (inlK Tg Z1s m 4) m Z16 (subc [1,1,1,0,1,0,0,1,0,0,1,1,1,1] (bodyOf Tryz.f49)) ⟨[Jk,Jk,(AV.ptr 0 0),(AV.ptr 1 0),(AV.ptr 2 0),Jk,(AV.ptr 3 0),(AV.d (D.v (.int .i64 Zc2))),(AV.d (D.v (.int .i64 Zt6))),(AV.ptr 5 0),Jk,Jk,Jk,Jk,Jk,Jk,Jk,Jk,Jk,Jk,Jk,Jk,Jk,Jk,Jk,Jk,Jk,Jk,Jk,Jk,Jk,Jk,Jk,Jk,Jk,Jk,Jk,Jk,Jk,Jk,Jk,Jk,Jk,Jk,Jk,Jk,Jk,Jk,Jk,Jk,Jk,Jk,Jk,Jk,Jk,Jk,Jk,Jk,Jk,Jk,Jk,Jk,Jk,Jk,Jk,Jk,Jk,Jk,Jk,Jk,Jk,Jk,Jk,Jk,Jk,Jk,Jk,Jk,Jk,Jk,Jk,Jk,Jk,Jk,Jk,Jk,Jk,Jk,Jk,Jk,Jk,Jk,Jk,Jk,Jk,Jk,Jk,Jk,Jk,Jk,Jk,Jk,Jk,Jk,Jk,Jk,Jk,Jk,Jk,Jk,Jk,Jk,Jk,Jk],[(Blk.d 1 [(D.list Zv0 Zwg Zwh)]),(Blk.d 20 Zx3),(Blk.d 1 [(D.list 0 (some 0) [])]),(Blk.a 1 [(AV.sl 4 0 Zza none 20)]),(Blk.d Z11c Z11d),(Blk.d 20 Z15u)]⟩
  (contK Tg Z1s.sp ⟨0,[],false,[]⟩ (inlK Tg Z1s m 4) m Z16 (endK Tg Tryz.f49 (fun v L => viewK L 8 v some)) [.block 1,.code (subc [1,1,1,0,1,0,0,1,1] (bodyOf Tryz.f49)),.loop (bm 476 114) 5 (subc [1,1,1,0,1,0,0] (bodyOf Tryz.f49)) n0,.block 0,.code (subc [1,1,1,1] (bodyOf Tryz.f49))]))
theorem Z15v (m n0 : Nat) (Zc2 : Int) (Zt6 : Int) (Zv0 : Nat) (Zwg : Option Nat) (Zwh : List D) (Zx3 : List D) (Zza : Nat) (Z11c : Nat) (Z11d : List D) (Z15u : List D) : Zeq m n0 Zc2 Zt6 Zv0 Zwg Zwh Zx3 Zza Z11c Z11d Z15u =
 (if (List.length Z15u) = 20 then
 if ownB ⟨0,[],false,[]⟩ 4 = true ∧ Z11c = (Zza * 20) ∧ fitsRow (Zza + 1) 128 ∧ (List.length Z15u) = 20 then
 Zpg m n0 Zc2 (IntKind.wrap .i64 (Zt6 + (1 : Int))) Zv0 Zwg Zwh Zx3 (Zza + 1) ((Zza + 1) * 20) (Z11d ++ Z15u)
 else none
 else none) := (Z1y m _).trans (by kernel_rfl)
theorem Z15w (m n0 : Nat) (Z9n : Int) (Zbt : Int) (Zbv : Nat) (Zcj : Option Nat) (Z8v : List D) (Zaj : List D) (Zha : Nat) (Zla : Nat) (Zx2 : List D) (Zwp : List D) : Zyi m n0 Z9n Zbt Zbv Zcj Z8v Zaj Zha Zla Zx2 Zwp =
 (if (List.length Zaj) = 20 then
 if ownB ⟨0,[],false,[]⟩ 4 = true ∧ Zla = (Zha * 20) ∧ fitsRow (Zha + 1) 128 ∧ (List.length Zaj) = 20 then
 Zeq m n0 Z9n Zbt Zbv Zcj Z8v Zaj (Zha + 1) ((Zha + 1) * 20) (Zx2 ++ Zaj) Zwp
 else none
 else none) := (Z1y m _).trans (by kernel_rfl)
theorem Z15x (m n0 : Nat) (Z2y : Int) (Z4c : Int) (Z40 : Int) (Z3k : Nat) (Z2j : Option Nat) (Z6i : List D) (Z7k : List D) (Zjw : Nat) (Zns : Nat) (Z15t : List D) (Zwq : List D) : Z84 m n0 Z2y Z4c Z40 Z3k Z2j Z6i Z7k Zjw Zns Z15t Zwq =
 (cond (decide (Z2y < (0 : Int)))
 (cond (Z40 == (1 : Int))
 (Zyi m n0 (Zjw : Int) Z4c Z3k Z2j Z6i Z7k Zjw Zns Z15t Zwq)
 (Zeq m n0 Z2y Z4c Z3k Z2j Z6i Z7k Zjw Zns Z15t Zwq))
 (Zeq m n0 Z2y Z4c Z3k Z2j Z6i Z7k Zjw Zns Z15t Zwq)) := (Z1y m _).trans (by kernel_rfl)
noncomputable def Zqn (m : Nat) (Z1me : Int) (Z1nz : Nat) (Z1p7 : Option Nat) (Z1o0 : List D) (Z1o1 : List D) (Z1o2 : Nat) (Z1o3 : Nat) (Z1nl : List D) : Option D :=
 cutK m (codeK Tg Z1s.sp ⟨0,[],false,[]⟩ (inlK Tg Z1s m 4) m Z16 (subc [1,1,1,1,1] (bodyOf Tryz.f49)) ⟨[Jk,Jk,Jk,Jk,(AV.ptr 2 0),Jk,(AV.ptr 3 0),(AV.d (D.v (.int .i64 Z1me))),Jk,Jk,Jk,Jk,Jk,Jk,Jk,Jk,Jk,Jk,Jk,Jk,Jk,Jk,Jk,Jk,Jk,Jk,Jk,Jk,Jk,Jk,Jk,Jk,Jk,Jk,Jk,Jk,Jk,Jk,Jk,Jk,Jk,Jk,Jk,Jk,Jk,Jk,Jk,Jk,Jk,Jk,Jk,Jk,Jk,Jk,Jk,Jk,Jk,Jk,Jk,Jk,Jk,Jk,Jk,Jk,Jk,Jk,Jk,Jk,Jk,Jk,Jk,Jk,Jk,Jk,Jk,Jk,Jk,Jk,Jk,Jk,Jk,Jk,Jk,Jk,Jk,Jk,Jk,Jk,Jk,Jk,Jk,Jk,Jk,Jk,Jk,Jk,Jk,Jk,Jk,Jk,Jk,Jk,Jk,Jk,Jk,Jk,Jk,Jk,Jk,Jk,Jk,Jk,Jk,Jk],[(Blk.d 1 [(D.list Z1nz Z1p7 Z1o0)]),(Blk.d 20 Z1o1),(Blk.d 1 [(D.list 0 (some 0) [])]),(Blk.a 1 [(AV.sl 4 0 Z1o2 none 20)]),(Blk.d Z1o3 Z1nl)]⟩
  (contK Tg Z1s.sp ⟨0,[],false,[]⟩ (inlK Tg Z1s m 4) m Z16 (endK Tg Tryz.f49 (fun v L => viewK L 8 v some)) []))
noncomputable def Zm7 (m n0 : Nat) (Z43 : Int) (Z76 : Int) (Z56 : Nat) (Z61 : Option Nat) (Z5a : List D) (Z5r : List D) (Z4r : Nat) (Z5f : Nat) (Z5s : List D) : Option D :=
 Z1e (bm 2256 114) 0 5 (codeK Tg Z1s.sp ⟨0,[],false,[]⟩ (inlK Tg Z1s m 4) m Z16 (subc [1,1,1,1,1,0,1,0,0] (bodyOf Tryz.f49))) n0 ⟨[Jk,Jk,Jk,Jk,(AV.ptr 2 0),Jk,(AV.ptr 3 0),(AV.d (D.v (.int .i64 Z43))),Jk,Jk,Jk,(AV.d (D.v (.int .i64 Z76))),Jk,Jk,Jk,Jk,Jk,Jk,Jk,Jk,Jk,Jk,Jk,Jk,Jk,Jk,Jk,Jk,Jk,Jk,Jk,Jk,Jk,Jk,Jk,Jk,Jk,Jk,Jk,Jk,Jk,Jk,Jk,Jk,Jk,Jk,Jk,Jk,Jk,Jk,Jk,Jk,Jk,Jk,Jk,Jk,Jk,Jk,Jk,Jk,Jk,Jk,Jk,Jk,Jk,Jk,Jk,Jk,Jk,Jk,Jk,Jk,Jk,Jk,Jk,Jk,Jk,Jk,Jk,Jk,Jk,Jk,Jk,Jk,Jk,Jk,Jk,Jk,Jk,Jk,Jk,Jk,Jk,Jk,Jk,Jk,Jk,Jk,Jk,Jk,Jk,Jk,Jk,Jk,Jk,Jk,Jk,Jk,Jk,Jk,Jk,Jk,Jk,Jk],[(Blk.d 1 [(D.list Z56 Z61 Z5a)]),(Blk.d 20 Z5r),(Blk.d 1 [(D.list 0 (some 0) [])]),(Blk.a 1 [(AV.sl 4 0 Z4r none 20)]),(Blk.d Z5f Z5s)]⟩
  (contK Tg Z1s.sp ⟨0,[],false,[]⟩ (inlK Tg Z1s m 4) m Z16 (endK Tg Tryz.f49 (fun v L => viewK L 8 v some)) [.block 2,.code (subc [1,1,1,1,1,1] (bodyOf Tryz.f49))])
noncomputable def Zk3 (m n0 : Nat) (Z1q8 : Int) (Z1q9 : Int) (Z1qa : Nat) (Z1qb : Option Nat) (Z1qc : List D) (Z1qd : List D) (Z1qe : Nat) (Z1qf : Nat) (Z1qg : List D) : Option D :=
 cutK m (codeK Tg Z1s.sp ⟨0,[],false,[]⟩ (inlK Tg Z1s m 4) m Z16 (subc [1,1,1,1,1,0,1,0,0,1,1] (bodyOf Tryz.f49)) ⟨[Jk,Jk,Jk,Jk,(AV.ptr 2 0),Jk,(AV.ptr 3 0),(AV.d (D.v (.int .i64 Z1q8))),Jk,Jk,Jk,(AV.d (D.v (.int .i64 Z1q9))),Jk,Jk,Jk,Jk,Jk,Jk,Jk,Jk,Jk,Jk,Jk,Jk,Jk,Jk,Jk,Jk,Jk,Jk,Jk,Jk,Jk,Jk,Jk,Jk,Jk,Jk,Jk,Jk,Jk,Jk,Jk,Jk,Jk,Jk,Jk,Jk,Jk,Jk,Jk,Jk,Jk,Jk,Jk,Jk,Jk,Jk,Jk,Jk,Jk,Jk,Jk,Jk,Jk,Jk,Jk,Jk,Jk,Jk,Jk,Jk,Jk,Jk,Jk,Jk,Jk,Jk,Jk,Jk,Jk,Jk,Jk,Jk,Jk,Jk,Jk,Jk,Jk,Jk,Jk,Jk,Jk,Jk,Jk,Jk,Jk,Jk,Jk,Jk,Jk,Jk,Jk,Jk,Jk,Jk,Jk,Jk,Jk,Jk,Jk,Jk,Jk,Jk],[(Blk.d 1 [(D.list Z1qa Z1qb Z1qc)]),(Blk.d 20 Z1qd),(Blk.d 1 [(D.list 0 (some 0) [])]),(Blk.a 1 [(AV.sl 4 0 Z1qe none 20)]),(Blk.d Z1qf Z1qg)]⟩
  (contK Tg Z1s.sp ⟨0,[],false,[]⟩ (inlK Tg Z1s m 4) m Z16 (endK Tg Tryz.f49 (fun v L => viewK L 8 v some)) [.loop (bm 2256 114) 5 (subc [1,1,1,1,1,0,1,0,0] (bodyOf Tryz.f49)) n0,.block 2,.code (subc [1,1,1,1,1,1] (bodyOf Tryz.f49))]))
theorem Zll (m n0 : Nat) (Z1q8 : Int) (Z1q9 : Int) (Z1qa : Nat) (Z1qb : Option Nat) (Z1qc : List D) (Z1qd : List D) (Z1qe : Nat) (Z1qf : Nat) (Z1qg : List D) : Zk3 m n0 Z1q8 Z1q9 Z1qa Z1qb Z1qc Z1qd Z1qe Z1qf Z1qg =
 (Zm7 m n0 Z1q8 (IntKind.wrap .i64 (Z1q9 + (1 : Int))) Z1qa Z1qb Z1qc Z1qd Z1qe Z1qf Z1qg) := (Z1y m _).trans (by kernel_rfl)
theorem Z17u (m n0 : Nat) (Z43 : Int) (Z76 : Int) (Z56 : Nat) (Z61 : Option Nat) (Z5a : List D) (Z5r : List D) (Z4r : Nat) (Z5f : Nat) (Z5s : List D) : Zm7 m (n0 + 1) Z43 Z76 Z56 Z61 Z5a Z5r Z4r Z5f Z5s =
 (cond (decide (Z76 < (Z4r : Int)))
 (cond (Z76 != Z43)
 (if 0 ≤ Z76 ∧ Z76 < (Z4r : Int) then
 (rdI .i64 Z5s[((0 + ((Int.toNat Z76) * 20)) + 0)]?).bind fun x23 =>
 cond (decide (x23 ≥ Z43))
 (if 0 ≤ Z76 ∧ Z76 < (Z4r : Int) then
 (rdI .i64 Z5s[((0 + ((Int.toNat Z76) * 20)) + 0)]?).bind fun x24 =>
 if 0 ≤ Z76 ∧ Z76 < (Z4r : Int) then
 if 1 = 1 ∧ ((0 + ((Int.toNat Z76) * 20)) + 0) < Z5f then
 Zk3 m n0 Z43 Z76 Z56 Z61 Z5a Z5r Z4r Z5f (List.set Z5s ((0 + ((Int.toNat Z76) * 20)) + 0) (D.v (.int .i64 (IntKind.wrap .i64 (x24 + (1 : Int))))))
 else none
 else none
 else none)
 (Zk3 m n0 Z43 Z76 Z56 Z61 Z5a Z5r Z4r Z5f Z5s)
 else none)
 (Zk3 m n0 Z43 Z76 Z56 Z61 Z5a Z5r Z4r Z5f Z5s))
 (if (0 + (Z4r * 20)) ≤ Z5f then
 some (D.tup [(D.agg [(D.list Z4r none (cutL Z5f Z5s 0 (Z4r * 20)))]),(D.v (.int .i64 Z43))])
 else none)) := by kernel_rfl
theorem Ztv (m : Nat) (Z1me : Int) (Z1nz : Nat) (Z1p7 : Option Nat) (Z1o0 : List D) (Z1o1 : List D) (Z1o2 : Nat) (Z1o3 : Nat) (Z1nl : List D) : Zqn m Z1me Z1nz Z1p7 Z1o0 Z1o1 Z1o2 Z1o3 Z1nl =
 (Zm7 m m Z1me (0 : Int) Z1nz Z1p7 Z1o0 Z1o1 Z1o2 Z1o3 Z1nl) := (Z1y m _).trans (by kernel_rfl)
theorem Z1ae (m n0 : Nat) (Zz : Int) (Z13 : Int) (Z18 : Nat) (Z1b : Option Nat) (Z14 : List D) (Z1q : List D) (Z1z : Nat) (Z32 : Nat) (Z4e : List D) : Zpg m (n0 + 1) Zz Z13 Z18 Z1b Z14 Z1q Z1z Z32 Z4e =
 (cond (decide (Z13 < (Z18 : Int)))
 (if 0 ≤ Z13 ∧ Z13 < (Z18 : Int) then
 if (((Int.toNat Z13) * 20) + 20) ≤ (List.length Z14) then
 if (List.length ((List.drop ((Int.toNat Z13) * 20) Z14).take 20)) = 20 then
 cond (decide (Z13 > (0 : Int)))
 ((rdI .i64 ((List.drop ((Int.toNat Z13) * 20) Z14).take 20)[0]?).bind fun x13 =>
 (rdI .i64 Z1q[0]?).bind fun x14 =>
 cond (decide (x13 > x14))
 (Z84 m n0 Zz Z13 (1 : Int) Z18 Z1b Z14 Z1q Z1z Z32 Z4e ((List.drop ((Int.toNat Z13) * 20) Z14).take 20))
 ((rdI .i64 ((List.drop ((Int.toNat Z13) * 20) Z14).take 20)[0]?).bind fun x15 =>
 (rdI .i64 Z1q[0]?).bind fun x16 =>
 cond (x15 == x16)
 ((Z5l [(D.agg ((List.drop 1 ((List.drop ((Int.toNat Z13) * 20) Z14).take 20)).take 17)),(D.agg ((List.drop 1 Z1q).take 17))]).bind fun d17 =>
 (rdI .i64 (some d17)).bind fun x18 =>
 cond (decide (x18 > (0 : Int)))
 (Z84 m n0 Zz Z13 (1 : Int) Z18 Z1b Z14 Z1q Z1z Z32 Z4e ((List.drop ((Int.toNat Z13) * 20) Z14).take 20))
 (Z84 m n0 Zz Z13 (0 : Int) Z18 Z1b Z14 Z1q Z1z Z32 Z4e ((List.drop ((Int.toNat Z13) * 20) Z14).take 20)))
 (Z84 m n0 Zz Z13 (0 : Int) Z18 Z1b Z14 Z1q Z1z Z32 Z4e ((List.drop ((Int.toNat Z13) * 20) Z14).take 20))))
 (Z84 m n0 Zz Z13 (0 : Int) Z18 Z1b Z14 Z1q Z1z Z32 Z4e ((List.drop ((Int.toNat Z13) * 20) Z14).take 20))
 else none
 else none
 else none)
 (cond (decide (Zz < (0 : Int)))
 (if (List.length Z1q) = 20 then
 if ownB ⟨0,[],false,[]⟩ 4 = true ∧ Z32 = (Z1z * 20) ∧ fitsRow (Z1z + 1) 128 ∧ (List.length Z1q) = 20 then
 Zqn m (Z1z : Int) Z18 Z1b Z14 Z1q (Z1z + 1) ((Z1z + 1) * 20) (Z4e ++ Z1q)
 else none
 else none)
 (Zqn m Zz Z18 Z1b Z14 Z1q Z1z Z32 Z4e))) := by kernel_rfl
noncomputable def Zv4 (m : Nat) (a0_0n : Nat) (a0_0c : Option Nat) (a0_0 : List D) (a1 : List D) : Option D :=
 if (List.length a1) = 20 then
 Zpg m m (-1 : Int) (0 : Int) a0_0n a0_0c a0_0 a1 0 0 []
 else none
theorem Z1cm (m : Nat) (a0_0n : Nat) (a0_0c : Option Nat) (a0_0 : List D) (a1 : List D) : funD Tg Z1s m 4 Z16 Tryz.f49 [(D.agg [(D.list a0_0n a0_0c a0_0)]),(D.agg a1)] = Zv4 m a0_0n a0_0c a0_0 a1 := by kernel_rfl
theorem Z1hu : Enters Tg 49 := ⟨Tryz.f49,Tryz.func49,by kernel_rfl,by kernel_rfl⟩
theorem Z1hv {ds : List D} {d : D} (h : funD Tg Z1s M 4 Z16 Tryz.f49 ds = some d) : DataSem Tg 49 ds d := Zf (H := Z1s) (SpOk.cons Zo1 SpOk.nil) mixed InlOk.nil Tryz.func49 Z1hu h
noncomputable def Znp : List D → Option D
 | [.agg [.list a0_0n a0_0c a0_0],.agg a1] => Zv4 M a0_0n a0_0c a0_0 a1
 | _ => none
theorem Z1hw : ∀ ds d,Znp ds = some d → DataSem Tg 49 ds d := by
 intro ds d h
 unfold Znp at h
 split at h
 ·exact Z1hv ((Z1cm M _ _ _ _).trans h)
 ·cases h
def Z20 : FnH := ⟨[(3,⟨(bm 30 64),[],(some 3)⟩)],[(5,⟨(bm 30 64),[],(some 3)⟩),(8,⟨(bm 62 64),[],(some 4)⟩),(4,⟨(bm 30 64),[],(some 3)⟩)]⟩
noncomputable def Z34 : Hints := ⟨[(38,Z74),(48,Zk2),(49,Znp),(72,Znn),(73,Zgu)],[],[]⟩
noncomputable def Zm8 (m n0 : Nat) (Zz : Int) (Z13 : Nat) (Z18 : Option Nat) (Z1b : List D) (Z14 : List D) : Option D :=
 Z1e (bm 30 64) 0 3 (codeK Tg Z34.sp ⟨0,[],false,[]⟩ (inlK Tg Z34 m 4) m Z20 (subc [1,1,0,1,0,0] (bodyOf Tryz.f24))) n0 ⟨[Jk,(AV.ptr 0 0),(AV.ptr 1 0),(AV.ptr 2 0),(AV.d (D.v (.int .i64 Zz))),Jk,Jk,Jk,Jk,Jk,Jk,Jk,Jk,Jk,Jk,Jk,Jk,Jk,Jk,Jk,Jk,Jk,Jk,Jk,Jk,Jk,Jk,Jk,Jk,Jk,Jk,Jk,Jk,Jk,Jk,Jk,Jk,Jk,Jk,Jk,Jk,Jk,Jk,Jk,Jk,Jk,Jk,Jk,Jk,Jk,Jk,Jk,Jk,Jk,Jk,Jk,Jk,Jk,Jk,Jk,Jk,Jk,Jk,Jk],[(Blk.d 1 [(D.list Z13 Z18 Z1b)]),(Blk.d 1 [(D.list 0 (some 0) [])]),(Blk.d 1 Z14)]⟩
  (contK Tg Z34.sp ⟨0,[],false,[]⟩ (inlK Tg Z34 m 4) m Z20 (endK Tg Tryz.f24 (fun v L => viewK L 8 v some)) [.block 0,.code (subc [1,1,1] (bodyOf Tryz.f24))])
noncomputable def Zyj (m n0 : Nat) (Z2y : Int) (Z4c : Nat) (Z40 : Option Nat) (Z3k : List D) (Z2j : List D) : Option D :=
 cutK m (codeK Tg Z34.sp ⟨0,[],false,[]⟩ (inlK Tg Z34 m 4) m Z20 (subc [1,1,0,1,0,0,1] (bodyOf Tryz.f24)) ⟨[Jk,(AV.ptr 0 0),(AV.ptr 1 0),(AV.ptr 2 0),(AV.d (D.v (.int .i64 Z2y))),Jk,Jk,Jk,Jk,Jk,Jk,Jk,Jk,Jk,Jk,Jk,Jk,Jk,Jk,Jk,Jk,Jk,Jk,Jk,Jk,Jk,Jk,Jk,Jk,Jk,Jk,Jk,Jk,Jk,Jk,Jk,Jk,Jk,Jk,Jk,Jk,Jk,Jk,Jk,Jk,Jk,Jk,Jk,Jk,Jk,Jk,Jk,Jk,Jk,Jk,Jk,Jk,Jk,Jk,Jk,Jk,Jk,Jk,Jk],[(Blk.d 1 [(D.list Z4c Z40 Z3k)]),(Blk.d 1 [(D.list 0 (some 0) [])]),(Blk.d 1 Z2j)]⟩
  (contK Tg Z34.sp ⟨0,[],false,[]⟩ (inlK Tg Z34 m 4) m Z20 (endK Tg Tryz.f24 (fun v L => viewK L 8 v some)) [.loop (bm 30 64) 3 (subc [1,1,0,1,0,0] (bodyOf Tryz.f24)) n0,.block 0,.code (subc [1,1,1] (bodyOf Tryz.f24))]))
noncomputable def Zk4 (m n0 : Nat) (Z9n : Int) (Zbt : Nat) (Zbv : Option Nat) (Zcj : List D) (Z8v : List D) (Zaj : List D) : Option D :=
 cutK m (codeK Tg Z34.sp ⟨0,[],false,[]⟩ (inlK Tg Z34 m 4) m Z20 (subc [1,1,0,1,0,0,1,0,0,1,1] (bodyOf Tryz.f24)) ⟨[Jk,(AV.ptr 0 0),(AV.ptr 1 0),(AV.ptr 2 0),(AV.d (D.v (.int .i64 Z9n))),(AV.ptr 3 0),Jk,Jk,Jk,Jk,Jk,Jk,Jk,Jk,Jk,Jk,Jk,Jk,Jk,Jk,Jk,Jk,Jk,Jk,Jk,Jk,Jk,Jk,Jk,Jk,Jk,Jk,Jk,Jk,Jk,Jk,Jk,Jk,Jk,Jk,Jk,Jk,Jk,Jk,Jk,Jk,Jk,Jk,Jk,Jk,Jk,Jk,Jk,Jk,Jk,Jk,Jk,Jk,Jk,Jk,Jk,Jk,Jk,Jk],[(Blk.d 1 [(D.list Zbt Zbv Zcj)]),(Blk.d 1 [(D.list 0 (some 0) [])]),(Blk.d 1 Z8v),(Blk.d 20 Zaj)]⟩
  (contK Tg Z34.sp ⟨0,[],false,[]⟩ (inlK Tg Z34 m 4) m Z20 (endK Tg Tryz.f24 (fun v L => viewK L 8 v some)) [.block 1,.code (subc [1,1,0,1,0,0,1,1] (bodyOf Tryz.f24)),.loop (bm 30 64) 3 (subc [1,1,0,1,0,0] (bodyOf Tryz.f24)) n0,.block 0,.code (subc [1,1,1] (bodyOf Tryz.f24))]))
noncomputable def Zqo (m n0 : Nat) (Zc2 : Int) (Zt6 : Nat) (Zv0 : Option Nat) (Zwg : List D) (Zwh : List D) : Option D :=
 cutK m (codeK Tg Z34.sp ⟨0,[],false,[]⟩ (inlK Tg Z34 m 4) m Z20 (subc [1,1,0,1,0,0,1,1] (bodyOf Tryz.f24)) ⟨[Jk,(AV.ptr 0 0),(AV.ptr 1 0),(AV.ptr 2 0),(AV.d (D.v (.int .i64 Zc2))),Jk,Jk,Jk,Jk,Jk,Jk,Jk,Jk,Jk,Jk,Jk,Jk,Jk,Jk,Jk,Jk,Jk,Jk,Jk,Jk,Jk,Jk,Jk,Jk,Jk,Jk,Jk,Jk,Jk,Jk,Jk,Jk,Jk,Jk,Jk,Jk,Jk,Jk,Jk,Jk,Jk,Jk,Jk,Jk,Jk,Jk,Jk,Jk,Jk,Jk,Jk,Jk,Jk,Jk,Jk,Jk,Jk,Jk,Jk],[(Blk.d 1 [(D.list Zt6 Zv0 Zwg)]),(Blk.d 1 [(D.list 0 (some 0) [])]),(Blk.d 1 Zwh)]⟩
  (contK Tg Z34.sp ⟨0,[],false,[]⟩ (inlK Tg Z34 m 4) m Z20 (endK Tg Tryz.f24 (fun v L => viewK L 8 v some)) [.loop (bm 30 64) 3 (subc [1,1,0,1,0,0] (bodyOf Tryz.f24)) n0,.block 0,.code (subc [1,1,1] (bodyOf Tryz.f24))]))
theorem Ztw (m n0 : Nat) (Zc2 : Int) (Zt6 : Nat) (Zv0 : Option Nat) (Zwg : List D) (Zwh : List D) : Zqo m n0 Zc2 Zt6 Zv0 Zwg Zwh =
 (Zm8 m n0 (IntKind.wrap .i64 (Zc2 + (1 : Int))) Zt6 Zv0 Zwg Zwh) := (Z1y m _).trans (by kernel_rfl)
theorem Z15y (m n0 : Nat) (Z9n : Int) (Zbt : Nat) (Zbv : Option Nat) (Zcj : List D) (Z8v : List D) (Zaj : List D) : Zk4 m n0 Z9n Zbt Zbv Zcj Z8v Zaj =
 ((Zk2 [(D.agg Z8v),(D.agg Zaj)]).bind fun d50 =>
 (rdI .i64 (some d50)).bind fun x51 =>
 cond (x51 == (0 : Int))
 ((Znp [(D.agg Z8v),(D.agg Zaj)]).bind fun d52 =>
 (rdT d52).bind fun r53 =>
 if List.length r53 = 2 then
 (rdA r53[0]?).bind fun c54 =>
 (rdI .i64 r53[1]?).bind fun x55 =>
 if (List.length c54) = 1 then
 Zqo m n0 Z9n Zbt Zbv Zcj c54
 else none
 else none)
 (Zqo m n0 Z9n Zbt Zbv Zcj Z8v)) := (Z1y m _).trans (by kernel_rfl)
theorem Z15z (m n0 : Nat) (Z2y : Int) (Z4c : Nat) (Z40 : Option Nat) (Z3k : List D) (Z2j : List D) : Zyj m n0 Z2y Z4c Z40 Z3k Z2j =
 (if 0 ≤ Z2y ∧ Z2y < (Z4c : Int) then
 (rdI .u8 Z3k[(((Int.toNat Z2y) * 4) + 1)]?).bind fun x39 =>
 (Z74 [(D.v (.int .u8 x39))]).bind fun d40 =>
 (rdA (some d40)).bind fun c41 =>
 if 0 ≤ Z2y ∧ Z2y < (Z4c : Int) then
 (rdI .u8 Z3k[(((Int.toNat Z2y) * 4) + 2)]?).bind fun x42 =>
 (Znn [(D.v (.int .u8 x42))]).bind fun d43 =>
 (rdL (some d43)).bind fun q44 =>
 if 0 ≤ Z2y ∧ Z2y < (Z4c : Int) then
 (rdI .u8 Z3k[(((Int.toNat Z2y) * 4) + 3)]?).bind fun x45 =>
 (Zgu [(D.v (.int .u8 x45))]).bind fun d46 =>
 (rdL (some d46)).bind fun q47 =>
 if (List.length c41) = 17 then
 if (List.length (List.set (List.set (putL 20 [(D.v (.int .i64 (-1 : Int))),(D.v (.int .u8 (0 : Int))),zU,zU,zU,zU,zU,zU,zU,zU,zU,zU,zU,zU,zU,zU,zU,zU,(D.list 0 (some 0) []),(D.list 0 (some 0) [])] 1 17 c41) 18 (D.list q44.n q44.cap q44.cs)) 19 (D.list q47.n q47.cap q47.cs))) = 20 then
 cond (decide (Z2y > (0 : Int)))
 (if 0 ≤ Z2y ∧ Z2y < (Z4c : Int) then
 (rdI .u8 Z3k[(((Int.toNat Z2y) * 4) + 0)]?).bind fun x48 =>
 (rdL Z2j[0]?).bind fun q49 =>
 if (q49.n : Int) = 0 then none else
 Zk4 m n0 Z2y Z4c Z40 Z3k Z2j (List.set (List.set (List.set (putL 20 [(D.v (.int .i64 (-1 : Int))),(D.v (.int .u8 (0 : Int))),zU,zU,zU,zU,zU,zU,zU,zU,zU,zU,zU,zU,zU,zU,zU,zU,(D.list 0 (some 0) []),(D.list 0 (some 0) [])] 1 17 c41) 18 (D.list q44.n q44.cap q44.cs)) 19 (D.list q47.n q47.cap q47.cs)) 0 (D.v (.int .i64 (Int.tmod (IntKind.wrap .i64 x48) (q49.n : Int)))))
 else none)
 (Zk4 m n0 Z2y Z4c Z40 Z3k Z2j (List.set (List.set (putL 20 [(D.v (.int .i64 (-1 : Int))),(D.v (.int .u8 (0 : Int))),zU,zU,zU,zU,zU,zU,zU,zU,zU,zU,zU,zU,zU,zU,zU,zU,(D.list 0 (some 0) []),(D.list 0 (some 0) [])] 1 17 c41) 18 (D.list q44.n q44.cap q44.cs)) 19 (D.list q47.n q47.cap q47.cs)))
 else none
 else none
 else none
 else none
 else none) := (Z1y m _).trans (by kernel_rfl)
theorem Z17v (m n0 : Nat) (Zz : Int) (Z13 : Nat) (Z18 : Option Nat) (Z1b : List D) (Z14 : List D) : Zm8 m (n0 + 1) Zz Z13 Z18 Z1b Z14 =
 (cond (decide (Zz < (Z13 : Int)))
 (cond (decide (Zz < (25 : Int)))
 (Zyj m n0 Zz Z13 Z18 Z1b Z14)
 (if (List.length Z14) = 1 then
 some (D.agg Z14)
 else none))
 (if (List.length Z14) = 1 then
 some (D.agg Z14)
 else none)) := by kernel_rfl
noncomputable def Z16v (m : Nat) (a0_0n : Nat) (a0_0c : Option Nat) (a0_0 : List D) : Option D :=
 Zm8 m m (0 : Int) a0_0n a0_0c a0_0 [(D.list 0 (some 0) [])]
theorem Z1af (m : Nat) (a0_0n : Nat) (a0_0c : Option Nat) (a0_0 : List D) : funD Tg Z34 m 4 Z20 Tryz.f24 [(D.agg [(D.list a0_0n a0_0c a0_0)])] = Z16v m a0_0n a0_0c a0_0 := by kernel_rfl
theorem Z1f4 : Enters Tg 24 := ⟨Tryz.f24,Tryz.func24,by kernel_rfl,by kernel_rfl⟩
theorem Z1f5 {ds : List D} {d : D} (h : funD Tg Z34 M 4 Z20 Tryz.f24 ds = some d) : DataSem Tg 24 ds d := Zf (H := Z34) (SpOk.cons Zqk (SpOk.cons Z1f3 (SpOk.cons Z1hw (SpOk.cons Z1ht (SpOk.cons Z1ce SpOk.nil))))) mixed InlOk.nil Tryz.func24 Z1f4 h
noncomputable def Z2c : List D → Option D
 | [.agg [.list a0_0n a0_0c a0_0]] => Z16v M a0_0n a0_0c a0_0
 | _ => none
theorem Zv5 : ∀ ds d,Z2c ds = some d → DataSem Tg 24 ds d := by
 intro ds d h
 unfold Z2c at h
 split at h
 ·exact Z1f5 ((Z1af M _ _ _).trans h)
 ·cases h
end Go.Ev