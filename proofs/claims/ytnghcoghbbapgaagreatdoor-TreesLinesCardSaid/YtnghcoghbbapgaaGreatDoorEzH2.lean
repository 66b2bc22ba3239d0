/- Functions of the given program in plain form,printed: each with the proof that it is what the evaluator comes to,and that the program function returns what it says. No conditions. -/
import Derived.Test.YtnghcoghbbapgaaGreatDoorEzG5
set_option linter.unusedVariables false
set_option maxRecDepth 100000
namespace Go.Ev
open Go Go.Proofs
def Z5m : FnH := ⟨[(3,⟨(bm 1800 24),[],(some 2)⟩)],[]⟩
noncomputable def Zbi : Hints := ⟨[],[],[]⟩
noncomputable def Zoj (m n0 : Nat) (Zq : Nat) (Zv : Option Nat) (Zz : List D) (Zy : Int) (Z11 : Int) (Z13 : List (D × D)) : Option D :=
 Z1k (bm 1800 24) 0 2 (codeK Tg Zbi.sp ⟨0,[],false,[]⟩ (inlK Tg Zbi m 4) m Z5m (subc [1,1,0,1,0,0] (bodyOf Tryz.f47))) n0 ⟨[Jk,Jk,Jk,(AV.mp 1),Jk,Jk,Jk,Jk,(AV.d (D.list Zq Zv Zz)),(AV.d (D.v (.int .i64 Zy))),(AV.d (D.v (.int .i64 Z11))),Jk,Jk,Jk,Jk,Jk,Jk,Jk,Jk,Jk,Jk,Jk,Jk,Jk],[(Blk.d 1 [(D.list Zq Zv Zz)]),(Blk.map Z13)]⟩
  (contK Tg Zbi.sp ⟨0,[],false,[]⟩ (inlK Tg Zbi m 4) m Z5m (endK Tg Tryz.f47 endV) [.block 0,.code (subc [1,1,1] (bodyOf Tryz.f47))])
theorem Z1hg (m n0 : Nat) (Zq : Nat) (Zv : Option Nat) (Zz : List D) (Zy : Int) (Z11 : Int) (Z13 : List (D × D)) : Zoj m (n0 + 1) Zq Zv Zz Zy Z11 Z13 =
 (cond (decide (Z11 < Zy))
 (if 0 ≤ Z11 ∧ Z11 < (Zq : Int) then
 if (((Int.toNat Z11) * 20) + 20) ≤ (List.length Zz) then
 if (List.length ((List.drop ((Int.toNat Z11) * 20) Zz).take 20)) = 20 then
 (rdI .i64 ((List.drop ((Int.toNat Z11) * 20) Zz).take 20)[0]?).bind fun x5 =>
 if (List.length ((List.drop 1 ((List.drop ((Int.toNat Z11) * 20) Zz).take 20)).take 17)) = 17 then
 if keyOk Tg 86 (D.agg (putL 18 [(D.v (.int .i64 x5)),(D.v (.int .u8 (0 : Int))),zU,zU,zU,zU,zU,zU,zU,zU,zU,zU,zU,zU,zU,zU,zU,zU] 1 17 ((List.drop 1 ((List.drop ((Int.toNat Z11) * 20) Zz).take 20)).take 17))) = true then
 (putM (keyEq Tg 86) (D.agg (putL 18 [(D.v (.int .i64 x5)),(D.v (.int .u8 (0 : Int))),zU,zU,zU,zU,zU,zU,zU,zU,zU,zU,zU,zU,zU,zU,zU,zU] 1 17 ((List.drop 1 ((List.drop ((Int.toNat Z11) * 20) Zz).take 20)).take 17))) (D.v (.int .i64 Z11)) Z13).bind fun g6 =>
 Zoj m n0 Zq Zv Zz Zy (IntKind.wrap .i64 (Z11 + (1 : Int))) g6
 else none
 else none
 else none
 else none
 else none)
 (some (D.mp Z13))) := by kernel_rfl
noncomputable def Zvn (m : Nat) (a0_0n : Nat) (a0_0c : Option Nat) (a0_0 : List D) : Option D :=
 Zoj m m a0_0n a0_0c a0_0 (a0_0n : Int) (0 : Int) ([])
theorem Z1k1 (m : Nat) (a0_0n : Nat) (a0_0c : Option Nat) (a0_0 : List D) : funD Tg Zbi m 4 Z5m Tryz.f47 [(D.agg [(D.list a0_0n a0_0c a0_0)])] = Zvn m a0_0n a0_0c a0_0 := by kernel_rfl
theorem Z1pl : Enters Tg 47 := ⟨Tryz.f47,Tryz.func47,by kernel_rfl,by kernel_rfl⟩
theorem Z1pm {ds : List D} {d : D} (h : funD Tg Zbi M 4 Z5m Tryz.f47 ds = some d) : DataSem Tg 47 ds d := Z5 (H := Zbi) SpOk.nil mixed InlOk.nil Tryz.func47 Z1pl h
noncomputable def Z95 : List D → Option D
 | [.agg [.list a0_0n a0_0c a0_0]] => Zvn M a0_0n a0_0c a0_0
 | _ => none
theorem Z1bk : ∀ ds d,Z95 ds = some d → DataSem Tg 47 ds d := by
 intro ds d h
 unfold Z95 at h
 split at h
 ·exact Z1pm ((Z1k1 M _ _ _).trans h)
 ·cases h
def Z6e : FnH := ⟨[(7,⟨(bm 3670400 39),[],(some 0)⟩)],[]⟩
noncomputable def Zft : Hints := ⟨[(41,Z94),(47,Z95)],[],[]⟩
noncomputable def Zrr (m n0 : Nat) (Zq : List (D × D)) (Zv : Int) (Zz : Nat) (Zy : Option Nat) (Z11 : List D) (Z13 : Int) (Z1d : Int) : Option D :=
 Z1k (bm 3670400 39) 0 0 (codeK Tg Zft.sp ⟨0,[],false,[]⟩ (inlK Tg Zft m 4) m Z6e (subc [1,1,1,1,0,1,0,0] (bodyOf Tryz.f13))) n0 ⟨[Jk,Jk,Jk,Jk,Jk,Jk,Jk,(AV.d (D.mp Zq)),(AV.d (D.v (.int .i64 Zv))),Jk,Jk,Jk,Jk,Jk,Jk,Jk,Jk,Jk,Jk,(AV.d (D.list Zz Zy Z11)),(AV.d (D.v (.int .i64 Z13))),(AV.d (D.v (.int .i64 Z1d))),Jk,Jk,Jk,Jk,Jk,Jk,Jk,Jk,Jk,Jk,Jk,Jk,Jk,Jk,Jk,Jk,Jk],[]⟩
  (contK Tg Zft.sp ⟨0,[],false,[]⟩ (inlK Tg Zft m 4) m Z6e (endK Tg Tryz.f13 endV) [.block 0,.code (subc [1,1,1,1,1] (bodyOf Tryz.f13))])
theorem Z1k2 (m n0 : Nat) (Zq : List (D × D)) (Zv : Int) (Zz : Nat) (Zy : Option Nat) (Z11 : List D) (Z13 : Int) (Z1d : Int) : Zrr m (n0 + 1) Zq Zv Zz Zy Z11 Z13 Z1d =
 (cond (decide (Z1d < Z13))
 (if 0 ≤ Z1d ∧ Z1d < (Zz : Int) then
 if (((Int.toNat Z1d) * 17) + 17) ≤ (List.length Z11) then
 if (List.length ((List.drop ((Int.toNat Z1d) * 17) Z11).take 17)) = 17 then
 if (List.length ((List.drop ((Int.toNat Z1d) * 17) Z11).take 17)) = 17 then
 if keyOk Tg 86 (D.agg (putL 18 [(D.v (.int .i64 Zv)),(D.v (.int .u8 (0 : Int))),zU,zU,zU,zU,zU,zU,zU,zU,zU,zU,zU,zU,zU,zU,zU,zU] 1 17 ((List.drop ((Int.toNat Z1d) * 17) Z11).take 17))) = true then
 (lookM (keyEq Tg 86) (D.agg (putL 18 [(D.v (.int .i64 Zv)),(D.v (.int .u8 (0 : Int))),zU,zU,zU,zU,zU,zU,zU,zU,zU,zU,zU,zU,zU,zU,zU,zU] 1 17 ((List.drop ((Int.toNat Z1d) * 17) Z11).take 17))) zI Zq).bind fun p9 =>
 (rdI .i64 (some p9.1)).bind fun x10 =>
 cond (!p9.2)
 (some (D.tup [zI,(D.v (.int .i64 (19 : Int)))]))
 (Zrr m n0 Zq x10 Zz Zy Z11 Z13 (IntKind.wrap .i64 (Z1d + (1 : Int))))
 else none
 else none
 else none
 else none
 else none)
 (cond (decide (Zv < (0 : Int)))
 (some (D.tup [zI,(D.v (.int .i64 (19 : Int)))]))
 (some (D.tup [(D.v (.int .i64 Zv)),zI])))) := by kernel_rfl
noncomputable def Zzf (m : Nat) (a0_0n : Nat) (a0_0c : Option Nat) (a0_0 : List D) (a1n : Nat) (a1c : Option Nat) (a1 : List D) : Option D :=
 (Z94 [(D.agg [(D.list a0_0n a0_0c a0_0)])]).bind fun d1 =>
 (rdI .i64 (some d1)).bind fun x2 =>
 cond (x2 != (0 : Int))
 (some (D.tup [zI,(D.v (.int .i64 x2))]))
 ((Z95 [(D.agg [(D.list a0_0n a0_0c a0_0)])]).bind fun d3 =>
 (rdM (some d3)).bind fun g4 =>
 Zrr m m g4 (-1 : Int) a1n a1c a1 (a1n : Int) (0 : Int))
theorem Z1nb (m : Nat) (a0_0n : Nat) (a0_0c : Option Nat) (a0_0 : List D) (a1n : Nat) (a1c : Option Nat) (a1 : List D) : funD Tg Zft m 4 Z6e Tryz.f13 [(D.agg [(D.list a0_0n a0_0c a0_0)]),(D.list a1n a1c a1)] = Zzf m a0_0n a0_0c a0_0 a1n a1c a1 := by kernel_rfl
theorem Z1ta : Enters Tg 13 := ⟨Tryz.f13,Tryz.func13,by kernel_rfl,by kernel_rfl⟩
theorem Z1tb {ds : List D} {d : D} (h : funD Tg Zft M 4 Z6e Tryz.f13 ds = some d) : DataSem Tg 13 ds d := Z5 (H := Zft) (SpOk.cons Z1bj (SpOk.cons Z1bk SpOk.nil)) mixed InlOk.nil Tryz.func13 Z1ta h
noncomputable def Z1z : List D → Option D
 | [.agg [.list a0_0n a0_0c a0_0],.list a1n a1c a1] => Zzf M a0_0n a0_0c a0_0 a1n a1c a1
 | _ => none
theorem Z1fe : ∀ ds d,Z1z ds = some d → DataSem Tg 13 ds d := by
 intro ds d h
 unfold Z1z at h
 split at h
 ·exact Z1tb ((Z1nb M _ _ _ _ _ _).trans h)
 ·cases h
end Go.Ev