/- Functions of the given program in plain form,printed: each with the proof that it is what the evaluator comes to,and that the program function returns what it says. No conditions. -/
import Derived.Test.YtnghcoghbbapgaaGreatDoorEzGa
set_option linter.unusedVariables false
set_option maxRecDepth 100000
namespace Go.Ev
open Go Go.Proofs
def Z5m : FnH := ⟨[(3,⟨(bm 1800 24),[],(some 2)⟩)],[]⟩
noncomputable def Zbi : Hints := ⟨[],[],[]⟩
noncomputable def Zoj (m n0 : Nat) (Zq : Nat) (Zv : Option Nat) (Zz : List D) (Zy : Int) (Z11 : Int) (Z13 : List (D × D)) : Option D :=
 Z1k (bm 1800 24) 0 2 (codeK Tg Zbi.sp ⟨0,[],false,[]⟩ (inlK Tg Zbi m 4) m Z5m (subc [1,1,0,1,0,0] (bodyOf Tryz.f47))) n0 ⟨[Jk,Jk,Jk,(AV.mp 1),Jk,Jk,Jk,Jk,(AV.d (D.list Zq Zv Zz)),(AV.d (D.v (.int .i64 Zy))),(AV.d (D.v (.int .i64 Z11))),Jk,Jk,Jk,Jk,Jk,Jk,Jk,Jk,Jk,Jk,Jk,Jk,Jk],[(Blk.d 1 [(D.list Zq Zv Zz)]),(Blk.map Z13)]⟩
  (contK Tg Zbi.sp ⟨0,[],false,[]⟩ (inlK Tg Zbi m 4) m Z5m (endK Tg Tryz.f47 endV) [.block 0,.code (subc [1,1,1] (bodyOf Tryz.f47))])
theorem Z1hg (m n0 : Nat) (Zq : Nat) (Zv : Option Nat) (Zz : List D) (Zy : Int) (Z11 : Int) (Z13 : List (D × D)) : Zoj m (n0 + 1) Zq Zv Zz Zy Z11 Z13 =
 (cond (decide (Z11 < Zy))
 (if 0 ≤ Z11 ∧ Z11 < (Zq : Int) then
 if (((Int.toNat Z11) * 20) + 20) ≤ (List.length Zz) then
 if (List.length ((List.drop ((Int.toNat Z11) * 20) Zz).take 20)) = 20 then
 (rdI .i64 ((List.drop ((Int.toNat Z11) * 20) Zz).take 20)[0]?).bind fun x5 =>
 if (List.length ((List.drop 1 ((List.drop ((Int.toNat Z11) * 20) Zz).take 20)).take 17)) = 17 then
 if keyOk Tg 86 (D.agg (putL 18 [(D.v (.int .i64 x5)),(D.v (.int .u8 (0 : Int))),zU,zU,zU,zU,zU,zU,zU,zU,zU,zU,zU,zU,zU,zU,zU,zU] 1 17 ((List.drop 1 ((List.drop ((Int.toNat Z11) * 20) Zz).take 20)).take 17))) = true then
 (putM (keyEq Tg 86) (D.agg (putL 18 [(D.v (.int .i64 x5)),(D.v (.int .u8 (0 : Int))),zU,zU,zU,zU,zU,zU,zU,zU,zU,zU,zU,zU,zU,zU,zU,zU] 1 17 ((List.drop 1 ((List.drop ((Int.toNat Z11) * 20) Zz).take 20)).take 17))) (D.v (.int .i64 Z11)) Z13).bind fun g6 =>
 Zoj m n0 Zq Zv Zz Zy (IntKind.wrap .i64 (Z11 + (1 : Int))) g6
 else none
 else none
 else none
 else none
 else none)
 (some (D.mp Z13))) := by kernel_rfl
noncomputable def Zvn (m : Nat) (a0_0n : Nat) (a0_0c : Option Nat) (a0_0 : List D) : Option D :=
 Zoj m m a0_0n a0_0c a0_0 (a0_0n : Int) (0 : Int) ([])
theorem Z1k1 (m : Nat) (a0_0n : Nat) (a0_0c : Option Nat) (a0_0 : List D) : funD Tg Zbi m 4 Z5m Tryz.f47 [(D.agg [(D.list a0_0n a0_0c a0_0)])] = Zvn m a0_0n a0_0c a0_0 := by kernel_rfl
theorem Z1pl : Enters Tg 47 := ⟨Tryz.f47,Tryz.func47,by kernel_rfl,by kernel_rfl⟩
theorem Z1pm {ds : List D} {d : D} (h : funD Tg Zbi M 4 Z5m Tryz.f47 ds = some d) : DataSem Tg 47 ds d := Z5 (H := Zbi) SpOk.nil mixed InlOk.nil Tryz.func47 Z1pl h
noncomputable def Z95 : List D → Option D
 | [.agg [.list a0_0n a0_0c a0_0]] => Zvn M a0_0n a0_0c a0_0
 | _ => none
theorem Z1bk : ∀ ds d,Z95 ds = some d → DataSem Tg 47 ds d := by
 intro ds d h
 unfold Z95 at h
 split at h
 ·exact Z1pm ((Z1k1 M _ _ _).trans h)
 ·cases h
end Go.Ev