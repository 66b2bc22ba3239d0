/- Functions of the given program in plain form,printed: each with the proof that it is what the evaluator comes to,and that the program function returns what it says. No conditions. -/
import Derived.Test.YtnghcoghbbapgaaGreatDoorEzGa
set_option linter.unusedVariables false
set_option maxRecDepth 100000
namespace Go.Ev
open Go Go.Proofs
def Z2t : FnH := ⟨[(3,⟨(bm 1800 24),[],(some 2)⟩)],[]⟩
noncomputable def Z7n : Hints := ⟨[],[],[]⟩
noncomputable def Zj9 (m n0 : Nat) (Zi : Nat) (Zt : Option Nat) (Z10 : List D) (Zq : Int) (Zu : Int) (Z1m : List (D × D)) : Option D :=
 Z2a (bm 1800 24) 0 2 (codeK Tg Z7n.sp ⟨0,[],false,[]⟩ (inlK Tg Z7n m 4) m Z2t (subc [1,1,0,1,0,0] (bodyOf Tryz.f47))) n0 ⟨[Jk,Jk,Jk,(AV.mp 1),Jk,Jk,Jk,Jk,(AV.d (D.list Zi Zt Z10)),(AV.d (D.v (.int .i64 Zq))),(AV.d (D.v (.int .i64 Zu))),Jk,Jk,Jk,Jk,Jk,Jk,Jk,Jk,Jk,Jk,Jk,Jk,Jk],[(Blk.d 1 [(D.list Zi Zt Z10)]),(Blk.map Z1m)]⟩
  (contK Tg Z7n.sp ⟨0,[],false,[]⟩ (inlK Tg Z7n m 4) m Z2t (endK Tg Tryz.f47 endV) [.block 0,.code (subc [1,1,1] (bodyOf Tryz.f47))])
theorem Z16q (m n0 : Nat) (Zi : Nat) (Zt : Option Nat) (Z10 : List D) (Zq : Int) (Zu : Int) (Z1m : List (D × D)) : Zj9 m (n0 + 1) Zi Zt Z10 Zq Zu Z1m =
 (cond (decide (Zu < Zq))
 (if 0 ≤ Zu ∧ Zu < (Zi : Int) then
 if (((Int.toNat Zu) * 20) + 20) ≤ (List.length Z10) then
 if (List.length ((List.drop ((Int.toNat Zu) * 20) Z10).take 20)) = 20 then
 (rdI .i64 ((List.drop ((Int.toNat Zu) * 20) Z10).take 20)[0]?).bind fun x5 =>
 if (List.length ((List.drop 1 ((List.drop ((Int.toNat Zu) * 20) Z10).take 20)).take 17)) = 17 then
 if keyOk Tg 86 (D.agg (putL 18 [(D.v (.int .i64 x5)),(D.v (.int .u8 (0 : Int))),zU,zU,zU,zU,zU,zU,zU,zU,zU,zU,zU,zU,zU,zU,zU,zU] 1 17 ((List.drop 1 ((List.drop ((Int.toNat Zu) * 20) Z10).take 20)).take 17))) = true then
 (putM (keyEq Tg 86) (D.agg (putL 18 [(D.v (.int .i64 x5)),(D.v (.int .u8 (0 : Int))),zU,zU,zU,zU,zU,zU,zU,zU,zU,zU,zU,zU,zU,zU,zU,zU] 1 17 ((List.drop 1 ((List.drop ((Int.toNat Zu) * 20) Z10).take 20)).take 17))) (D.v (.int .i64 Zu)) Z1m).bind fun g6 =>
 Zj9 m n0 Zi Zt Z10 Zq (IntKind.wrap .i64 (Zu + (1 : Int))) g6
 else none
 else none
 else none
 else none
 else none)
 (some (D.mp Z1m))) := by kernel_rfl
noncomputable def Zpf (m : Nat) (a0_0n : Nat) (a0_0c : Option Nat) (a0_0 : List D) : Option D :=
 Zj9 m m a0_0n a0_0c a0_0 (a0_0n : Int) (0 : Int) ([])
theorem Z18r (m : Nat) (a0_0n : Nat) (a0_0c : Option Nat) (a0_0 : List D) : funD Tg Z7n m 4 Z2t Tryz.f47 [(D.agg [(D.list a0_0n a0_0c a0_0)])] = Zpf m a0_0n a0_0c a0_0 := by kernel_rfl
theorem Z1d5 : Enters Tg 47 := ⟨Tryz.f47,Tryz.func47,by kernel_rfl,by kernel_rfl⟩
theorem Z1d6 {ds : List D} {d : D} (h : funD Tg Z7n M 4 Z2t Tryz.f47 ds = some d) : DataSem Tg 47 ds d := Z0 (H := Z7n) SpOk.nil mixed InlOk.nil Tryz.func47 Z1d5 h
noncomputable def Zee : List D → Option D
 | [.agg [.list a0_0n a0_0c a0_0]] => Zpf M a0_0n a0_0c a0_0
 | _ => none
theorem Z1d7 : ∀ ds d,Zee ds = some d → DataSem Tg 47 ds d := by
 intro ds d h
 unfold Zee at h
 split at h
 ·exact Z1d6 ((Z18r M _ _ _).trans h)
 ·cases h
def Z3g : FnH := ⟨[(7,⟨(bm 3670400 39),[],(some 0)⟩)],[]⟩
noncomputable def Zbn : Hints := ⟨[(41,Zed),(47,Zee)],[],[]⟩
noncomputable def Zlx (m n0 : Nat) (Zi : List (D × D)) (Zt : Int) (Z10 : Nat) (Zq : Option Nat) (Zu : List D) (Z1m : Int) (Z37 : Int) : Option D :=
 Z2a (bm 3670400 39) 0 0 (codeK Tg Zbn.sp ⟨0,[],false,[]⟩ (inlK Tg Zbn m 4) m Z3g (subc [1,1,1,1,0,1,0,0] (bodyOf Tryz.f13))) n0 ⟨[Jk,Jk,Jk,Jk,Jk,Jk,Jk,(AV.d (D.mp Zi)),(AV.d (D.v (.int .i64 Zt))),Jk,Jk,Jk,Jk,Jk,Jk,Jk,Jk,Jk,Jk,(AV.d (D.list Z10 Zq Zu)),(AV.d (D.v (.int .i64 Z1m))),(AV.d (D.v (.int .i64 Z37))),Jk,Jk,Jk,Jk,Jk,Jk,Jk,Jk,Jk,Jk,Jk,Jk,Jk,Jk,Jk,Jk,Jk],[]⟩
  (contK Tg Zbn.sp ⟨0,[],false,[]⟩ (inlK Tg Zbn m 4) m Z3g (endK Tg Tryz.f13 endV) [.block 0,.code (subc [1,1,1,1,1] (bodyOf Tryz.f13))])
theorem Z18s (m n0 : Nat) (Zi : List (D × D)) (Zt : Int) (Z10 : Nat) (Zq : Option Nat) (Zu : List D) (Z1m : Int) (Z37 : Int) : Zlx m (n0 + 1) Zi Zt Z10 Zq Zu Z1m Z37 =
 (cond (decide (Z37 < Z1m))
 (if 0 ≤ Z37 ∧ Z37 < (Z10 : Int) then
 if (((Int.toNat Z37) * 17) + 17) ≤ (List.length Zu) then
 if (List.length ((List.drop ((Int.toNat Z37) * 17) Zu).take 17)) = 17 then
 if (List.length ((List.drop ((Int.toNat Z37) * 17) Zu).take 17)) = 17 then
 if keyOk Tg 86 (D.agg (putL 18 [(D.v (.int .i64 Zt)),(D.v (.int .u8 (0 : Int))),zU,zU,zU,zU,zU,zU,zU,zU,zU,zU,zU,zU,zU,zU,zU,zU] 1 17 ((List.drop ((Int.toNat Z37) * 17) Zu).take 17))) = true then
 (lookM (keyEq Tg 86) (D.agg (putL 18 [(D.v (.int .i64 Zt)),(D.v (.int .u8 (0 : Int))),zU,zU,zU,zU,zU,zU,zU,zU,zU,zU,zU,zU,zU,zU,zU,zU] 1 17 ((List.drop ((Int.toNat Z37) * 17) Zu).take 17))) zI Zi).bind fun p9 =>
 (rdI .i64 (some p9.1)).bind fun x10 =>
 cond (!p9.2)
 (some (D.tup [zI,(D.v (.int .i64 (19 : Int)))]))
 (Zlx m n0 Zi x10 Z10 Zq Zu Z1m (IntKind.wrap .i64 (Z37 + (1 : Int))))
 else none
 else none
 else none
 else none
 else none)
 (cond (decide (Zt < (0 : Int)))
 (some (D.tup [zI,(D.v (.int .i64 (19 : Int)))]))
 (some (D.tup [(D.v (.int .i64 Zt)),zI])))) := by kernel_rfl
noncomputable def Zsq (m : Nat) (a0_0n : Nat) (a0_0c : Option Nat) (a0_0 : List D) (a1n : Nat) (a1c : Option Nat) (a1 : List D) : Option D :=
 (Zed [(D.agg [(D.list a0_0n a0_0c a0_0)])]).bind fun d1 =>
 (rdI .i64 (some d1)).bind fun x2 =>
 cond (x2 != (0 : Int))
 (some (D.tup [zI,(D.v (.int .i64 x2))]))
 ((Zee [(D.agg [(D.list a0_0n a0_0c a0_0)])]).bind fun d3 =>
 (rdM (some d3)).bind fun g4 =>
 Zlx m m g4 (-1 : Int) a1n a1c a1 (a1n : Int) (0 : Int))
theorem Z1bb (m : Nat) (a0_0n : Nat) (a0_0c : Option Nat) (a0_0 : List D) (a1n : Nat) (a1c : Option Nat) (a1 : List D) : funD Tg Zbn m 4 Z3g Tryz.f13 [(D.agg [(D.list a0_0n a0_0c a0_0)]),(D.list a1n a1c a1)] = Zsq m a0_0n a0_0c a0_0 a1n a1c a1 := by kernel_rfl
theorem Z1fz : Enters Tg 13 := ⟨Tryz.f13,Tryz.func13,by kernel_rfl,by kernel_rfl⟩
theorem Z1g0 {ds : List D} {d : D} (h : funD Tg Zbn M 4 Z3g Tryz.f13 ds = some d) : DataSem Tg 13 ds d := Z0 (H := Zbn) (SpOk.cons Z1d4 (SpOk.cons Z1d7 SpOk.nil)) mixed InlOk.nil Tryz.func13 Z1fz h
noncomputable def Z47 : List D → Option D
 | [.agg [.list a0_0n a0_0c a0_0],.list a1n a1c a1] => Zsq M a0_0n a0_0c a0_0 a1n a1c a1
 | _ => none
theorem Z1g1 : ∀ ds d,Z47 ds = some d → DataSem Tg 13 ds d := by
 intro ds d h
 unfold Z47 at h
 split at h
 ·exact Z1g0 ((Z1bb M _ _ _ _ _ _).trans h)
 ·cases h
end Go.Ev