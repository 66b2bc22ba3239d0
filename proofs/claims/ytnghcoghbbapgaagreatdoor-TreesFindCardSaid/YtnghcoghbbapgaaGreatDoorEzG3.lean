/- Functions of the given program in plain form,printed: each with the proof that it is what the evaluator comes to,and that the program function returns what it says. No conditions. -/
import Derived.Test.YtnghcoghbbapgaaGreatDoorEzG7
set_option linter.unusedVariables false
set_option maxRecDepth 100000
namespace Go.Ev
open Go Go.Proofs
def Z2s : FnH := ⟨[(10,⟨(bm 234881024 37),[],(some 0)⟩)],[]⟩
noncomputable def Z7m : Hints := ⟨[(58,Z8d),(77,Z7j),(78,Z4l)],[],[]⟩
noncomputable def Zf5 (m n0 : Nat) (Zi : Nat) (Zt : Option Nat) (Z10 : List D) (Zq : Int) (Zu : Int) : Option D :=
 Z2a (bm 234881024 37) 0 0 (codeK Tg Z7m.sp ⟨0,[],false,[]⟩ (inlK Tg Z7m m 4) m Z2s (subc [1,1,1,1,0,1,0,0] (bodyOf Tryz.f51))) n0 ⟨[Jk,Jk,Jk,Jk,Jk,Jk,Jk,Jk,Jk,Jk,Jk,Jk,Jk,Jk,Jk,Jk,Jk,Jk,Jk,Jk,Jk,Jk,Jk,Jk,Jk,(AV.d (D.list Zi Zt Z10)),(AV.d (D.v (.int .i64 Zq))),(AV.d (D.v (.int .i64 Zu))),Jk,Jk,Jk,Jk,Jk,Jk,Jk,Jk,Jk],[]⟩
  (contK Tg Z7m.sp ⟨0,[],false,[]⟩ (inlK Tg Z7m m 4) m Z2s (endK Tg Tryz.f51 endV) [.block 0,.code (subc [1,1,1,1,1] (bodyOf Tryz.f51))])
theorem Z150 (m n0 : Nat) (Zi : Nat) (Zt : Option Nat) (Z10 : List D) (Zq : Int) (Zu : Int) : Zf5 m (n0 + 1) Zi Zt Z10 Zq Zu =
 (cond (decide (Zu < Zq))
 (if 0 ≤ Zu ∧ Zu < (Zi : Int) then
 if (((Int.toNat Zu) * 27) + 27) ≤ (List.length Z10) then
 if (List.length ((List.drop ((Int.toNat Zu) * 27) Z10).take 27)) = 27 then
 (Z4l [(D.agg ((List.drop ((Int.toNat Zu) * 27) Z10).take 27))]).bind fun d12 =>
 (rdI .i64 (some d12)).bind fun x13 =>
 cond (x13 != (0 : Int))
 (some (D.v (.int .i64 x13)))
 (Zf5 m n0 Zi Zt Z10 Zq (IntKind.wrap .i64 (Zu + (1 : Int))))
 else none
 else none
 else none)
 (some zI)) := by kernel_rfl
noncomputable def Zpd (m : Nat) (a0 : List D) : Option D :=
 if (List.length a0) = 20 then
 (Z7j [(D.agg ((List.drop 1 a0).take 17))]).bind fun d1 =>
 (rdI .i64 (some d1)).bind fun x2 =>
 cond (x2 != (0 : Int))
 (some (D.v (.int .i64 x2)))
 ((rdL a0[18]?).bind fun q3 =>
 (Z8d [(D.list q3.n q3.cap q3.cs)]).bind fun d4 =>
 (rdI .i64 (some d4)).bind fun x5 =>
 cond (x5 != (0 : Int))
 (some (D.v (.int .i64 x5)))
 ((rdL a0[19]?).bind fun q6 =>
 cond (decide ((q6.n : Int) > (8 : Int)))
 (some (D.v (.int .i64 (3 : Int))))
 ((rdL a0[19]?).bind fun q7 =>
 Zf5 m m q7.n q7.cap q7.cs (q7.n : Int) (0 : Int))))
 else none
theorem Z18i (m : Nat) (a0 : List D) : funD Tg Z7m m 4 Z2s Tryz.f51 [(D.agg a0)] = Zpd m a0 := by kernel_rfl
theorem Z1cz : Enters Tg 51 := ⟨Tryz.f51,Tryz.func51,by kernel_rfl,by kernel_rfl⟩
theorem Z1d0 {ds : List D} {d : D} (h : funD Tg Z7m M 4 Z2s Tryz.f51 ds = some d) : DataSem Tg 51 ds d := Z0 (H := Z7m) (SpOk.cons Z186 (SpOk.cons Z14n (SpOk.cons Z12t SpOk.nil))) mixed InlOk.nil Tryz.func51 Z1cz h
noncomputable def Zec : List D → Option D
 | [.agg a0] => Zpd M a0
 | _ => none
theorem Z1d1 : ∀ ds d,Zec ds = some d → DataSem Tg 51 ds d := by
 intro ds d h
 unfold Zec at h
 split at h
 ·exact Z1d0 ((Z18i M _).trans h)
 ·cases h
def Zb : FnH := ⟨[(5,⟨(bm 1835026 40),[],(some 2)⟩)],[]⟩
def Z7 : FnH := ⟨[],[(4,⟨(bm 135 90),[],(some 1)⟩),(8,⟨(bm 390 90),[],(some 2)⟩),(10,⟨(bm 134 90),[],(some 1)⟩),(12,⟨(bm 6 90),[],(some 0)⟩)]⟩
noncomputable def Z2 : Hints := ⟨[(51,Zec),(52,Z4m)],[(76,Tryz.f76,Z7)],[]⟩
noncomputable def Zck (m n0 : Nat) (Zi : Nat) (Zt : Nat) (Z10 : Option Nat) (Zq : List D) (Zu : Int) (Z1m : Int) (Z37 : Nat) (Z8j : Option Nat) (Z91 : List D) (Z1g7 : Nat) (Z133 : List D) : Option D :=
 Z2a (bm 1835026 40) 0 2 (codeK Tg Z2.sp ⟨0,[],false,[]⟩ (inlK Tg Z2 m 4) m Zb (subc [1,1,1,0,1,0,0] (bodyOf Tryz.f50))) n0 ⟨[Jk,(AV.ptr 0 0),Jk,Jk,(AV.sl 1 0 Zi (some Zi) 1),Jk,Jk,Jk,Jk,Jk,Jk,Jk,Jk,Jk,Jk,Jk,Jk,Jk,(AV.d (D.list Zt Z10 Zq)),(AV.d (D.v (.int .i64 Zu))),(AV.d (D.v (.int .i64 Z1m))),Jk,Jk,Jk,Jk,Jk,Jk,Jk,Jk,Jk,Jk,Jk,Jk,Jk,Jk,Jk,Jk,Jk,Jk,Jk],[(Blk.d 1 [(D.list Z37 Z8j Z91)]),(Blk.d Z1g7 Z133)]⟩
  (contK Tg Z2.sp ⟨0,[],false,[]⟩ (inlK Tg Z2 m 4) m Zb (endK Tg Tryz.f50 endV) [.block 0,.code (subc [1,1,1,1] (bodyOf Tryz.f50))])
noncomputable def Zx (m n0 : Nat) (Zi : Nat) (Z1m : Int) (Zt : Nat) (Z10 : Option Nat) (Zq : List D) (Zu : Int) (Z37 : Nat) (Z8j : Option Nat) (Z91 : List D) (Z3o : Nat) (Z7k : Option Nat) (Z71 : List D) (Z5e : Int) (Zik : Nat) (Zzq : Nat) (Zxi : Nat) (Z1co : Option Nat) (Z1dy : List D) (Z1k5 : Nat) (Z16i : List D) (Z1k8 : List D) (Z1fr : List D) : Option D :=
 cutK m (codeK Tg Z2.sp ⟨3,[],true,[]⟩ (inlK Tg Z2 m 3) m Z7 (subc [1,1,1] (bodyOf Tryz.f76)) ⟨[(AV.d (D.list Z3o Z7k Z71)),(AV.d (D.v (.int .i64 Z5e))),(AV.sl 1 0 Zik (some Zzq) 1),Jk,Jk,Jk,Jk,(AV.ptr 3 0),Jk,Jk,Jk,Jk,Jk,Jk,Jk,Jk,Jk,Jk,Jk,Jk,Jk,Jk,Jk,Jk,Jk,Jk,Jk,Jk,Jk,Jk,Jk,Jk,Jk,Jk,Jk,Jk,Jk,Jk,Jk,Jk,Jk,Jk,Jk,Jk,Jk,Jk,Jk,Jk,Jk,Jk,Jk,Jk,Jk,Jk,Jk,Jk,Jk,Jk,Jk,Jk,Jk,Jk,Jk,Jk,Jk,Jk,Jk,Jk,Jk,Jk,Jk,Jk,Jk,Jk,Jk,Jk,Jk,Jk,Jk,Jk,Jk,Jk,Jk,Jk,Jk,Jk,Jk,Jk,Jk,Jk],[(Blk.d 1 [(D.list Zxi Z1co Z1dy)]),(Blk.d Z1k5 Z16i),(Blk.d 20 Z1k8),(Blk.d 20 Z1fr)]⟩
  (contK Tg Z2.sp ⟨3,[],true,[]⟩ (inlK Tg Z2 m 3) m Z7 (endK Tg Tryz.f76 (fun v L => opsK Tg Z2.sp ⟨0,[],false,[]⟩ [] (inlK Tg Z2 m 4) (regOps (subc [1,1,1,0,1,0,0,1,1,0,0,1,0,0] (bodyOf Tryz.f50))) (List.drop 5 (Array.toList (regOps (subc [1,1,1,0,1,0,0,1,1,0,0,1,0,0] (bodyOf Tryz.f50))))) ⟨setSl [Jk,(AV.ptr 0 0),Jk,Jk,(AV.sl 1 0 Zi (some Zi) 1),(AV.d (D.v (.int .i64 Z1m))),(AV.ptr 2 0),Jk,Jk,Jk,Jk,Jk,Jk,Jk,Jk,Jk,Jk,Jk,(AV.d (D.list Zt Z10 Zq)),(AV.d (D.v (.int .i64 Zu))),(AV.d (D.v (.int .i64 Z1m))),(AV.d (D.v (.bool true))),(AV.d (D.v (.int .i64 Z1m))),(AV.lp Zq ((Int.toNat Z1m) * 20)),(AV.d (D.agg ((List.drop ((Int.toNat Z1m) * 20) Zq).take 20))),(AV.ptr 0 0),(AV.d (D.list Z37 Z8j Z91)),(AV.d (D.v (.int .i64 Z1m))),(AV.sl 1 0 Zi (some Zi) 1),Jk,Jk,Jk,Jk,Jk,Jk,Jk,Jk,Jk,Jk,Jk] (some 29) v,L⟩ (fun st => contK Tg Z2.sp ⟨0,[],false,[]⟩ (inlK Tg Z2 m 4) m Zb (endK Tg Tryz.f50 endV) [.code (subc [1,1,1,0,1,0,0,1,1,0,0,1,0,1] (bodyOf Tryz.f50)),.code (subc [1,1,1,0,1,0,0,1,1,0,0,1,1] (bodyOf Tryz.f50)),.block 1,.code (subc [1,1,1,0,1,0,0,1,1,1] (bodyOf Tryz.f50)),.loop (bm 1835026 40) 2 (subc [1,1,1,0,1,0,0] (bodyOf Tryz.f50)) n0,.block 0,.code (subc [1,1,1,1] (bodyOf Tryz.f50))] .normal st))) []))
noncomputable def Z3r (m n0 : Nat) (Zi : Nat) (Z1m : Int) (Zt : Nat) (Z10 : Option Nat) (Zq : List D) (Zu : Int) (Z37 : Nat) (Z8j : Option Nat) (Z91 : List D) (Zxf : Int) (Z12w : Nat) (Z14u : Nat) (Z14v : Nat) (Z1c0 : Option Nat) (Z13e : List D) (Z1g5 : Nat) (Z1im : List D) (Z1in : List D) (Z1hx : List D) (Z1lg : List D) : Option D :=
 cutK m (codeK Tg Z2.sp ⟨3,[],true,[]⟩ (inlK Tg Z2 m 3) m Z7 (subc [1,1,1,0,1,0,1,1] (bodyOf Tryz.f76)) ⟨[Jk,(AV.d (D.v (.int .i64 Zxf))),(AV.sl 1 0 Z12w (some Z14u) 1),Jk,Jk,Jk,Jk,(AV.ptr 3 0),(AV.ptr 4 0),Jk,Jk,Jk,Jk,Jk,Jk,Jk,Jk,Jk,Jk,Jk,Jk,Jk,Jk,Jk,Jk,Jk,Jk,Jk,Jk,Jk,Jk,Jk,Jk,Jk,Jk,Jk,Jk,Jk,Jk,Jk,Jk,Jk,Jk,Jk,Jk,Jk,Jk,Jk,Jk,Jk,Jk,Jk,Jk,Jk,Jk,Jk,Jk,Jk,Jk,Jk,Jk,Jk,Jk,Jk,Jk,Jk,Jk,Jk,Jk,Jk,Jk,Jk,Jk,Jk,Jk,Jk,Jk,Jk,Jk,Jk,Jk,Jk,Jk,Jk,Jk,Jk,Jk,Jk,Jk,Jk],[(Blk.d 1 [(D.list Z14v Z1c0 Z13e)]),(Blk.d Z1g5 Z1im),(Blk.d 20 Z1in),(Blk.d 20 Z1hx),(Blk.d 20 Z1lg)]⟩
  (contK Tg Z2.sp ⟨3,[],true,[]⟩ (inlK Tg Z2 m 3) m Z7 (endK Tg Tryz.f76 (fun v L => opsK Tg Z2.sp ⟨0,[],false,[]⟩ [] (inlK Tg Z2 m 4) (regOps (subc [1,1,1,0,1,0,0,1,1,0,0,1,0,0] (bodyOf Tryz.f50))) (List.drop 5 (Array.toList (regOps (subc [1,1,1,0,1,0,0,1,1,0,0,1,0,0] (bodyOf Tryz.f50))))) ⟨setSl [Jk,(AV.ptr 0 0),Jk,Jk,(AV.sl 1 0 Zi (some Zi) 1),(AV.d (D.v (.int .i64 Z1m))),(AV.ptr 2 0),Jk,Jk,Jk,Jk,Jk,Jk,Jk,Jk,Jk,Jk,Jk,(AV.d (D.list Zt Z10 Zq)),(AV.d (D.v (.int .i64 Zu))),(AV.d (D.v (.int .i64 Z1m))),(AV.d (D.v (.bool true))),(AV.d (D.v (.int .i64 Z1m))),(AV.lp Zq ((Int.toNat Z1m) * 20)),(AV.d (D.agg ((List.drop ((Int.toNat Z1m) * 20) Zq).take 20))),(AV.ptr 0 0),(AV.d (D.list Z37 Z8j Z91)),(AV.d (D.v (.int .i64 Z1m))),(AV.sl 1 0 Zi (some Zi) 1),Jk,Jk,Jk,Jk,Jk,Jk,Jk,Jk,Jk,Jk,Jk] (some 29) v,L⟩ (fun st => contK Tg Z2.sp ⟨0,[],false,[]⟩ (inlK Tg Z2 m 4) m Zb (endK Tg Tryz.f50 endV) [.code (subc [1,1,1,0,1,0,0,1,1,0,0,1,0,1] (bodyOf Tryz.f50)),.code (subc [1,1,1,0,1,0,0,1,1,0,0,1,1] (bodyOf Tryz.f50)),.block 1,.code (subc [1,1,1,0,1,0,0,1,1,1] (bodyOf Tryz.f50)),.loop (bm 1835026 40) 2 (subc [1,1,1,0,1,0,0] (bodyOf Tryz.f50)) n0,.block 0,.code (subc [1,1,1,1] (bodyOf Tryz.f50))] .normal st))) [.code (subc [1,1,1,1] (bodyOf Tryz.f76))]))
noncomputable def Z1b (m n0 : Nat) (Zi : Nat) (Z1m : Int) (Zt : Nat) (Z10 : Option Nat) (Zq : List D) (Zu : Int) (Z37 : Nat) (Z8j : Option Nat) (Z91 : List D) (Z17e : Int) (Z1c1 : Nat) (Z19f : Nat) (Z1av : Nat) (Z1dz : Option Nat) (Z1cp : List D) (Z1fc : Nat) (Z1hy : List D) (Z1io : List D) (Z1l1 : List D) : Option D :=
 cutK m (codeK Tg Z2.sp ⟨3,[],true,[]⟩ (inlK Tg Z2 m 3) m Z7 (subc [1,1,1,1] (bodyOf Tryz.f76)) ⟨[Jk,(AV.d (D.v (.int .i64 Z17e))),(AV.sl 1 0 Z1c1 (some Z19f) 1),Jk,Jk,Jk,Jk,(AV.ptr 3 0),Jk,Jk,Jk,Jk,Jk,Jk,Jk,Jk,Jk,Jk,Jk,Jk,Jk,Jk,Jk,Jk,Jk,Jk,Jk,Jk,Jk,Jk,Jk,Jk,Jk,Jk,Jk,Jk,Jk,Jk,Jk,Jk,Jk,Jk,Jk,Jk,Jk,Jk,Jk,Jk,Jk,Jk,Jk,Jk,Jk,Jk,Jk,Jk,Jk,Jk,Jk,Jk,Jk,Jk,Jk,Jk,Jk,Jk,Jk,Jk,Jk,Jk,Jk,Jk,Jk,Jk,Jk,Jk,Jk,Jk,Jk,Jk,Jk,Jk,Jk,Jk,Jk,Jk,Jk,Jk,Jk,Jk],[(Blk.d 1 [(D.list Z1av Z1dz Z1cp)]),(Blk.d Z1fc Z1hy),(Blk.d 20 Z1io),(Blk.d 20 Z1l1)]⟩
  (contK Tg Z2.sp ⟨3,[],true,[]⟩ (inlK Tg Z2 m 3) m Z7 (endK Tg Tryz.f76 (fun v L => opsK Tg Z2.sp ⟨0,[],false,[]⟩ [] (inlK Tg Z2 m 4) (regOps (subc [1,1,1,0,1,0,0,1,1,0,0,1,0,0] (bodyOf Tryz.f50))) (List.drop 5 (Array.toList (regOps (subc [1,1,1,0,1,0,0,1,1,0,0,1,0,0] (bodyOf Tryz.f50))))) ⟨setSl [Jk,(AV.ptr 0 0),Jk,Jk,(AV.sl 1 0 Zi (some Zi) 1),(AV.d (D.v (.int .i64 Z1m))),(AV.ptr 2 0),Jk,Jk,Jk,Jk,Jk,Jk,Jk,Jk,Jk,Jk,Jk,(AV.d (D.list Zt Z10 Zq)),(AV.d (D.v (.int .i64 Zu))),(AV.d (D.v (.int .i64 Z1m))),(AV.d (D.v (.bool true))),(AV.d (D.v (.int .i64 Z1m))),(AV.lp Zq ((Int.toNat Z1m) * 20)),(AV.d (D.agg ((List.drop ((Int.toNat Z1m) * 20) Zq).take 20))),(AV.ptr 0 0),(AV.d (D.list Z37 Z8j Z91)),(AV.d (D.v (.int .i64 Z1m))),(AV.sl 1 0 Zi (some Zi) 1),Jk,Jk,Jk,Jk,Jk,Jk,Jk,Jk,Jk,Jk,Jk] (some 29) v,L⟩ (fun st => contK Tg Z2.sp ⟨0,[],false,[]⟩ (inlK Tg Z2 m 4) m Zb (endK Tg Tryz.f50 endV) [.code (subc [1,1,1,0,1,0,0,1,1,0,0,1,0,1] (bodyOf Tryz.f50)),.code (subc [1,1,1,0,1,0,0,1,1,0,0,1,1] (bodyOf Tryz.f50)),.block 1,.code (subc [1,1,1,0,1,0,0,1,1,1] (bodyOf Tryz.f50)),.loop (bm 1835026 40) 2 (subc [1,1,1,0,1,0,0] (bodyOf Tryz.f50)) n0,.block 0,.code (subc [1,1,1,1] (bodyOf Tryz.f50))] .normal st))) []))
noncomputable def Z26 (m n0 : Nat) (Zi : Nat) (Z1m : Int) (Zt : Nat) (Z10 : Option Nat) (Zq : List D) (Zu : Int) (Z37 : Nat) (Z8j : Option Nat) (Z91 : List D) (Z1l2 : Int) (Z1m7 : Nat) (Z1n1 : Nat) (Z1m8 : Nat) (Z1m9 : Option Nat) (Z1ma : List D) (Z1mb : Nat) (Z1lu : List D) (Z1o9 : List D) : Option D :=
 cutK m (codeK Tg Z2.sp ⟨3,[],true,[]⟩ (inlK Tg Z2 m 3) m Z7 (subc [1,1,1,1,1] (bodyOf Tryz.f76)) ⟨[Jk,(AV.d (D.v (.int .i64 Z1l2))),(AV.sl 1 0 Z1m7 (some Z1n1) 1),Jk,Jk,Jk,Jk,Jk,Jk,Jk,Jk,Jk,Jk,Jk,Jk,Jk,Jk,Jk,Jk,Jk,Jk,Jk,Jk,Jk,Jk,Jk,Jk,Jk,Jk,Jk,Jk,Jk,Jk,Jk,Jk,Jk,Jk,Jk,Jk,Jk,Jk,Jk,Jk,Jk,Jk,Jk,Jk,Jk,Jk,Jk,Jk,Jk,Jk,Jk,Jk,Jk,Jk,Jk,Jk,Jk,Jk,Jk,Jk,Jk,Jk,Jk,Jk,Jk,Jk,Jk,Jk,Jk,Jk,Jk,Jk,Jk,Jk,Jk,Jk,Jk,Jk,Jk,Jk,Jk,Jk,Jk,Jk,Jk,Jk,Jk],[(Blk.d 1 [(D.list Z1m8 Z1m9 Z1ma)]),(Blk.d Z1mb Z1lu),(Blk.d 20 Z1o9)]⟩
  (contK Tg Z2.sp ⟨3,[],true,[]⟩ (inlK Tg Z2 m 3) m Z7 (endK Tg Tryz.f76 (fun v L => opsK Tg Z2.sp ⟨0,[],false,[]⟩ [] (inlK Tg Z2 m 4) (regOps (subc [1,1,1,0,1,0,0,1,1,0,0,1,0,0] (bodyOf Tryz.f50))) (List.drop 5 (Array.toList (regOps (subc [1,1,1,0,1,0,0,1,1,0,0,1,0,0] (bodyOf Tryz.f50))))) ⟨setSl [Jk,(AV.ptr 0 0),Jk,Jk,(AV.sl 1 0 Zi (some Zi) 1),(AV.d (D.v (.int .i64 Z1m))),(AV.ptr 2 0),Jk,Jk,Jk,Jk,Jk,Jk,Jk,Jk,Jk,Jk,Jk,(AV.d (D.list Zt Z10 Zq)),(AV.d (D.v (.int .i64 Zu))),(AV.d (D.v (.int .i64 Z1m))),(AV.d (D.v (.bool true))),(AV.d (D.v (.int .i64 Z1m))),(AV.lp Zq ((Int.toNat Z1m) * 20)),(AV.d (D.agg ((List.drop ((Int.toNat Z1m) * 20) Zq).take 20))),(AV.ptr 0 0),(AV.d (D.list Z37 Z8j Z91)),(AV.d (D.v (.int .i64 Z1m))),(AV.sl 1 0 Zi (some Zi) 1),Jk,Jk,Jk,Jk,Jk,Jk,Jk,Jk,Jk,Jk,Jk] (some 29) v,L⟩ (fun st => contK Tg Z2.sp ⟨0,[],false,[]⟩ (inlK Tg Z2 m 4) m Zb (endK Tg Tryz.f50 endV) [.code (subc [1,1,1,0,1,0,0,1,1,0,0,1,0,1] (bodyOf Tryz.f50)),.code (subc [1,1,1,0,1,0,0,1,1,0,0,1,1] (bodyOf Tryz.f50)),.block 1,.code (subc [1,1,1,0,1,0,0,1,1,1] (bodyOf Tryz.f50)),.loop (bm 1835026 40) 2 (subc [1,1,1,0,1,0,0] (bodyOf Tryz.f50)) n0,.block 0,.code (subc [1,1,1,1] (bodyOf Tryz.f50))] .normal st))) []))
theorem Zj0 (m n0 : Nat) (Zi : Nat) (Z1m : Int) (Zt : Nat) (Z10 : Option Nat) (Zq : List D) (Zu : Int) (Z37 : Nat) (Z8j : Option Nat) (Z91 : List D) (Z1l2 : Int) (Z1m7 : Nat) (Z1n1 : Nat) (Z1m8 : Nat) (Z1m9 : Option Nat) (Z1ma : List D) (Z1mb : Nat) (Z1lu : List D) (Z1o9 : List D) : Z26 m n0 Zi Z1m Zt Z10 Zq Zu Z37 Z8j Z91 Z1l2 Z1m7 Z1n1 Z1m8 Z1m9 Z1ma Z1mb Z1lu Z1o9 =
 (if 0 ≤ Z1l2 ∧ Z1l2 < (Z1m7 : Int) then
 (rdI .i64 Z1lu[(0 + ((Int.toNat Z1l2) * 1))]?).bind fun x71 =>
 cond (decide (x71 > (64 : Int)))
 (some (D.tup [(D.list 0 (some 0) []),(D.v (.int .i64 (12 : Int)))]))
 ((Zec [(D.agg Z1o9)]).bind fun d72 =>
 (rdI .i64 (some d72)).bind fun x73 =>
 cond (x73 != (0 : Int))
 (some (D.tup [(D.list 0 (some 0) []),(D.v (.int .i64 x73))]))
 (Zck m n0 Zi Zt Z10 Zq Zu (IntKind.wrap .i64 (Z1m + (1 : Int))) Z1m8 Z1m9 Z1ma Z1mb Z1lu))
 else none) := (Z30 m _).trans (by kernel_rfl)
theorem Zj1 (m n0 : Nat) (Zi : Nat) (Z1m : Int) (Zt : Nat) (Z10 : Option Nat) (Zq : List D) (Zu : Int) (Z37 : Nat) (Z8j : Option Nat) (Z91 : List D) (Z17e : Int) (Z1c1 : Nat) (Z19f : Nat) (Z1av : Nat) (Z1dz : Option Nat) (Z1cp : List D) (Z1fc : Nat) (Z1hy : List D) (Z1io : List D) (Z1l1 : List D) : Z1b m n0 Zi Z1m Zt Z10 Zq Zu Z37 Z8j Z91 Z17e Z1c1 Z19f Z1av Z1dz Z1cp Z1fc Z1hy Z1io Z1l1 =
 (cond (decide (Z17e > (0 : Int)))
 ((rdI .i64 Z1l1[0]?).bind fun x69 =>
 if 0 ≤ x69 ∧ x69 < (Z1c1 : Int) then
 (rdI .i64 Z1hy[(0 + ((Int.toNat x69) * 1))]?).bind fun x70 =>
 if 0 ≤ Z17e ∧ Z17e < (Z1c1 : Int) then
 if 1 = 1 ∧ (0 + ((Int.toNat Z17e) * 1)) < Z1fc then
 Z26 m n0 Zi Z1m Zt Z10 Zq Zu Z37 Z8j Z91 Z17e Z1c1 Z19f Z1av Z1dz Z1cp Z1fc (List.set Z1hy (0 + ((Int.toNat Z17e) * 1)) (D.v (.int .i64 (IntKind.wrap .i64 (x70 + (1 : Int)))))) Z1io
 else none
 else none
 else none)
 (Z26 m n0 Zi Z1m Zt Z10 Zq Zu Z37 Z8j Z91 Z17e Z1c1 Z19f Z1av Z1dz Z1cp Z1fc Z1hy Z1io)) := (Z30 m _).trans (by kernel_rfl)
theorem Z5n (m n0 : Nat) (Zi : Nat) (Z1m : Int) (Zt : Nat) (Z10 : Option Nat) (Zq : List D) (Zu : Int) (Z37 : Nat) (Z8j : Option Nat) (Z91 : List D) (Zxf : Int) (Z12w : Nat) (Z14u : Nat) (Z14v : Nat) (Z1c0 : Option Nat) (Z13e : List D) (Z1g5 : Nat) (Z1im : List D) (Z1in : List D) (Z1hx : List D) (Z1lg : List D) : Z3r m n0 Zi Z1m Zt Z10 Zq Zu Z37 Z8j Z91 Zxf Z12w Z14u Z14v Z1c0 Z13e Z1g5 Z1im Z1in Z1hx Z1lg =
 ((rdI .i64 Z1lg[0]?).bind fun x66 =>
 (rdI .i64 Z1hx[0]?).bind fun x67 =>
 cond (x66 == x67)
 ((cellsEq [.int,.int,.int,.int,.int,.int,.int,.int,.int,.int,.int,.int,.int,.int,.int,.int,.int] ((List.drop 1 Z1lg).take 17) ((List.drop 1 Z1hx).take 17)).bind fun b68 =>
 cond b68
 (some (D.tup [(D.list 0 (some 0) []),(D.v (.int .i64 (14 : Int)))]))
 (Z1b m n0 Zi Z1m Zt Z10 Zq Zu Z37 Z8j Z91 Zxf Z12w Z14u Z14v Z1c0 Z13e Z1g5 Z1im Z1in Z1hx))
 (Z1b m n0 Zi Z1m Zt Z10 Zq Zu Z37 Z8j Z91 Zxf Z12w Z14u Z14v Z1c0 Z13e Z1g5 Z1im Z1in Z1hx)) := (Z30 m _).trans (by kernel_rfl)
theorem Zk3 (m n0 : Nat) (Zi : Nat) (Z1m : Int) (Zt : Nat) (Z10 : Option Nat) (Zq : List D) (Zu : Int) (Z37 : Nat) (Z8j : Option Nat) (Z91 : List D) (Z3o : Nat) (Z7k : Option Nat) (Z71 : List D) (Z5e : Int) (Zik : Nat) (Zzq : Nat) (Zxi : Nat) (Z1co : Option Nat) (Z1dy : List D) (Z1k5 : Nat) (Z16i : List D) (Z1k8 : List D) (Z1fr : List D) : Zx m n0 Zi Z1m Zt Z10 Zq Zu Z37 Z8j Z91 Z3o Z7k Z71 Z5e Zik Zzq Zxi Z1co Z1dy Z1k5 Z16i Z1k8 Z1fr =
 (cond (decide (Z5e > (1 : Int)))
 (if 0 ≤ (IntKind.wrap .i64 (Z5e - (1 : Int))) ∧ (IntKind.wrap .i64 (Z5e - (1 : Int))) < (Z3o : Int) then
 if (((Int.toNat (IntKind.wrap .i64 (Z5e - (1 : Int)))) * 20) + 20) ≤ (List.length Z71) then
 if (List.length ((List.drop ((Int.toNat (IntKind.wrap .i64 (Z5e - (1 : Int)))) * 20) Z71).take 20)) = 20 then
 (rdI .i64 ((List.drop ((Int.toNat (IntKind.wrap .i64 (Z5e - (1 : Int)))) * 20) Z71).take 20)[0]?).bind fun x60 =>
 (rdI .i64 Z1fr[0]?).bind fun x61 =>
 cond (decide (x60 > x61))
 (some (D.tup [(D.list 0 (some 0) []),(D.v (.int .i64 (13 : Int)))]))
 ((rdI .i64 ((List.drop ((Int.toNat (IntKind.wrap .i64 (Z5e - (1 : Int)))) * 20) Z71).take 20)[0]?).bind fun x62 =>
 (rdI .i64 Z1fr[0]?).bind fun x63 =>
 cond (x62 == x63)
 ((Z4m [(D.agg ((List.drop 1 ((List.drop ((Int.toNat (IntKind.wrap .i64 (Z5e - (1 : Int)))) * 20) Z71).take 20)).take 17)),(D.agg ((List.drop 1 Z1fr).take 17))]).bind fun d64 =>
 (rdI .i64 (some d64)).bind fun x65 =>
 cond (decide (x65 > (0 : Int)))
 (some (D.tup [(D.list 0 (some 0) []),(D.v (.int .i64 (13 : Int)))]))
 (Z3r m n0 Zi Z1m Zt Z10 Zq Zu Z37 Z8j Z91 Z5e Zik Zzq Zxi Z1co Z1dy Z1k5 Z16i Z1k8 Z1fr ((List.drop ((Int.toNat (IntKind.wrap .i64 (Z5e - (1 : Int)))) * 20) Z71).take 20)))
 (Z3r m n0 Zi Z1m Zt Z10 Zq Zu Z37 Z8j Z91 Z5e Zik Zzq Zxi Z1co Z1dy Z1k5 Z16i Z1k8 Z1fr ((List.drop ((Int.toNat (IntKind.wrap .i64 (Z5e - (1 : Int)))) * 20) Z71).take 20)))
 else none
 else none
 else none)
 (Z1b m n0 Zi Z1m Zt Z10 Zq Zu Z37 Z8j Z91 Z5e Zik Zzq Zxi Z1co Z1dy Z1k5 Z16i Z1k8 Z1fr)) := (Z30 m _).trans (by kernel_rfl)
theorem Z134 (m n0 : Nat) (Zi : Nat) (Zt : Nat) (Z10 : Option Nat) (Zq : List D) (Zu : Int) (Z1m : Int) (Z37 : Nat) (Z8j : Option Nat) (Z91 : List D) (Z1g7 : Nat) (Z133 : List D) : Zck m (n0 + 1) Zi Zt Z10 Zq Zu Z1m Z37 Z8j Z91 Z1g7 Z133 =
 (cond (decide (Z1m < Zu))
 (if 0 ≤ Z1m ∧ Z1m < (Zt : Int) then
 if (((Int.toNat Z1m) * 20) + 20) ≤ (List.length Zq) then
 if (List.length ((List.drop ((Int.toNat Z1m) * 20) Zq).take 20)) = 20 then
 if 0 ≤ Z1m ∧ Z1m < (Z37 : Int) then
 if (((Int.toNat Z1m) * 20) + 20) ≤ (List.length Z91) then
 if (List.length ((List.drop ((Int.toNat Z1m) * 20) Z91).take 20)) = 20 then
 cond (Z1m == (0 : Int))
 ((rdI .i64 ((List.drop ((Int.toNat Z1m) * 20) Z91).take 20)[0]?).bind fun x57 =>
 cond (x57 != (-1 : Int))
 (some (D.tup [(D.list 0 (some 0) []),(D.v (.int .i64 (1 : Int)))]))
 (cond (decide (Z1m > (0 : Int)))
 ((rdI .i64 ((List.drop ((Int.toNat Z1m) * 20) Z91).take 20)[0]?).bind fun x58 =>
 cond (decide (x58 < (0 : Int)))
 (some (D.tup [(D.list 0 (some 0) []),(D.v (.int .i64 (1 : Int)))]))
 ((rdI .i64 ((List.drop ((Int.toNat Z1m) * 20) Z91).take 20)[0]?).bind fun x59 =>
 cond (decide (x59 ≥ Z1m))
 (some (D.tup [(D.list 0 (some 0) []),(D.v (.int .i64 (1 : Int)))]))
 (Zx m n0 Zi Z1m Zt Z10 Zq Zu Z37 Z8j Z91 Z37 Z8j Z91 Z1m Zi Zi Z37 Z8j Z91 Z1g7 Z133 ((List.drop ((Int.toNat Z1m) * 20) Zq).take 20) ((List.drop ((Int.toNat Z1m) * 20) Z91).take 20))))
 (Zx m n0 Zi Z1m Zt Z10 Zq Zu Z37 Z8j Z91 Z37 Z8j Z91 Z1m Zi Zi Z37 Z8j Z91 Z1g7 Z133 ((List.drop ((Int.toNat Z1m) * 20) Zq).take 20) ((List.drop ((Int.toNat Z1m) * 20) Z91).take 20))))
 (cond (decide (Z1m > (0 : Int)))
 ((rdI .i64 ((List.drop ((Int.toNat Z1m) * 20) Z91).take 20)[0]?).bind fun x74 =>
 cond (decide (x74 < (0 : Int)))
 (some (D.tup [(D.list 0 (some 0) []),(D.v (.int .i64 (1 : Int)))]))
 ((rdI .i64 ((List.drop ((Int.toNat Z1m) * 20) Z91).take 20)[0]?).bind fun x75 =>
 cond (decide (x75 ≥ Z1m))
 (some (D.tup [(D.list 0 (some 0) []),(D.v (.int .i64 (1 : Int)))]))
 (Zx m n0 Zi Z1m Zt Z10 Zq Zu Z37 Z8j Z91 Z37 Z8j Z91 Z1m Zi Zi Z37 Z8j Z91 Z1g7 Z133 ((List.drop ((Int.toNat Z1m) * 20) Zq).take 20) ((List.drop ((Int.toNat Z1m) * 20) Z91).take 20))))
 (Zx m n0 Zi Z1m Zt Z10 Zq Zu Z37 Z8j Z91 Z37 Z8j Z91 Z1m Zi Zi Z37 Z8j Z91 Z1g7 Z133 ((List.drop ((Int.toNat Z1m) * 20) Zq).take 20) ((List.drop ((Int.toNat Z1m) * 20) Z91).take 20)))
 else none
 else none
 else none
 else none
 else none
 else none)
 (if (0 + (Zi * 1)) ≤ Z1g7 then
 some (D.tup [(D.list Zi (some Zi) (cutL Z1g7 Z133 0 (Zi * 1))),zI])
 else none)) := by kernel_rfl
noncomputable def Zj2 (m : Nat) (a0_0n : Nat) (a0_0c : Option Nat) (a0_0 : List D) : Option D :=
 cond (decide ((a0_0n : Int) > (65536 : Int)))
 (some (D.tup [(D.list 0 (some 0) []),(D.v (.int .i64 (3 : Int)))]))
 (if 0 ≤ (a0_0n : Int) ∧ (a0_0n : Int) ≤ (a0_0n : Int) ∧ Z6a (Int.toNat (a0_0n : Int)) 8 then
 Zck m m (Int.toNat (a0_0n : Int)) a0_0n a0_0c a0_0 (a0_0n : Int) (0 : Int) a0_0n a0_0c a0_0 ((Int.toNat (a0_0n : Int)) * 1) (List.flatten (List.replicate (Int.toNat (a0_0n : Int)) [zI]))
 else none)
theorem Z151 (m : Nat) (a0_0n : Nat) (a0_0c : Option Nat) (a0_0 : List D) : funD Tg Z2 m 4 Zb Tryz.f50 [(D.agg [(D.list a0_0n a0_0c a0_0)])] = Zj2 m a0_0n a0_0c a0_0 := by kernel_rfl
theorem Z18j : Enters Tg 50 := ⟨Tryz.f50,Tryz.func50,by kernel_rfl,by kernel_rfl⟩
theorem Z18k {ds : List D} {d : D} (h : funD Tg Z2 M 4 Zb Tryz.f50 ds = some d) : DataSem Tg 50 ds d := Z0 (H := Z2) (SpOk.cons Z1d1 (SpOk.cons Zzo SpOk.nil)) mixed (InlOk.cons Tryz.func76 Z1c3 InlOk.nil) Tryz.func50 Z18j h
noncomputable def Z8f : List D → Option D
 | [.agg [.list a0_0n a0_0c a0_0]] => Zj2 M a0_0n a0_0c a0_0
 | _ => none
theorem Z18l : ∀ ds d,Z8f ds = some d → DataSem Tg 50 ds d := by
 intro ds d h
 unfold Z8f at h
 split at h
 ·exact Z18k ((Z151 M _ _ _).trans h)
 ·cases h
def Zbl : FnH := ⟨[],[]⟩
noncomputable def Zwg : Hints := ⟨[(50,Z8f)],[],[]⟩
noncomputable def Zpe (m : Nat) (a0_0n : Nat) (a0_0c : Option Nat) (a0_0 : List D) : Option D :=
 (Z8f [(D.agg [(D.list a0_0n a0_0c a0_0)])]).bind fun d1 =>
 (rdT d1).bind fun r2 =>
 if List.length r2 = 2 then
 (rdL r2[0]?).bind fun q3 =>
 (rdI .i64 r2[1]?).bind fun x4 =>
 some (D.v (.int .i64 x4))
 else none
theorem Z18m (m : Nat) (a0_0n : Nat) (a0_0c : Option Nat) (a0_0 : List D) : funD Tg Zwg m 4 Zbl Tryz.f41 [(D.agg [(D.list a0_0n a0_0c a0_0)])] = Zpe m a0_0n a0_0c a0_0 := by kernel_rfl
theorem Z1d2 : Enters Tg 41 := ⟨Tryz.f41,Tryz.func41,by kernel_rfl,by kernel_rfl⟩
theorem Z1d3 {ds : List D} {d : D} (h : funD Tg Zwg M 4 Zbl Tryz.f41 ds = some d) : DataSem Tg 41 ds d := Z0 (H := Zwg) (SpOk.cons Z18l SpOk.nil) mixed InlOk.nil Tryz.func41 Z1d2 h
noncomputable def Zed : List D → Option D
 | [.agg [.list a0_0n a0_0c a0_0]] => Zpe M a0_0n a0_0c a0_0
 | _ => none
theorem Z1d4 : ∀ ds d,Zed ds = some d → DataSem Tg 41 ds d := by
 intro ds d h
 unfold Zed at h
 split at h
 ·exact Z1d3 ((Z18m M _ _ _).trans h)
 ·cases h
end Go.Ev