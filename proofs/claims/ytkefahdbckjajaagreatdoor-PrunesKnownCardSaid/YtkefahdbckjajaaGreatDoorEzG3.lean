/- Functions of the given program in plain form,printed: each with the proof that it is what the evaluator comes to,and that the program function returns what it says. No conditions. -/
import Derived.Test.YtkefahdbckjajaaGreatDoorEzG7
set_option linter.unusedVariables false
set_option maxRecDepth 100000
namespace Go.Ev
open Go Go.Proofs
def Z64 : FnH := ⟨[(10,⟨(bm 234881024 37),[],(some 0)⟩)],[]⟩
noncomputable def Zb6 : Hints := ⟨[(89,Zbs),(109,Zb4),(110,Z80)],[],[]⟩
noncomputable def Zhd (m n0 : Nat) (Zz : Nat) (Z13 : Option Nat) (Z18 : List D) (Z1b : Int) (Z14 : Int) : Option D :=
 Z1e (bm 234881024 37) 0 0 (codeK Tg Zb6.sp ⟨0,[],false,[]⟩ (inlK Tg Zb6 m 4) m Z64 (subc [1,1,1,1,0,1,0,0] (bodyOf Tryz.f84))) n0 ⟨[Jk,Jk,Jk,Jk,Jk,Jk,Jk,Jk,Jk,Jk,Jk,Jk,Jk,Jk,Jk,Jk,Jk,Jk,Jk,Jk,Jk,Jk,Jk,Jk,Jk,(AV.d (D.list Zz Z13 Z18)),(AV.d (D.v (.int .i64 Z1b))),(AV.d (D.v (.int .i64 Z14))),Jk,Jk,Jk,Jk,Jk,Jk,Jk,Jk,Jk],[]⟩
  (contK Tg Zb6.sp ⟨0,[],false,[]⟩ (inlK Tg Zb6 m 4) m Z64 (endK Tg Tryz.f84 (fun v L => viewK L 8 v some)) [.block 0,.code (subc [1,1,1,1,1] (bodyOf Tryz.f84))])
theorem Z13y (m n0 : Nat) (Zz : Nat) (Z13 : Option Nat) (Z18 : List D) (Z1b : Int) (Z14 : Int) : Zhd m (n0 + 1) Zz Z13 Z18 Z1b Z14 =
 (cond (decide (Z14 < Z1b))
 (if 0 ≤ Z14 ∧ Z14 < (Zz : Int) then
 if (((Int.toNat Z14) * 27) + 27) ≤ (List.length Z18) then
 if (List.length ((List.drop ((Int.toNat Z14) * 27) Z18).take 27)) = 27 then
 (Z80 [(D.agg ((List.drop ((Int.toNat Z14) * 27) Z18).take 27))]).bind fun d12 =>
 (rdI .i64 (some d12)).bind fun x13 =>
 cond (x13 != (0 : Int))
 (some (D.v (.int .i64 x13)))
 (Zhd m n0 Zz Z13 Z18 Z1b (IntKind.wrap .i64 (Z14 + (1 : Int))))
 else none
 else none
 else none)
 (some zI)) := by kernel_rfl
noncomputable def Zph (m : Nat) (a0 : List D) : Option D :=
 if (List.length a0) = 20 then
 (Zb4 [(D.agg ((List.drop 1 a0).take 17))]).bind fun d1 =>
 (rdI .i64 (some d1)).bind fun x2 =>
 cond (x2 != (0 : Int))
 (some (D.v (.int .i64 x2)))
 ((rdL a0[18]?).bind fun q3 =>
 (Zbs [(D.list q3.n q3.cap q3.cs)]).bind fun d4 =>
 (rdI .i64 (some d4)).bind fun x5 =>
 cond (x5 != (0 : Int))
 (some (D.v (.int .i64 x5)))
 ((rdL a0[19]?).bind fun q6 =>
 cond (decide ((q6.n : Int) > (8 : Int)))
 (some (D.v (.int .i64 (3 : Int))))
 ((rdL a0[19]?).bind fun q7 =>
 Zhd m m q7.n q7.cap q7.cs (q7.n : Int) (0 : Int))))
 else none
theorem Z17w (m : Nat) (a0 : List D) : funD Tg Zb6 m 4 Z64 Tryz.f84 [(D.agg a0)] = Zph m a0 := by kernel_rfl
theorem Z1cn : Enters Tg 84 := ⟨Tryz.f84,Tryz.func84,by kernel_rfl,by kernel_rfl⟩
theorem Z1co {ds : List D} {d : D} (h : funD Tg Zb6 M 4 Z64 Tryz.f84 ds = some d) : DataSem Tg 84 ds d := Zf (H := Zb6) (SpOk.cons Z17k (SpOk.cons Z13m (SpOk.cons Z117 SpOk.nil))) mixed InlOk.nil Tryz.func84 Z1cn h
noncomputable def Zgx : List D → Option D
 | [.agg a0] => Zph M a0
 | _ => none
theorem Z1cp : ∀ ds d,Zgx ds = some d → DataSem Tg 84 ds d := by
 intro ds d h
 unfold Zgx at h
 split at h
 ·exact Z1co ((Z17w M _).trans h)
 ·cases h
def Z1w : FnH := ⟨[(5,⟨(bm 1835026 40),[],(some 2)⟩)],[]⟩
def Z1r : FnH := ⟨[],[(4,⟨(bm 135 90),[],(some 1)⟩),(8,⟨(bm 390 90),[],(some 2)⟩),(10,⟨(bm 134 90),[],(some 1)⟩),(12,⟨(bm 6 90),[],(some 0)⟩)]⟩
noncomputable def Zo : Hints := ⟨[(84,Zgx),(85,Z81)],[(108,Tryz.f108,Z1r)],[]⟩
noncomputable def Zfk (m n0 : Nat) (Zz : Nat) (Z13 : Nat) (Z18 : Option Nat) (Z1b : List D) (Z14 : Int) (Z1q : Int) (Z1z : Nat) (Z32 : Option Nat) (Z4e : List D) (Zfw : Nat) (Z63 : List D) : Option D :=
 Z1e (bm 1835026 40) 0 2 (codeK Tg Zo.sp ⟨0,[],false,[]⟩ (inlK Tg Zo m 4) m Z1w (subc [1,1,1,0,1,0,0] (bodyOf Tryz.f83))) n0 ⟨[Jk,(AV.ptr 0 0),Jk,Jk,(AV.sl 1 0 Zz (some Zz) 1),Jk,Jk,Jk,Jk,Jk,Jk,Jk,Jk,Jk,Jk,Jk,Jk,Jk,(AV.d (D.list Z13 Z18 Z1b)),(AV.d (D.v (.int .i64 Z14))),(AV.d (D.v (.int .i64 Z1q))),Jk,Jk,Jk,Jk,Jk,Jk,Jk,Jk,Jk,Jk,Jk,Jk,Jk,Jk,Jk,Jk,Jk,Jk,Jk],[(Blk.d 1 [(D.list Z1z Z32 Z4e)]),(Blk.d Zfw Z63)]⟩
  (contK Tg Zo.sp ⟨0,[],false,[]⟩ (inlK Tg Zo m 4) m Z1w (endK Tg Tryz.f83 (fun v L => viewK L 8 v some)) [.block 0,.code (subc [1,1,1,1] (bodyOf Tryz.f83))])
noncomputable def Z2z (m n0 : Nat) (Zz : Nat) (Z1q : Int) (Z13 : Nat) (Z18 : Option Nat) (Z1b : List D) (Z14 : Int) (Z1z : Nat) (Z32 : Option Nat) (Z4e : List D) (Z2y : Nat) (Z4c : Option Nat) (Z40 : List D) (Z3k : Int) (Z2j : Nat) (Z6i : Nat) (Z7k : Nat) (Zjw : Option Nat) (Zns : List D) (Z15t : Nat) (Zwq : List D) (Z17x : List D) (Z13z : List D) : Option D :=
 cutK m (codeK Tg Zo.sp ⟨3,[],true,[]⟩ (inlK Tg Zo m 3) m Z1r (subc [1,1,1] (bodyOf Tryz.f108)) ⟨[(AV.d (D.list Z2y Z4c Z40)),(AV.d (D.v (.int .i64 Z3k))),(AV.sl 1 0 Z2j (some Z6i) 1),Jk,Jk,Jk,Jk,(AV.ptr 3 0),Jk,Jk,Jk,Jk,Jk,Jk,Jk,Jk,Jk,Jk,Jk,Jk,Jk,Jk,Jk,Jk,Jk,Jk,Jk,Jk,Jk,Jk,Jk,Jk,Jk,Jk,Jk,Jk,Jk,Jk,Jk,Jk,Jk,Jk,Jk,Jk,Jk,Jk,Jk,Jk,Jk,Jk,Jk,Jk,Jk,Jk,Jk,Jk,Jk,Jk,Jk,Jk,Jk,Jk,Jk,Jk,Jk,Jk,Jk,Jk,Jk,Jk,Jk,Jk,Jk,Jk,Jk,Jk,Jk,Jk,Jk,Jk,Jk,Jk,Jk,Jk,Jk,Jk,Jk,Jk,Jk,Jk],[(Blk.d 1 [(D.list Z7k Zjw Zns)]),(Blk.d Z15t Zwq),(Blk.d 20 Z17x),(Blk.d 20 Z13z)]⟩
  (contK Tg Zo.sp ⟨3,[],true,[]⟩ (inlK Tg Zo m 3) m Z1r (endK Tg Tryz.f108 (fun v L => opsK Tg Zo.sp ⟨0,[],false,[]⟩ [] (inlK Tg Zo m 4) (regOps (subc [1,1,1,0,1,0,0,1,1,0,0,1,0,0] (bodyOf Tryz.f83))) (List.drop 5 (Array.toList (regOps (subc [1,1,1,0,1,0,0,1,1,0,0,1,0,0] (bodyOf Tryz.f83))))) ⟨setSl [Jk,(AV.ptr 0 0),Jk,Jk,(AV.sl 1 0 Zz (some Zz) 1),(AV.d (D.v (.int .i64 Z1q))),(AV.ptr 2 0),Jk,Jk,Jk,Jk,Jk,Jk,Jk,Jk,Jk,Jk,Jk,(AV.d (D.list Z13 Z18 Z1b)),(AV.d (D.v (.int .i64 Z14))),(AV.d (D.v (.int .i64 Z1q))),(AV.d (D.v (.bool true))),(AV.d (D.v (.int .i64 Z1q))),(AV.lp Z1b ((Int.toNat Z1q) * 20)),(AV.d (D.agg ((List.drop ((Int.toNat Z1q) * 20) Z1b).take 20))),(AV.ptr 0 0),(AV.d (D.list Z1z Z32 Z4e)),(AV.d (D.v (.int .i64 Z1q))),(AV.sl 1 0 Zz (some Zz) 1),Jk,Jk,Jk,Jk,Jk,Jk,Jk,Jk,Jk,Jk,Jk] (some 29) v,L⟩ (fun st => contK Tg Zo.sp ⟨0,[],false,[]⟩ (inlK Tg Zo m 4) m Z1w (endK Tg Tryz.f83 (fun v L => viewK L 8 v some)) [.code (subc [1,1,1,0,1,0,0,1,1,0,0,1,0,1] (bodyOf Tryz.f83)),.code (subc [1,1,1,0,1,0,0,1,1,0,0,1,1] (bodyOf Tryz.f83)),.block 1,.code (subc [1,1,1,0,1,0,0,1,1,1] (bodyOf Tryz.f83)),.loop (bm 1835026 40) 2 (subc [1,1,1,0,1,0,0] (bodyOf Tryz.f83)) n0,.block 0,.code (subc [1,1,1,1] (bodyOf Tryz.f83))] .normal st))) []))
noncomputable def Z79 (m n0 : Nat) (Zz : Nat) (Z1q : Int) (Z13 : Nat) (Z18 : Option Nat) (Z1b : List D) (Z14 : Int) (Z1z : Nat) (Z32 : Option Nat) (Z4e : List D) (Z9n : Int) (Zbt : Nat) (Zbv : Nat) (Zcj : Nat) (Z8v : Option Nat) (Zaj : List D) (Zha : Nat) (Zla : List D) (Zx2 : List D) (Zwp : List D) (Zo6 : List D) : Option D :=
 cutK m (codeK Tg Zo.sp ⟨3,[],true,[]⟩ (inlK Tg Zo m 3) m Z1r (subc [1,1,1,0,1,0,1,1] (bodyOf Tryz.f108)) ⟨[Jk,(AV.d (D.v (.int .i64 Z9n))),(AV.sl 1 0 Zbt (some Zbv) 1),Jk,Jk,Jk,Jk,(AV.ptr 3 0),(AV.ptr 4 0),Jk,Jk,Jk,Jk,Jk,Jk,Jk,Jk,Jk,Jk,Jk,Jk,Jk,Jk,Jk,Jk,Jk,Jk,Jk,Jk,Jk,Jk,Jk,Jk,Jk,Jk,Jk,Jk,Jk,Jk,Jk,Jk,Jk,Jk,Jk,Jk,Jk,Jk,Jk,Jk,Jk,Jk,Jk,Jk,Jk,Jk,Jk,Jk,Jk,Jk,Jk,Jk,Jk,Jk,Jk,Jk,Jk,Jk,Jk,Jk,Jk,Jk,Jk,Jk,Jk,Jk,Jk,Jk,Jk,Jk,Jk,Jk,Jk,Jk,Jk,Jk,Jk,Jk,Jk,Jk,Jk],[(Blk.d 1 [(D.list Zcj Z8v Zaj)]),(Blk.d Zha Zla),(Blk.d 20 Zx2),(Blk.d 20 Zwp),(Blk.d 20 Zo6)]⟩
  (contK Tg Zo.sp ⟨3,[],true,[]⟩ (inlK Tg Zo m 3) m Z1r (endK Tg Tryz.f108 (fun v L => opsK Tg Zo.sp ⟨0,[],false,[]⟩ [] (inlK Tg Zo m 4) (regOps (subc [1,1,1,0,1,0,0,1,1,0,0,1,0,0] (bodyOf Tryz.f83))) (List.drop 5 (Array.toList (regOps (subc [1,1,1,0,1,0,0,1,1,0,0,1,0,0] (bodyOf Tryz.f83))))) ⟨setSl [Jk,(AV.ptr 0 0),Jk,Jk,(AV.sl 1 0 Zz (some Zz) 1),(AV.d (D.v (.int .i64 Z1q))),(AV.ptr 2 0),Jk,Jk,Jk,Jk,Jk,Jk,Jk,Jk,Jk,Jk,Jk,(AV.d (D.list Z13 Z18 Z1b)),(AV.d (D.v (.int .i64 Z14))),(AV.d (D.v (.int .i64 Z1q))),(AV.d (D.v (.bool true))),(AV.d (D.v (.int .i64 Z1q))),(AV.lp Z1b ((Int.toNat Z1q) * 20)),(AV.d (D.agg ((List.drop ((Int.toNat Z1q) * 20) Z1b).take 20))),(AV.ptr 0 0),(AV.d (D.list Z1z Z32 Z4e)),(AV.d (D.v (.int .i64 Z1q))),(AV.sl 1 0 Zz (some Zz) 1),Jk,Jk,Jk,Jk,Jk,Jk,Jk,Jk,Jk,Jk,Jk] (some 29) v,L⟩ (fun st => contK Tg Zo.sp ⟨0,[],false,[]⟩ (inlK Tg Zo m 4) m Z1w (endK Tg Tryz.f83 (fun v L => viewK L 8 v some)) [.code (subc [1,1,1,0,1,0,0,1,1,0,0,1,0,1] (bodyOf Tryz.f83)),.code (subc [1,1,1,0,1,0,0,1,1,0,0,1,1] (bodyOf Tryz.f83)),.block 1,.code (subc [1,1,1,0,1,0,0,1,1,1] (bodyOf Tryz.f83)),.loop (bm 1835026 40) 2 (subc [1,1,1,0,1,0,0] (bodyOf Tryz.f83)) n0,.block 0,.code (subc [1,1,1,1] (bodyOf Tryz.f83))] .normal st))) [.code (subc [1,1,1,1] (bodyOf Tryz.f108))]))
noncomputable def Z3u (m n0 : Nat) (Zz : Nat) (Z1q : Int) (Z13 : Nat) (Z18 : Option Nat) (Z1b : List D) (Z14 : Int) (Z1z : Nat) (Z32 : Option Nat) (Z4e : List D) (Zc2 : Int) (Zt6 : Nat) (Zv0 : Nat) (Zwg : Nat) (Zwh : Option Nat) (Zx3 : List D) (Zza : Nat) (Z11c : List D) (Z11d : List D) (Z15u : List D) : Option D :=
 cutK m (codeK Tg Zo.sp ⟨3,[],true,[]⟩ (inlK Tg Zo m 3) m Z1r (subc [1,1,1,1] (bodyOf Tryz.f108)) ⟨[Jk,(AV.d (D.v (.int .i64 Zc2))),(AV.sl 1 0 Zt6 (some Zv0) 1),Jk,Jk,Jk,Jk,(AV.ptr 3 0),Jk,Jk,Jk,Jk,Jk,Jk,Jk,Jk,Jk,Jk,Jk,Jk,Jk,Jk,Jk,Jk,Jk,Jk,Jk,Jk,Jk,Jk,Jk,Jk,Jk,Jk,Jk,Jk,Jk,Jk,Jk,Jk,Jk,Jk,Jk,Jk,Jk,Jk,Jk,Jk,Jk,Jk,Jk,Jk,Jk,Jk,Jk,Jk,Jk,Jk,Jk,Jk,Jk,Jk,Jk,Jk,Jk,Jk,Jk,Jk,Jk,Jk,Jk,Jk,Jk,Jk,Jk,Jk,Jk,Jk,Jk,Jk,Jk,Jk,Jk,Jk,Jk,Jk,Jk,Jk,Jk,Jk],[(Blk.d 1 [(D.list Zwg Zwh Zx3)]),(Blk.d Zza Z11c),(Blk.d 20 Z11d),(Blk.d 20 Z15u)]⟩
  (contK Tg Zo.sp ⟨3,[],true,[]⟩ (inlK Tg Zo m 3) m Z1r (endK Tg Tryz.f108 (fun v L => opsK Tg Zo.sp ⟨0,[],false,[]⟩ [] (inlK Tg Zo m 4) (regOps (subc [1,1,1,0,1,0,0,1,1,0,0,1,0,0] (bodyOf Tryz.f83))) (List.drop 5 (Array.toList (regOps (subc [1,1,1,0,1,0,0,1,1,0,0,1,0,0] (bodyOf Tryz.f83))))) ⟨setSl [Jk,(AV.ptr 0 0),Jk,Jk,(AV.sl 1 0 Zz (some Zz) 1),(AV.d (D.v (.int .i64 Z1q))),(AV.ptr 2 0),Jk,Jk,Jk,Jk,Jk,Jk,Jk,Jk,Jk,Jk,Jk,(AV.d (D.list Z13 Z18 Z1b)),(AV.d (D.v (.int .i64 Z14))),(AV.d (D.v (.int .i64 Z1q))),(AV.d (D.v (.bool true))),(AV.d (D.v (.int .i64 Z1q))),(AV.lp Z1b ((Int.toNat Z1q) * 20)),(AV.d (D.agg ((List.drop ((Int.toNat Z1q) * 20) Z1b).take 20))),(AV.ptr 0 0),(AV.d (D.list Z1z Z32 Z4e)),(AV.d (D.v (.int .i64 Z1q))),(AV.sl 1 0 Zz (some Zz) 1),Jk,Jk,Jk,Jk,Jk,Jk,Jk,Jk,Jk,Jk,Jk] (some 29) v,L⟩ (fun st => contK Tg Zo.sp ⟨0,[],false,[]⟩ (inlK Tg Zo m 4) m Z1w (endK Tg Tryz.f83 (fun v L => viewK L 8 v some)) [.code (subc [1,1,1,0,1,0,0,1,1,0,0,1,0,1] (bodyOf Tryz.f83)),.code (subc [1,1,1,0,1,0,0,1,1,0,0,1,1] (bodyOf Tryz.f83)),.block 1,.code (subc [1,1,1,0,1,0,0,1,1,1] (bodyOf Tryz.f83)),.loop (bm 1835026 40) 2 (subc [1,1,1,0,1,0,0] (bodyOf Tryz.f83)) n0,.block 0,.code (subc [1,1,1,1] (bodyOf Tryz.f83))] .normal st))) []))
noncomputable def Z57 (m n0 : Nat) (Zz : Nat) (Z1q : Int) (Z13 : Nat) (Z18 : Option Nat) (Z1b : List D) (Z14 : Int) (Z1z : Nat) (Z32 : Option Nat) (Z4e : List D) (Z1me : Int) (Z1nz : Nat) (Z1p7 : Nat) (Z1o0 : Nat) (Z1o1 : Option Nat) (Z1o2 : List D) (Z1o3 : Nat) (Z1nl : List D) (Z1qh : List D) : Option D :=
 cutK m (codeK Tg Zo.sp ⟨3,[],true,[]⟩ (inlK Tg Zo m 3) m Z1r (subc [1,1,1,1,1] (bodyOf Tryz.f108)) ⟨[Jk,(AV.d (D.v (.int .i64 Z1me))),(AV.sl 1 0 Z1nz (some Z1p7) 1),Jk,Jk,Jk,Jk,Jk,Jk,Jk,Jk,Jk,Jk,Jk,Jk,Jk,Jk,Jk,Jk,Jk,Jk,Jk,Jk,Jk,Jk,Jk,Jk,Jk,Jk,Jk,Jk,Jk,Jk,Jk,Jk,Jk,Jk,Jk,Jk,Jk,Jk,Jk,Jk,Jk,Jk,Jk,Jk,Jk,Jk,Jk,Jk,Jk,Jk,Jk,Jk,Jk,Jk,Jk,Jk,Jk,Jk,Jk,Jk,Jk,Jk,Jk,Jk,Jk,Jk,Jk,Jk,Jk,Jk,Jk,Jk,Jk,Jk,Jk,Jk,Jk,Jk,Jk,Jk,Jk,Jk,Jk,Jk,Jk,Jk,Jk],[(Blk.d 1 [(D.list Z1o0 Z1o1 Z1o2)]),(Blk.d Z1o3 Z1nl),(Blk.d 20 Z1qh)]⟩
  (contK Tg Zo.sp ⟨3,[],true,[]⟩ (inlK Tg Zo m 3) m Z1r (endK Tg Tryz.f108 (fun v L => opsK Tg Zo.sp ⟨0,[],false,[]⟩ [] (inlK Tg Zo m 4) (regOps (subc [1,1,1,0,1,0,0,1,1,0,0,1,0,0] (bodyOf Tryz.f83))) (List.drop 5 (Array.toList (regOps (subc [1,1,1,0,1,0,0,1,1,0,0,1,0,0] (bodyOf Tryz.f83))))) ⟨setSl [Jk,(AV.ptr 0 0),Jk,Jk,(AV.sl 1 0 Zz (some Zz) 1),(AV.d (D.v (.int .i64 Z1q))),(AV.ptr 2 0),Jk,Jk,Jk,Jk,Jk,Jk,Jk,Jk,Jk,Jk,Jk,(AV.d (D.list Z13 Z18 Z1b)),(AV.d (D.v (.int .i64 Z14))),(AV.d (D.v (.int .i64 Z1q))),(AV.d (D.v (.bool true))),(AV.d (D.v (.int .i64 Z1q))),(AV.lp Z1b ((Int.toNat Z1q) * 20)),(AV.d (D.agg ((List.drop ((Int.toNat Z1q) * 20) Z1b).take 20))),(AV.ptr 0 0),(AV.d (D.list Z1z Z32 Z4e)),(AV.d (D.v (.int .i64 Z1q))),(AV.sl 1 0 Zz (some Zz) 1),Jk,Jk,Jk,Jk,Jk,Jk,Jk,Jk,Jk,Jk,Jk] (some 29) v,L⟩ (fun st => contK Tg Zo.sp ⟨0,[],false,[]⟩ (inlK Tg Zo m 4) m Z1w (endK Tg Tryz.f83 (fun v L => viewK L 8 v some)) [.code (subc [1,1,1,0,1,0,0,1,1,0,0,1,0,1] (bodyOf Tryz.f83)),.code (subc [1,1,1,0,1,0,0,1,1,0,0,1,1] (bodyOf Tryz.f83)),.block 1,.code (subc [1,1,1,0,1,0,0,1,1,1] (bodyOf Tryz.f83)),.loop (bm 1835026 40) 2 (subc [1,1,1,0,1,0,0] (bodyOf Tryz.f83)) n0,.block 0,.code (subc [1,1,1,1] (bodyOf Tryz.f83))] .normal st))) []))
theorem Zk9 (m n0 : Nat) (Zz : Nat) (Z1q : Int) (Z13 : Nat) (Z18 : Option Nat) (Z1b : List D) (Z14 : Int) (Z1z : Nat) (Z32 : Option Nat) (Z4e : List D) (Z1me : Int) (Z1nz : Nat) (Z1p7 : Nat) (Z1o0 : Nat) (Z1o1 : Option Nat) (Z1o2 : List D) (Z1o3 : Nat) (Z1nl : List D) (Z1qh : List D) : Z57 m n0 Zz Z1q Z13 Z18 Z1b Z14 Z1z Z32 Z4e Z1me Z1nz Z1p7 Z1o0 Z1o1 Z1o2 Z1o3 Z1nl Z1qh =
 (if 0 ≤ Z1me ∧ Z1me < (Z1nz : Int) then
 (rdI .i64 Z1nl[(0 + ((Int.toNat Z1me) * 1))]?).bind fun x71 =>
 cond (decide (x71 > (64 : Int)))
 (some (D.tup [(D.list 0 (some 0) []),(D.v (.int .i64 (12 : Int)))]))
 ((Zgx [(D.agg Z1qh)]).bind fun d72 =>
 (rdI .i64 (some d72)).bind fun x73 =>
 cond (x73 != (0 : Int))
 (some (D.tup [(D.list 0 (some 0) []),(D.v (.int .i64 x73))]))
 (Zfk m n0 Zz Z13 Z18 Z1b Z14 (IntKind.wrap .i64 (Z1q + (1 : Int))) Z1o0 Z1o1 Z1o2 Z1o3 Z1nl))
 else none) := (Z1y m _).trans (by kernel_rfl)
theorem Zka (m n0 : Nat) (Zz : Nat) (Z1q : Int) (Z13 : Nat) (Z18 : Option Nat) (Z1b : List D) (Z14 : Int) (Z1z : Nat) (Z32 : Option Nat) (Z4e : List D) (Zc2 : Int) (Zt6 : Nat) (Zv0 : Nat) (Zwg : Nat) (Zwh : Option Nat) (Zx3 : List D) (Zza : Nat) (Z11c : List D) (Z11d : List D) (Z15u : List D) : Z3u m n0 Zz Z1q Z13 Z18 Z1b Z14 Z1z Z32 Z4e Zc2 Zt6 Zv0 Zwg Zwh Zx3 Zza Z11c Z11d Z15u =
 (cond (decide (Zc2 > (0 : Int)))
 ((rdI .i64 Z15u[0]?).bind fun x69 =>
 if 0 ≤ x69 ∧ x69 < (Zt6 : Int) then
 (rdI .i64 Z11c[(0 + ((Int.toNat x69) * 1))]?).bind fun x70 =>
 if 0 ≤ Zc2 ∧ Zc2 < (Zt6 : Int) then
 if 1 = 1 ∧ (0 + ((Int.toNat Zc2) * 1)) < Zza then
 Z57 m n0 Zz Z1q Z13 Z18 Z1b Z14 Z1z Z32 Z4e Zc2 Zt6 Zv0 Zwg Zwh Zx3 Zza (List.set Z11c (0 + ((Int.toNat Zc2) * 1)) (D.v (.int .i64 (IntKind.wrap .i64 (x70 + (1 : Int)))))) Z11d
 else none
 else none
 else none)
 (Z57 m n0 Zz Z1q Z13 Z18 Z1b Z14 Z1z Z32 Z4e Zc2 Zt6 Zv0 Zwg Zwh Zx3 Zza Z11c Z11d)) := (Z1y m _).trans (by kernel_rfl)
theorem Z97 (m n0 : Nat) (Zz : Nat) (Z1q : Int) (Z13 : Nat) (Z18 : Option Nat) (Z1b : List D) (Z14 : Int) (Z1z : Nat) (Z32 : Option Nat) (Z4e : List D) (Z9n : Int) (Zbt : Nat) (Zbv : Nat) (Zcj : Nat) (Z8v : Option Nat) (Zaj : List D) (Zha : Nat) (Zla : List D) (Zx2 : List D) (Zwp : List D) (Zo6 : List D) : Z79 m n0 Zz Z1q Z13 Z18 Z1b Z14 Z1z Z32 Z4e Z9n Zbt Zbv Zcj Z8v Zaj Zha Zla Zx2 Zwp Zo6 =
 ((rdI .i64 Zo6[0]?).bind fun x66 =>
 (rdI .i64 Zwp[0]?).bind fun x67 =>
 cond (x66 == x67)
 ((cellsEq [.int,.int,.int,.int,.int,.int,.int,.int,.int,.int,.int,.int,.int,.int,.int,.int,.int] ((List.drop 1 Zo6).take 17) ((List.drop 1 Zwp).take 17)).bind fun b68 =>
 cond b68
 (some (D.tup [(D.list 0 (some 0) []),(D.v (.int .i64 (14 : Int)))]))
 (Z3u m n0 Zz Z1q Z13 Z18 Z1b Z14 Z1z Z32 Z4e Z9n Zbt Zbv Zcj Z8v Zaj Zha Zla Zx2 Zwp))
 (Z3u m n0 Zz Z1q Z13 Z18 Z1b Z14 Z1z Z32 Z4e Z9n Zbt Zbv Zcj Z8v Zaj Zha Zla Zx2 Zwp)) := (Z1y m _).trans (by kernel_rfl)
theorem Zky (m n0 : Nat) (Zz : Nat) (Z1q : Int) (Z13 : Nat) (Z18 : Option Nat) (Z1b : List D) (Z14 : Int) (Z1z : Nat) (Z32 : Option Nat) (Z4e : List D) (Z2y : Nat) (Z4c : Option Nat) (Z40 : List D) (Z3k : Int) (Z2j : Nat) (Z6i : Nat) (Z7k : Nat) (Zjw : Option Nat) (Zns : List D) (Z15t : Nat) (Zwq : List D) (Z17x : List D) (Z13z : List D) : Z2z m n0 Zz Z1q Z13 Z18 Z1b Z14 Z1z Z32 Z4e Z2y Z4c Z40 Z3k Z2j Z6i Z7k Zjw Zns Z15t Zwq Z17x Z13z =
 (cond (decide (Z3k > (1 : Int)))
 (if 0 ≤ (IntKind.wrap .i64 (Z3k - (1 : Int))) ∧ (IntKind.wrap .i64 (Z3k - (1 : Int))) < (Z2y : Int) then
 if (((Int.toNat (IntKind.wrap .i64 (Z3k - (1 : Int)))) * 20) + 20) ≤ (List.length Z40) then
 if (List.length ((List.drop ((Int.toNat (IntKind.wrap .i64 (Z3k - (1 : Int)))) * 20) Z40).take 20)) = 20 then
 (rdI .i64 ((List.drop ((Int.toNat (IntKind.wrap .i64 (Z3k - (1 : Int)))) * 20) Z40).take 20)[0]?).bind fun x60 =>
 (rdI .i64 Z13z[0]?).bind fun x61 =>
 cond (decide (x60 > x61))
 (some (D.tup [(D.list 0 (some 0) []),(D.v (.int .i64 (13 : Int)))]))
 ((rdI .i64 ((List.drop ((Int.toNat (IntKind.wrap .i64 (Z3k - (1 : Int)))) * 20) Z40).take 20)[0]?).bind fun x62 =>
 (rdI .i64 Z13z[0]?).bind fun x63 =>
 cond (x62 == x63)
 ((Z81 [(D.agg ((List.drop 1 ((List.drop ((Int.toNat (IntKind.wrap .i64 (Z3k - (1 : Int)))) * 20) Z40).take 20)).take 17)),(D.agg ((List.drop 1 Z13z).take 17))]).bind fun d64 =>
 (rdI .i64 (some d64)).bind fun x65 =>
 cond (decide (x65 > (0 : Int)))
 (some (D.tup [(D.list 0 (some 0) []),(D.v (.int .i64 (13 : Int)))]))
 (Z79 m n0 Zz Z1q Z13 Z18 Z1b Z14 Z1z Z32 Z4e Z3k Z2j Z6i Z7k Zjw Zns Z15t Zwq Z17x Z13z ((List.drop ((Int.toNat (IntKind.wrap .i64 (Z3k - (1 : Int)))) * 20) Z40).take 20)))
 (Z79 m n0 Zz Z1q Z13 Z18 Z1b Z14 Z1z Z32 Z4e Z3k Z2j Z6i Z7k Zjw Zns Z15t Zwq Z17x Z13z ((List.drop ((Int.toNat (IntKind.wrap .i64 (Z3k - (1 : Int)))) * 20) Z40).take 20)))
 else none
 else none
 else none)
 (Z3u m n0 Zz Z1q Z13 Z18 Z1b Z14 Z1z Z32 Z4e Z3k Z2j Z6i Z7k Zjw Zns Z15t Zwq Z17x Z13z)) := (Z1y m _).trans (by kernel_rfl)
theorem Z11k (m n0 : Nat) (Zz : Nat) (Z13 : Nat) (Z18 : Option Nat) (Z1b : List D) (Z14 : Int) (Z1q : Int) (Z1z : Nat) (Z32 : Option Nat) (Z4e : List D) (Zfw : Nat) (Z63 : List D) : Zfk m (n0 + 1) Zz Z13 Z18 Z1b Z14 Z1q Z1z Z32 Z4e Zfw Z63 =
 (cond (decide (Z1q < Z14))
 (if 0 ≤ Z1q ∧ Z1q < (Z13 : Int) then
 if (((Int.toNat Z1q) * 20) + 20) ≤ (List.length Z1b) then
 if (List.length ((List.drop ((Int.toNat Z1q) * 20) Z1b).take 20)) = 20 then
 if 0 ≤ Z1q ∧ Z1q < (Z1z : Int) then
 if (((Int.toNat Z1q) * 20) + 20) ≤ (List.length Z4e) then
 if (List.length ((List.drop ((Int.toNat Z1q) * 20) Z4e).take 20)) = 20 then
 cond (Z1q == (0 : Int))
 ((rdI .i64 ((List.drop ((Int.toNat Z1q) * 20) Z4e).take 20)[0]?).bind fun x57 =>
 cond (x57 != (-1 : Int))
 (some (D.tup [(D.list 0 (some 0) []),(D.v (.int .i64 (1 : Int)))]))
 (cond (decide (Z1q > (0 : Int)))
 ((rdI .i64 ((List.drop ((Int.toNat Z1q) * 20) Z4e).take 20)[0]?).bind fun x58 =>
 cond (decide (x58 < (0 : Int)))
 (some (D.tup [(D.list 0 (some 0) []),(D.v (.int .i64 (1 : Int)))]))
 ((rdI .i64 ((List.drop ((Int.toNat Z1q) * 20) Z4e).take 20)[0]?).bind fun x59 =>
 cond (decide (x59 ≥ Z1q))
 (some (D.tup [(D.list 0 (some 0) []),(D.v (.int .i64 (1 : Int)))]))
 (Z2z m n0 Zz Z1q Z13 Z18 Z1b Z14 Z1z Z32 Z4e Z1z Z32 Z4e Z1q Zz Zz Z1z Z32 Z4e Zfw Z63 ((List.drop ((Int.toNat Z1q) * 20) Z1b).take 20) ((List.drop ((Int.toNat Z1q) * 20) Z4e).take 20))))
 (Z2z m n0 Zz Z1q Z13 Z18 Z1b Z14 Z1z Z32 Z4e Z1z Z32 Z4e Z1q Zz Zz Z1z Z32 Z4e Zfw Z63 ((List.drop ((Int.toNat Z1q) * 20) Z1b).take 20) ((List.drop ((Int.toNat Z1q) * 20) Z4e).take 20))))
 (cond (decide (Z1q > (0 : Int)))
 ((rdI .i64 ((List.drop ((Int.toNat Z1q) * 20) Z4e).take 20)[0]?).bind fun x74 =>
 cond (decide (x74 < (0 : Int)))
 (some (D.tup [(D.list 0 (some 0) []),(D.v (.int .i64 (1 : Int)))]))
 ((rdI .i64 ((List.drop ((Int.toNat Z1q) * 20) Z4e).take 20)[0]?).bind fun x75 =>
 cond (decide (x75 ≥ Z1q))
 (some (D.tup [(D.list 0 (some 0) []),(D.v (.int .i64 (1 : Int)))]))
 (Z2z m n0 Zz Z1q Z13 Z18 Z1b Z14 Z1z Z32 Z4e Z1z Z32 Z4e Z1q Zz Zz Z1z Z32 Z4e Zfw Z63 ((List.drop ((Int.toNat Z1q) * 20) Z1b).take 20) ((List.drop ((Int.toNat Z1q) * 20) Z4e).take 20))))
 (Z2z m n0 Zz Z1q Z13 Z18 Z1b Z14 Z1z Z32 Z4e Z1z Z32 Z4e Z1q Zz Zz Z1z Z32 Z4e Zfw Z63 ((List.drop ((Int.toNat Z1q) * 20) Z1b).take 20) ((List.drop ((Int.toNat Z1q) * 20) Z4e).take 20)))
 else none
 else none
 else none
 else none
 else none
 else none)
 (if (0 + (Zz * 1)) ≤ Zfw then
 some (D.tup [(D.list Zz (some Zz) (cutL Zfw Z63 0 (Zz * 1))),zI])
 else none)) := by kernel_rfl
noncomputable def Zkb (m : Nat) (a0_0n : Nat) (a0_0c : Option Nat) (a0_0 : List D) : Option D :=
 cond (decide ((a0_0n : Int) > (65536 : Int)))
 (some (D.tup [(D.list 0 (some 0) []),(D.v (.int .i64 (3 : Int)))]))
 (if 0 ≤ (a0_0n : Int) ∧ (a0_0n : Int) ≤ (a0_0n : Int) ∧ fitsRow (Int.toNat (a0_0n : Int)) 8 then
 Zfk m m (Int.toNat (a0_0n : Int)) a0_0n a0_0c a0_0 (a0_0n : Int) (0 : Int) a0_0n a0_0c a0_0 ((Int.toNat (a0_0n : Int)) * 1) (List.flatten (List.replicate (Int.toNat (a0_0n : Int)) [zI]))
 else none)
theorem Z140 (m : Nat) (a0_0n : Nat) (a0_0c : Option Nat) (a0_0 : List D) : funD Tg Zo m 4 Z1w Tryz.f83 [(D.agg [(D.list a0_0n a0_0c a0_0)])] = Zkb m a0_0n a0_0c a0_0 := by kernel_rfl
theorem Z17y : Enters Tg 83 := ⟨Tryz.f83,Tryz.func83,by kernel_rfl,by kernel_rfl⟩
theorem Z17z {ds : List D} {d : D} (h : funD Tg Zo M 4 Z1w Tryz.f83 ds = some d) : DataSem Tg 83 ds d := Zf (H := Zo) (SpOk.cons Z1cp (SpOk.cons Zyd SpOk.nil)) mixed (InlOk.cons Tryz.func108 Z1bu InlOk.nil) Tryz.func83 Z17y h
noncomputable def Zbx : List D → Option D
 | [.agg [.list a0_0n a0_0c a0_0]] => Zkb M a0_0n a0_0c a0_0
 | _ => none
theorem Z180 : ∀ ds d,Zbx ds = some d → DataSem Tg 83 ds d := by
 intro ds d h
 unfold Zbx at h
 split at h
 ·exact Z17z ((Z140 M _ _ _).trans h)
 ·cases h
def Zet : FnH := ⟨[],[]⟩
noncomputable def Zvc : Hints := ⟨[(83,Zbx)],[],[]⟩
noncomputable def Zpi (m : Nat) (a0_0n : Nat) (a0_0c : Option Nat) (a0_0 : List D) : Option D :=
 (Zbx [(D.agg [(D.list a0_0n a0_0c a0_0)])]).bind fun d1 =>
 (rdT d1).bind fun r2 =>
 if List.length r2 = 2 then
 (rdL r2[0]?).bind fun q3 =>
 (rdI .i64 r2[1]?).bind fun x4 =>
 some (D.v (.int .i64 x4))
 else none
theorem Z181 (m : Nat) (a0_0n : Nat) (a0_0c : Option Nat) (a0_0 : List D) : funD Tg Zvc m 4 Zet Tryz.f60 [(D.agg [(D.list a0_0n a0_0c a0_0)])] = Zpi m a0_0n a0_0c a0_0 := by kernel_rfl
theorem Z1cq : Enters Tg 60 := ⟨Tryz.f60,Tryz.func60,by kernel_rfl,by kernel_rfl⟩
theorem Z1cr {ds : List D} {d : D} (h : funD Tg Zvc M 4 Zet Tryz.f60 ds = some d) : DataSem Tg 60 ds d := Zf (H := Zvc) (SpOk.cons Z180 SpOk.nil) mixed InlOk.nil Tryz.func60 Z1cq h
noncomputable def Z3b : List D → Option D
 | [.agg [.list a0_0n a0_0c a0_0]] => Zpi M a0_0n a0_0c a0_0
 | _ => none
theorem Zc3 : ∀ ds d,Z3b ds = some d → DataSem Tg 60 ds d := by
 intro ds d h
 unfold Z3b at h
 split at h
 ·exact Z1cr ((Z181 M _ _ _).trans h)
 ·cases h
def Z59 : FnH := ⟨[],[]⟩
noncomputable def Za1 : Hints := ⟨[],[],[]⟩
noncomputable def Z7j (m : Nat) (a0n : Nat) (a0c : Option Nat) (a0 : List D) : Option D :=
 cond ((a0n : Int) == (0 : Int))
 (some (D.list 0 (some 0) []))
 (if 0 ≤ (a0n : Int) ∧ (a0n : Int) ≤ (a0n : Int) ∧ fitsRow (Int.toNat (a0n : Int)) 128 then
 if (List.length a0) = (a0n * 20) then
 if (0 + ((Int.toNat (a0n : Int)) * 20)) ≤ ((Int.toNat (a0n : Int)) * 20) ∧ (List.length a0) = (a0n * 20) then
 if (0 + ((Int.toNat (a0n : Int)) * 20)) ≤ ((Int.toNat (a0n : Int)) * 20) then
 some (D.list (Int.toNat (a0n : Int)) (some (Int.toNat (a0n : Int))) (cutL ((Int.toNat (a0n : Int)) * 20) (List.take 0 (List.flatten (List.replicate (Int.toNat (a0n : Int)) [zI,(D.v (.int .u8 (0 : Int))),zU,zU,zU,zU,zU,zU,zU,zU,zU,zU,zU,zU,zU,zU,zU,zU,(D.list 0 (some 0) []),(D.list 0 (some 0) [])])) ++ (List.take ((Nat.min a0n (Int.toNat (a0n : Int))) * 20) a0 ++ List.drop (0 + ((Nat.min a0n (Int.toNat (a0n : Int))) * 20)) (List.flatten (List.replicate (Int.toNat (a0n : Int)) [zI,(D.v (.int .u8 (0 : Int))),zU,zU,zU,zU,zU,zU,zU,zU,zU,zU,zU,zU,zU,zU,zU,zU,(D.list 0 (some 0) []),(D.list 0 (some 0) [])])))) 0 ((Int.toNat (a0n : Int)) * 20)))
 else none
 else none
 else none
 else none)
theorem Zqr (m : Nat) (a0n : Nat) (a0c : Option Nat) (a0 : List D) : funD Tg Za1 m 4 Z59 Tryz.f88 [(D.list a0n a0c a0)] = Z7j m a0n a0c a0 := by kernel_rfl
theorem Zsu : Enters Tg 88 := ⟨Tryz.f88,Tryz.func88,by kernel_rfl,by kernel_rfl⟩
theorem Zsv {ds : List D} {d : D} (h : funD Tg Za1 M 4 Z59 Tryz.f88 ds = some d) : DataSem Tg 88 ds d := Zf (H := Za1) SpOk.nil mixed InlOk.nil Tryz.func88 Zsu h
noncomputable def Z5j : List D → Option D
 | [.list a0n a0c a0] => Z7j M a0n a0c a0
 | _ => none
theorem Zsw : ∀ ds d,Z5j ds = some d → DataSem Tg 88 ds d := by
 intro ds d h
 unfold Z5j at h
 split at h
 ·exact Zsv ((Zqr M _ _ _).trans h)
 ·cases h
def Z17 : FnH := ⟨[(6,⟨(bm 117440660 97),[],(some 3)⟩),(15,⟨(bm 3940649673952400 97),[(11,20)],(some 5)⟩)],[(10,⟨(bm 117441172 97),[],(some 3)⟩),(19,⟨(bm 3940649673964688 97),[],(some 6)⟩),(23,⟨(bm 3940649673960592 97),[],(some 6)⟩)]⟩
noncomputable def Z1o : Hints := ⟨[(60,Z3b),(86,Zes),(88,Z5j)],[],[]⟩
noncomputable def Zhe (m n0 : Nat) (Zz : Nat) (Z13 : Nat) (Z18 : Nat) (Z1b : Option Nat) (Z14 : List D) (Z1q : Int) (Z1z : Int) (Z32 : Nat) (Z4e : Option Nat) (Zfw : List D) (Z63 : Nat) (Z5u : List D) : Option D :=
 Z1e (bm 117440660 97) 0 3 (codeK Tg Z1o.sp ⟨0,[],false,[]⟩ (inlK Tg Z1o m 4) m Z17 (subc [1,1,1,0,1,0,0] (bodyOf Tryz.f50))) n0 ⟨[Jk,Jk,(AV.ptr 0 0),Jk,(AV.ptr 1 0),Jk,Jk,(AV.sl 2 0 Zz (some Z13) 1),Jk,Jk,Jk,Jk,Jk,Jk,Jk,Jk,Jk,Jk,Jk,Jk,Jk,Jk,Jk,Jk,(AV.d (D.list Z18 Z1b Z14)),(AV.d (D.v (.int .i64 Z1q))),(AV.d (D.v (.int .i64 Z1z))),Jk,Jk,Jk,Jk,Jk,Jk,Jk,Jk,Jk,Jk,Jk,Jk,Jk,Jk,Jk,Jk,Jk,Jk,Jk,Jk,Jk,Jk,Jk,Jk,Jk,Jk,Jk,Jk,Jk,Jk,Jk,Jk,Jk,Jk,Jk,Jk,Jk,Jk,Jk,Jk,Jk,Jk,Jk,Jk,Jk,Jk,Jk,Jk,Jk,Jk,Jk,Jk,Jk,Jk,Jk,Jk,Jk,Jk,Jk,Jk,Jk,Jk,Jk,Jk,Jk,Jk,Jk,Jk,Jk,Jk],[(Blk.d 1 [(D.list Z32 Z4e Zfw)]),(Blk.d 1 [(D.list 0 (some 0) [])]),(Blk.d Z63 Z5u)]⟩
  (contK Tg Z1o.sp ⟨0,[],false,[]⟩ (inlK Tg Z1o m 4) m Z17 (endK Tg Tryz.f50 (fun v L => viewK L 8 v some)) [.block 0,.code (subc [1,1,1,1] (bodyOf Tryz.f50))])
noncomputable def Zs8 (m n0 : Nat) (Z2y : Nat) (Z4c : Nat) (Z40 : Int) (Z3k : Nat) (Z2j : Option Nat) (Z6i : List D) (Z7k : Int) (Zjw : Int) (Zns : Nat) (Z15t : Option Nat) (Zwq : List D) (Z17x : Nat) (Z13z : List D) : Option D :=
 cutK m (codeK Tg Z1o.sp ⟨0,[],false,[]⟩ (inlK Tg Z1o m 4) m Z17 (subc [1,1,1,0,1,0,0,1,1,0,0,1,1] (bodyOf Tryz.f50)) ⟨[Jk,Jk,(AV.ptr 0 0),Jk,(AV.ptr 1 0),Jk,Jk,(AV.sl 2 0 Z2y (some Z4c) 1),Jk,(AV.d (D.v (.int .i64 Z40))),Jk,Jk,Jk,Jk,Jk,Jk,Jk,Jk,Jk,Jk,Jk,Jk,Jk,Jk,(AV.d (D.list Z3k Z2j Z6i)),(AV.d (D.v (.int .i64 Z7k))),(AV.d (D.v (.int .i64 Zjw))),Jk,Jk,Jk,Jk,Jk,Jk,Jk,Jk,Jk,Jk,Jk,Jk,Jk,Jk,Jk,Jk,Jk,Jk,Jk,Jk,Jk,Jk,Jk,Jk,Jk,Jk,Jk,Jk,Jk,Jk,Jk,Jk,Jk,Jk,Jk,Jk,Jk,Jk,Jk,Jk,Jk,Jk,Jk,Jk,Jk,Jk,Jk,Jk,Jk,Jk,Jk,Jk,Jk,Jk,Jk,Jk,Jk,Jk,Jk,Jk,Jk,Jk,Jk,Jk,Jk,Jk,Jk,Jk,Jk,Jk],[(Blk.d 1 [(D.list Zns Z15t Zwq)]),(Blk.d 1 [(D.list 0 (some 0) [])]),(Blk.d Z17x Z13z)]⟩
  (contK Tg Z1o.sp ⟨0,[],false,[]⟩ (inlK Tg Z1o m 4) m Z17 (endK Tg Tryz.f50 (fun v L => viewK L 8 v some)) [.block 1,.code (subc [1,1,1,0,1,0,0,1,1,1] (bodyOf Tryz.f50)),.loop (bm 117440660 97) 3 (subc [1,1,1,0,1,0,0] (bodyOf Tryz.f50)) n0,.block 0,.code (subc [1,1,1,1] (bodyOf Tryz.f50))]))
theorem Zzq (m n0 : Nat) (Z2y : Nat) (Z4c : Nat) (Z40 : Int) (Z3k : Nat) (Z2j : Option Nat) (Z6i : List D) (Z7k : Int) (Zjw : Int) (Zns : Nat) (Z15t : Option Nat) (Zwq : List D) (Z17x : Nat) (Z13z : List D) : Zs8 m n0 Z2y Z4c Z40 Z3k Z2j Z6i Z7k Zjw Zns Z15t Zwq Z17x Z13z =
 (if 0 ≤ Z40 ∧ Z40 < (Z2y : Int) then
 if 1 = 1 ∧ (0 + ((Int.toNat Z40) * 1)) < Z17x then
 Zhe m n0 Z2y Z4c Z3k Z2j Z6i Z7k (IntKind.wrap .i64 (Zjw + (1 : Int))) Zns Z15t Zwq Z17x (List.set Z13z (0 + ((Int.toNat Z40) * 1)) (D.v (.bool true)))
 else none
 else none) := (Z1y m _).trans (by kernel_rfl)
noncomputable def Z6p (m n0 : Nat) (Z43 : Nat) (Z76 : Nat) (Z56 : Nat) (Z61 : Nat) (Z5a : Nat) (Z5r : Nat) (Z4r : Option Nat) (Z5f : List D) (Z5s : Int) (Z5t : Int) (Z42 : Nat) (Z3z : Option Nat) (Z3l : List D) (Z4o : Nat) (Z1t : List D) (Z4s : Nat) (Z5m : List D) (Z6s : Nat) (Z6e : List D) : Option D :=
 Z1e (bm 3940649673952400 97) 0 5 (codeK Tg Z1o.sp ⟨0,[],false,[]⟩ (inlK Tg Z1o m 4) m Z17 (subc [1,1,1,1,1,1,0,1,0,0] (bodyOf Tryz.f50))) n0 ⟨[Jk,Jk,Jk,Jk,(AV.ptr 1 0),Jk,Jk,(AV.sl 2 0 Z43 (some Z76) 1),Jk,Jk,(AV.sl 3 0 Z56 (some Z61) 1),(AV.sl 4 0 Z5a none 20),Jk,Jk,Jk,Jk,Jk,Jk,Jk,Jk,Jk,Jk,Jk,Jk,Jk,Jk,Jk,Jk,Jk,Jk,Jk,Jk,Jk,Jk,Jk,Jk,Jk,Jk,Jk,Jk,Jk,Jk,Jk,Jk,Jk,Jk,Jk,Jk,Jk,(AV.d (D.list Z5r Z4r Z5f)),(AV.d (D.v (.int .i64 Z5s))),(AV.d (D.v (.int .i64 Z5t))),Jk,Jk,Jk,Jk,Jk,Jk,Jk,Jk,Jk,Jk,Jk,Jk,Jk,Jk,Jk,Jk,Jk,Jk,Jk,Jk,Jk,Jk,Jk,Jk,Jk,Jk,Jk,Jk,Jk,Jk,Jk,Jk,Jk,Jk,Jk,Jk,Jk,Jk,Jk,Jk,Jk,Jk,Jk,Jk,Jk],[(Blk.d 1 [(D.list Z42 Z3z Z3l)]),(Blk.d 1 [(D.list 0 (some 0) [])]),(Blk.d Z4o Z1t),(Blk.d Z4s Z5m),(Blk.d Z6s Z6e)]⟩
  (contK Tg Z1o.sp ⟨0,[],false,[]⟩ (inlK Tg Z1o m 4) m Z17 (endK Tg Tryz.f50 (fun v L => viewK L 8 v some)) [.block 2,.code (subc [1,1,1,1,1,1,1] (bodyOf Tryz.f50))])
noncomputable def Zcr (m n0 : Nat) (Z9n : Nat) (Zbt : Nat) (Zbv : Nat) (Zcj : Nat) (Z8v : Nat) (Zaj : Int) (Zha : Nat) (Zla : Option Nat) (Zx2 : List D) (Zwp : Int) (Zo6 : Int) (Zvd : Nat) (Z11l : Option Nat) (Z11m : List D) (Z11n : Nat) (Z11o : List D) (Zzr : Nat) (Zzs : List D) (Z11p : Nat) (Z11q : List D) (Z141 : List D) : Option D :=
 cutK m (codeK Tg Z1o.sp ⟨0,[],false,[]⟩ (inlK Tg Z1o m 4) m Z17 (subc [1,1,1,1,1,1,0,1,0,0,1,1,0,0,1,1] (bodyOf Tryz.f50)) ⟨[Jk,Jk,Jk,Jk,(AV.ptr 1 0),Jk,Jk,(AV.sl 2 0 Z9n (some Zbt) 1),Jk,Jk,(AV.sl 3 0 Zbv (some Zcj) 1),(AV.sl 4 0 Z8v none 20),(AV.d (D.v (.int .i64 Zaj))),(AV.ptr 5 0),Jk,Jk,Jk,Jk,Jk,Jk,Jk,Jk,Jk,Jk,Jk,Jk,Jk,Jk,Jk,Jk,Jk,Jk,Jk,Jk,Jk,Jk,Jk,Jk,Jk,Jk,Jk,Jk,Jk,Jk,Jk,Jk,Jk,Jk,Jk,(AV.d (D.list Zha Zla Zx2)),(AV.d (D.v (.int .i64 Zwp))),(AV.d (D.v (.int .i64 Zo6))),Jk,Jk,Jk,Jk,Jk,Jk,Jk,Jk,Jk,Jk,Jk,Jk,Jk,Jk,Jk,Jk,Jk,Jk,Jk,Jk,Jk,Jk,Jk,Jk,Jk,Jk,Jk,Jk,Jk,Jk,Jk,Jk,Jk,Jk,Jk,Jk,Jk,Jk,Jk,Jk,Jk,Jk,Jk,Jk,Jk],[(Blk.d 1 [(D.list Zvd Z11l Z11m)]),(Blk.d 1 [(D.list 0 (some 0) [])]),(Blk.d Z11n Z11o),(Blk.d Zzr Zzs),(Blk.d Z11p Z11q),(Blk.d 20 Z141)]⟩
  (contK Tg Z1o.sp ⟨0,[],false,[]⟩ (inlK Tg Z1o m 4) m Z17 (endK Tg Tryz.f50 (fun v L => viewK L 8 v some)) [.block 3,.code (subc [1,1,1,1,1,1,0,1,0,0,1,1,1] (bodyOf Tryz.f50)),.loop (bm 3940649673952400 97) 5 (subc [1,1,1,1,1,1,0,1,0,0] (bodyOf Tryz.f50)) n0,.block 2,.code (subc [1,1,1,1,1,1,1] (bodyOf Tryz.f50))]))
noncomputable def Zcs (m n0 : Nat) (Zc2 : Nat) (Zt6 : Nat) (Zv0 : Nat) (Zwg : Nat) (Zwh : Nat) (Zx3 : Nat) (Zza : Option Nat) (Z11c : List D) (Z11d : Int) (Z15u : Int) (Zzt : Nat) (Z11r : Option Nat) (Z11s : List D) (Z11t : Nat) (Z142 : List D) (Z11u : Nat) (Z11v : List D) (Z11w : Nat) (Z143 : List D) (Zve : List D) : Option D :=
 cutK m (codeK Tg Z1o.sp ⟨0,[],false,[]⟩ (inlK Tg Z1o m 4) m Z17 (subc [1,1,1,1,1,1,0,1,0,0,1,1,0,0,1,1,1,1,1] (bodyOf Tryz.f50)) ⟨[Jk,Jk,Jk,Jk,(AV.ptr 1 0),Jk,Jk,(AV.sl 2 0 Zc2 (some Zt6) 1),Jk,Jk,(AV.sl 3 0 Zv0 (some Zwg) 1),(AV.sl 4 0 Zwh none 20),Jk,(AV.ptr 5 0),Jk,Jk,Jk,Jk,Jk,Jk,Jk,Jk,Jk,Jk,Jk,Jk,Jk,Jk,Jk,Jk,Jk,Jk,Jk,Jk,Jk,Jk,Jk,Jk,Jk,Jk,Jk,Jk,Jk,Jk,Jk,Jk,Jk,Jk,Jk,(AV.d (D.list Zx3 Zza Z11c)),(AV.d (D.v (.int .i64 Z11d))),(AV.d (D.v (.int .i64 Z15u))),Jk,Jk,Jk,Jk,Jk,Jk,Jk,Jk,Jk,Jk,Jk,Jk,Jk,Jk,Jk,Jk,Jk,Jk,Jk,Jk,Jk,Jk,Jk,Jk,Jk,Jk,Jk,Jk,Jk,Jk,Jk,Jk,Jk,Jk,Jk,Jk,Jk,Jk,Jk,Jk,Jk,Jk,Jk,Jk,Jk],[(Blk.d 1 [(D.list Zzt Z11r Z11s)]),(Blk.d 1 [(D.list 0 (some 0) [])]),(Blk.d Z11t Z142),(Blk.d Z11u Z11v),(Blk.d Z11w Z143),(Blk.d 20 Zve)]⟩
  (contK Tg Z1o.sp ⟨0,[],false,[]⟩ (inlK Tg Z1o m 4) m Z17 (endK Tg Tryz.f50 (fun v L => viewK L 8 v some)) [.block 3,.code (subc [1,1,1,1,1,1,0,1,0,0,1,1,1] (bodyOf Tryz.f50)),.loop (bm 3940649673952400 97) 5 (subc [1,1,1,1,1,1,0,1,0,0] (bodyOf Tryz.f50)) n0,.block 2,.code (subc [1,1,1,1,1,1,1] (bodyOf Tryz.f50))]))
theorem Zzu (m n0 : Nat) (Zc2 : Nat) (Zt6 : Nat) (Zv0 : Nat) (Zwg : Nat) (Zwh : Nat) (Zx3 : Nat) (Zza : Option Nat) (Z11c : List D) (Z11d : Int) (Z15u : Int) (Zzt : Nat) (Z11r : Option Nat) (Z11s : List D) (Z11t : Nat) (Z142 : List D) (Z11u : Nat) (Z11v : List D) (Z11w : Nat) (Z143 : List D) (Zve : List D) : Zcs m n0 Zc2 Zt6 Zv0 Zwg Zwh Zx3 Zza Z11c Z11d Z15u Zzt Z11r Z11s Z11t Z142 Z11u Z11v Z11w Z143 Zve =
 (if (List.length Zve) = 20 then
 if ownB ⟨0,[],false,[]⟩ 4 = true ∧ Z11w = (Zwh * 20) ∧ fitsRow (Zwh + 1) 128 ∧ (List.length Zve) = 20 then
 Z6p m n0 Zc2 Zt6 Zv0 Zwg (Zwh + 1) Zx3 Zza Z11c Z11d (IntKind.wrap .i64 (Z15u + (1 : Int))) Zzt Z11r Z11s Z11t Z142 Z11u Z11v ((Zwh + 1) * 20) (Z143 ++ Zve)
 else none
 else none) := (Z1y m _).trans (by kernel_rfl)
theorem Zzv (m n0 : Nat) (Z9n : Nat) (Zbt : Nat) (Zbv : Nat) (Zcj : Nat) (Z8v : Nat) (Zaj : Int) (Zha : Nat) (Zla : Option Nat) (Zx2 : List D) (Zwp : Int) (Zo6 : Int) (Zvd : Nat) (Z11l : Option Nat) (Z11m : List D) (Z11n : Nat) (Z11o : List D) (Zzr : Nat) (Zzs : List D) (Z11p : Nat) (Z11q : List D) (Z141 : List D) : Zcr m n0 Z9n Zbt Zbv Zcj Z8v Zaj Zha Zla Zx2 Zwp Zo6 Zvd Z11l Z11m Z11n Z11o Zzr Zzs Z11p Z11q Z141 =
 (if 0 ≤ Zaj ∧ Zaj < (Zbv : Int) then
 if 1 = 1 ∧ (0 + ((Int.toNat Zaj) * 1)) < Zzr then
 (Zes [(D.agg Z141)]).bind fun d21 =>
 (rdA (some d21)).bind fun c22 =>
 if (List.length c22) = 20 then
 cond (decide (Zaj > (0 : Int)))
 ((rdI .i64 c22[0]?).bind fun x23 =>
 if 0 ≤ x23 ∧ x23 < (Zbv : Int) then
 (rdI .i64 (List.set Zzs (0 + ((Int.toNat Zaj) * 1)) (D.v (.int .i64 (Z8v : Int))))[(0 + ((Int.toNat x23) * 1))]?).bind fun x24 =>
 Zcs m n0 Z9n Zbt Zbv Zcj Z8v Zha Zla Zx2 Zwp Zo6 Zvd Z11l Z11m Z11n Z11o Zzr (List.set Zzs (0 + ((Int.toNat Zaj) * 1)) (D.v (.int .i64 (Z8v : Int)))) Z11p Z11q (List.set c22 0 (D.v (.int .i64 x24)))
 else none)
 (Zcs m n0 Z9n Zbt Zbv Zcj Z8v Zha Zla Zx2 Zwp Zo6 Zvd Z11l Z11m Z11n Z11o Zzr (List.set Zzs (0 + ((Int.toNat Zaj) * 1)) (D.v (.int .i64 (Z8v : Int)))) Z11p Z11q c22)
 else none
 else none
 else none) := (Z1y m _).trans (by kernel_rfl)
theorem Z11x (m n0 : Nat) (Z43 : Nat) (Z76 : Nat) (Z56 : Nat) (Z61 : Nat) (Z5a : Nat) (Z5r : Nat) (Z4r : Option Nat) (Z5f : List D) (Z5s : Int) (Z5t : Int) (Z42 : Nat) (Z3z : Option Nat) (Z3l : List D) (Z4o : Nat) (Z1t : List D) (Z4s : Nat) (Z5m : List D) (Z6s : Nat) (Z6e : List D) : Z6p m (n0 + 1) Z43 Z76 Z56 Z61 Z5a Z5r Z4r Z5f Z5s Z5t Z42 Z3z Z3l Z4o Z1t Z4s Z5m Z6s Z6e =
 (cond (decide (Z5t < Z5s))
 (if 0 ≤ Z5t ∧ Z5t < (Z5r : Int) then
 if (((Int.toNat Z5t) * 20) + 20) ≤ (List.length Z5f) then
 if (List.length ((List.drop ((Int.toNat Z5t) * 20) Z5f).take 20)) = 20 then
 if 0 ≤ Z5t ∧ Z5t < (Z43 : Int) then
 (rdB Z1t[(0 + ((Int.toNat Z5t) * 1))]?).bind fun b18 =>
 cond b18
 (if 0 ≤ Z5t ∧ Z5t < (Z43 : Int) then
 if 1 = 1 ∧ (0 + ((Int.toNat Z5t) * 1)) < Z4o then
 Z6p m n0 Z43 Z76 Z56 Z61 Z5a Z5r Z4r Z5f Z5s (IntKind.wrap .i64 (Z5t + (1 : Int))) Z42 Z3z Z3l Z4o (List.set Z1t (0 + ((Int.toNat Z5t) * 1)) (D.v (.bool true))) Z4s Z5m Z6s Z6e
 else none
 else none)
 (cond (decide (Z5t > (0 : Int)))
 ((rdI .i64 ((List.drop ((Int.toNat Z5t) * 20) Z5f).take 20)[0]?).bind fun x19 =>
 if 0 ≤ x19 ∧ x19 < (Z43 : Int) then
 (rdB Z1t[(0 + ((Int.toNat x19) * 1))]?).bind fun b20 =>
 cond b20
 (if 0 ≤ Z5t ∧ Z5t < (Z43 : Int) then
 if 1 = 1 ∧ (0 + ((Int.toNat Z5t) * 1)) < Z4o then
 Z6p m n0 Z43 Z76 Z56 Z61 Z5a Z5r Z4r Z5f Z5s (IntKind.wrap .i64 (Z5t + (1 : Int))) Z42 Z3z Z3l Z4o (List.set Z1t (0 + ((Int.toNat Z5t) * 1)) (D.v (.bool true))) Z4s Z5m Z6s Z6e
 else none
 else none)
 (Zcr m n0 Z43 Z76 Z56 Z61 Z5a Z5t Z5r Z4r Z5f Z5s Z5t Z42 Z3z Z3l Z4o Z1t Z4s Z5m Z6s Z6e ((List.drop ((Int.toNat Z5t) * 20) Z5f).take 20))
 else none)
 (Zcr m n0 Z43 Z76 Z56 Z61 Z5a Z5t Z5r Z4r Z5f Z5s Z5t Z42 Z3z Z3l Z4o Z1t Z4s Z5m Z6s Z6e ((List.drop ((Int.toNat Z5t) * 20) Z5f).take 20)))
 else none
 else none
 else none
 else none)
 (if (0 + (Z5a * 20)) ≤ Z6s then
 (Z5j [(D.list Z5a none (cutL Z6s Z6e 0 (Z5a * 20)))]).bind fun d25 =>
 (rdL (some d25)).bind fun q26 =>
 if (0 + (Z5a * 20)) ≤ Z6s then
 if (0 + (Z5a * 20)) ≤ Z6s then
 some (D.tup [(D.agg [(D.list q26.n q26.cap q26.cs)]),zI])
 else none
 else none
 else none)) := by kernel_rfl
theorem Z144 (m n0 : Nat) (Zz : Nat) (Z13 : Nat) (Z18 : Nat) (Z1b : Option Nat) (Z14 : List D) (Z1q : Int) (Z1z : Int) (Z32 : Nat) (Z4e : Option Nat) (Zfw : List D) (Z63 : Nat) (Z5u : List D) : Zhe m (n0 + 1) Zz Z13 Z18 Z1b Z14 Z1q Z1z Z32 Z4e Zfw Z63 Z5u =
 (cond (decide (Z1z < Z1q))
 (if 0 ≤ Z1z ∧ Z1z < (Z18 : Int) then
 (rdI .i64 Z14[((Int.toNat Z1z) * 1)]?).bind fun x5 =>
 cond (decide (x5 < (0 : Int)))
 (some (D.tup [(D.agg [(D.list 0 (some 0) [])]),(D.v (.int .i64 (19 : Int)))]))
 (cond (decide (x5 ≥ (Z32 : Int)))
 (some (D.tup [(D.agg [(D.list 0 (some 0) [])]),(D.v (.int .i64 (19 : Int)))]))
 (Zs8 m n0 Zz Z13 x5 Z18 Z1b Z14 Z1q Z1z Z32 Z4e Zfw Z63 Z5u))
 else none)
 (if 0 ≤ (Z32 : Int) ∧ (Z32 : Int) ≤ (Z32 : Int) ∧ fitsRow (Int.toNat (Z32 : Int)) 8 then
 Z6p m m Zz Z13 (Int.toNat (Z32 : Int)) (Int.toNat (Z32 : Int)) 0 Z32 Z4e Zfw (Z32 : Int) (0 : Int) Z32 Z4e Zfw Z63 Z5u ((Int.toNat (Z32 : Int)) * 1) (List.flatten (List.replicate (Int.toNat (Z32 : Int)) [zI])) 0 []
 else none)) := by kernel_rfl
noncomputable def Zmc (m : Nat) (a0_0n : Nat) (a0_0c : Option Nat) (a0_0 : List D) (a1n : Nat) (a1c : Option Nat) (a1 : List D) : Option D :=
 (Z3b [(D.agg [(D.list a0_0n a0_0c a0_0)])]).bind fun d1 =>
 (rdI .i64 (some d1)).bind fun x2 =>
 cond (x2 != (0 : Int))
 (some (D.tup [(D.agg [(D.list 0 (some 0) [])]),(D.v (.int .i64 x2))]))
 (if 0 ≤ (a0_0n : Int) ∧ (a0_0n : Int) ≤ (a0_0n : Int) ∧ fitsRow (Int.toNat (a0_0n : Int)) 1 then
 Zhe m m (Int.toNat (a0_0n : Int)) (Int.toNat (a0_0n : Int)) a1n a1c a1 (a1n : Int) (0 : Int) a0_0n a0_0c a0_0 ((Int.toNat (a0_0n : Int)) * 1) (List.flatten (List.replicate (Int.toNat (a0_0n : Int)) [(D.v (.bool false))]))
 else none)
theorem Z164 (m : Nat) (a0_0n : Nat) (a0_0c : Option Nat) (a0_0 : List D) (a1n : Nat) (a1c : Option Nat) (a1 : List D) : funD Tg Z1o m 4 Z17 Tryz.f50 [(D.agg [(D.list a0_0n a0_0c a0_0)]),(D.list a1n a1c a1)] = Zmc m a0_0n a0_0c a0_0 a1n a1c a1 := by kernel_rfl
theorem Z1as : Enters Tg 50 := ⟨Tryz.f50,Tryz.func50,by kernel_rfl,by kernel_rfl⟩
theorem Z1at {ds : List D} {d : D} (h : funD Tg Z1o M 4 Z17 Tryz.f50 ds = some d) : DataSem Tg 50 ds d := Zf (H := Z1o) (SpOk.cons Zc3 (SpOk.cons Z1ar (SpOk.cons Zsw SpOk.nil))) mixed InlOk.nil Tryz.func50 Z1as h
noncomputable def Z2q : List D → Option D
 | [.agg [.list a0_0n a0_0c a0_0],.list a1n a1c a1] => Zmc M a0_0n a0_0c a0_0 a1n a1c a1
 | _ => none
theorem Zqs : ∀ ds d,Z2q ds = some d → DataSem Tg 50 ds d := by
 intro ds d h
 unfold Z2q at h
 split at h
 ·exact Z1at ((Z164 M _ _ _ _ _ _).trans h)
 ·cases h
def Zgy : FnH := ⟨[],[]⟩
noncomputable def Zyp : Hints := ⟨[],[],[]⟩
noncomputable def Z16z (m : Nat) (a0_0n : Nat) (a0_0c : Option Nat) (a0_0 : List D) : Option D :=
 some (D.v (.int .i64 (a0_0n : Int)))
theorem Z1au (m : Nat) (a0_0n : Nat) (a0_0c : Option Nat) (a0_0 : List D) : funD Tg Zyp m 4 Zgy Tryz.f36 [(D.agg [(D.list a0_0n a0_0c a0_0)])] = Z16z m a0_0n a0_0c a0_0 := by kernel_rfl
theorem Z1fe : Enters Tg 36 := ⟨Tryz.f36,Tryz.func36,by kernel_rfl,by kernel_rfl⟩
theorem Z1ff {ds : List D} {d : D} (h : funD Tg Zyp M 4 Zgy Tryz.f36 ds = some d) : DataSem Tg 36 ds d := Zf (H := Zyp) SpOk.nil mixed InlOk.nil Tryz.func36 Z1fe h
noncomputable def Z2k : List D → Option D
 | [.agg [.list a0_0n a0_0c a0_0]] => Z16z M a0_0n a0_0c a0_0
 | _ => none
theorem Z145 : ∀ ds d,Z2k ds = some d → DataSem Tg 36 ds d := by
 intro ds d h
 unfold Z2k at h
 split at h
 ·exact Z1ff ((Z1au M _ _ _).trans h)
 ·cases h
end Go.Ev