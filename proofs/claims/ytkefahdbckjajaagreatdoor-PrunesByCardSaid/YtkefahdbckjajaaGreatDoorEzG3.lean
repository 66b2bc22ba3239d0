/- Functions of the given program in plain form,printed: each with the proof that it is what the evaluator comes to,and that the program function returns what it says. No conditions. -/
import Derived.Test.YtkefahdbckjajaaGreatDoorEzG7
set_option linter.unusedVariables false
set_option maxRecDepth 100000
namespace Go.Ev
open Go Go.Proofs

def Z5o : FnH := ⟨[(10,⟨(bm 234881024 37),[],(some 0)⟩)],[]⟩
noncomputable def Zas : Hints := ⟨[(89,Zbd),(109,Zap),(110,Z7n)],[],[]⟩
noncomputable def Zgy (m n0 : Nat) (Zl : Nat) (Zt : Option Nat) (Zy : List D) (Z11 : Int) (Zs : Int) : Option D :=
 Z15 (bm 234881024 37) 0 0 (codeK Tg Zas.sp ⟨0,[],false,[]⟩ (inlK Tg Zas m 4) m Z5o (subc [1,1,1,1,0,1,0,0] (bodyOf Tryz.f84))) n0 ⟨[Jk,Jk,Jk,Jk,Jk,Jk,Jk,Jk,Jk,Jk,Jk,Jk,Jk,Jk,Jk,Jk,Jk,Jk,Jk,Jk,Jk,Jk,Jk,Jk,Jk,(AV.d (D.list Zl Zt Zy)),(AV.d (D.v (.int .i64 Z11))),(AV.d (D.v (.int .i64 Zs))),Jk,Jk,Jk,Jk,Jk,Jk,Jk,Jk,Jk],[]⟩
  (contK Tg Zas.sp ⟨0,[],false,[]⟩ (inlK Tg Zas m 4) m Z5o (endK Tg Tryz.f84 (fun v L => viewK L 8 v some)) [.block 0,.code (subc [1,1,1,1,1] (bodyOf Tryz.f84))])
theorem Z133 (m n0 : Nat) (Zl : Nat) (Zt : Option Nat) (Zy : List D) (Z11 : Int) (Zs : Int) : Zgy m (n0 + 1) Zl Zt Zy Z11 Zs =
 (cond (decide (Zs < Z11))
 (if 0 ≤ Zs ∧ Zs < (Zl : Int) then
 if (((Int.toNat Zs) * 27) + 27) ≤ (List.length Zy) then
 if (List.length ((List.drop ((Int.toNat Zs) * 27) Zy).take 27)) = 27 then
 (Z7n [(D.agg ((List.drop ((Int.toNat Zs) * 27) Zy).take 27))]).bind fun d12 =>
 (rdI .i64 (some d12)).bind fun x13 =>
 cond (x13 != (0 : Int))
 (some (D.v (.int .i64 x13)))
 (Zgy m n0 Zl Zt Zy Z11 (IntKind.wrap .i64 (Zs + (1 : Int))))
 else none
 else none
 else none)
 (some zI)) := by kernel_rfl
noncomputable def Zp6 (m : Nat) (a0 : List D) : Option D :=
 if (List.length a0) = 20 then
 (Zap [(D.agg ((List.drop 1 a0).take 17))]).bind fun d1 =>
 (rdI .i64 (some d1)).bind fun x2 =>
 cond (x2 != (0 : Int))
 (some (D.v (.int .i64 x2)))
 ((rdL a0[18]?).bind fun q3 =>
 (Zbd [(D.list q3.n q3.cap q3.cs)]).bind fun d4 =>
 (rdI .i64 (some d4)).bind fun x5 =>
 cond (x5 != (0 : Int))
 (some (D.v (.int .i64 x5)))
 ((rdL a0[19]?).bind fun q6 =>
 cond (decide ((q6.n : Int) > (8 : Int)))
 (some (D.v (.int .i64 (3 : Int))))
 ((rdL a0[19]?).bind fun q7 =>
 Zgy m m q7.n q7.cap q7.cs (q7.n : Int) (0 : Int))))
 else none
theorem Z171 (m : Nat) (a0 : List D) : funD Tg Zas m 4 Z5o Tryz.f84 [(D.agg a0)] = Zp6 m a0 := by kernel_rfl
theorem Z1bv : Enters Tg 84 := ⟨Tryz.f84,Tryz.func84,by kernel_rfl,by kernel_rfl⟩
theorem Z1bw {ds : List D} {d : D} (h : funD Tg Zas M 4 Z5o Tryz.f84 ds = some d) : DataSem Tg 84 ds d := Z8 (H := Zas) (SpOk.cons Z16p (SpOk.cons Z12o (SpOk.cons Z109 SpOk.nil))) mixed InlOk.nil Tryz.func84 Z1bv h
noncomputable def Zgj : List D → Option D
  | [.agg a0] => Zp6 M a0
  | _ => none
theorem Z1bx : ∀ ds d,Zgj ds = some d → DataSem Tg 84 ds d := by
  intro ds d h
  unfold Zgj at h
  split at h
  · exact Z1bw ((Z171 M _).trans h)
  · cases h

def Z1m : FnH := ⟨[(5,⟨(bm 1835026 40),[],(some 2)⟩)],[]⟩
def Z1g : FnH := ⟨[],[(4,⟨(bm 135 90),[],(some 1)⟩),(8,⟨(bm 390 90),[],(some 2)⟩),(10,⟨(bm 134 90),[],(some 1)⟩),(12,⟨(bm 6 90),[],(some 0)⟩)]⟩
noncomputable def Ze : Hints := ⟨[(84,Zgj),(85,Z7o)],[(108,Tryz.f108,Z1g)],[]⟩
noncomputable def Zf5 (m n0 : Nat) (Zl : Nat) (Zt : Nat) (Zy : Option Nat) (Z11 : List D) (Zs : Int) (Z1b : Int) (Z1o : Nat) (Z2r : Option Nat) (Z3x : List D) (Zfh : Nat) (Z5n : List D) : Option D :=
 Z15 (bm 1835026 40) 0 2 (codeK Tg Ze.sp ⟨0,[],false,[]⟩ (inlK Tg Ze m 4) m Z1m (subc [1,1,1,0,1,0,0] (bodyOf Tryz.f83))) n0 ⟨[Jk,(AV.ptr 0 0),Jk,Jk,(AV.sl 1 0 Zl (some Zl) 1),Jk,Jk,Jk,Jk,Jk,Jk,Jk,Jk,Jk,Jk,Jk,Jk,Jk,(AV.d (D.list Zt Zy Z11)),(AV.d (D.v (.int .i64 Zs))),(AV.d (D.v (.int .i64 Z1b))),Jk,Jk,Jk,Jk,Jk,Jk,Jk,Jk,Jk,Jk,Jk,Jk,Jk,Jk,Jk,Jk,Jk,Jk,Jk],[(Blk.d 1 [(D.list Z1o Z2r Z3x)]),(Blk.d Zfh Z5n)]⟩
  (contK Tg Ze.sp ⟨0,[],false,[]⟩ (inlK Tg Ze m 4) m Z1m (endK Tg Tryz.f83 (fun v L => viewK L 8 v some)) [.block 0,.code (subc [1,1,1,1] (bodyOf Tryz.f83))])
noncomputable def Z2n (m n0 : Nat) (Zl : Nat) (Z1b : Int) (Zt : Nat) (Zy : Option Nat) (Z11 : List D) (Zs : Int) (Z1o : Nat) (Z2r : Option Nat) (Z3x : List D) (Z2o : Nat) (Z43 : Option Nat) (Z3v : List D) (Z3o : Int) (Z2d : Nat) (Z6d : Nat) (Z7a : Nat) (Zki : Option Nat) (Zp1 : List D) (Z12w : Nat) (Zvw : List D) (Z172 : List D) (Z134 : List D) : Option D :=
 cutK m (codeK Tg Ze.sp ⟨3,[],true,[]⟩ (inlK Tg Ze m 3) m Z1g (subc [1,1,1] (bodyOf Tryz.f108)) ⟨[(AV.d (D.list Z2o Z43 Z3v)),(AV.d (D.v (.int .i64 Z3o))),(AV.sl 1 0 Z2d (some Z6d) 1),Jk,Jk,Jk,Jk,(AV.ptr 3 0),Jk,Jk,Jk,Jk,Jk,Jk,Jk,Jk,Jk,Jk,Jk,Jk,Jk,Jk,Jk,Jk,Jk,Jk,Jk,Jk,Jk,Jk,Jk,Jk,Jk,Jk,Jk,Jk,Jk,Jk,Jk,Jk,Jk,Jk,Jk,Jk,Jk,Jk,Jk,Jk,Jk,Jk,Jk,Jk,Jk,Jk,Jk,Jk,Jk,Jk,Jk,Jk,Jk,Jk,Jk,Jk,Jk,Jk,Jk,Jk,Jk,Jk,Jk,Jk,Jk,Jk,Jk,Jk,Jk,Jk,Jk,Jk,Jk,Jk,Jk,Jk,Jk,Jk,Jk,Jk,Jk,Jk],[(Blk.d 1 [(D.list Z7a Zki Zp1)]),(Blk.d Z12w Zvw),(Blk.d 20 Z172),(Blk.d 20 Z134)]⟩
  (contK Tg Ze.sp ⟨3,[],true,[]⟩ (inlK Tg Ze m 3) m Z1g (endK Tg Tryz.f108 (fun v L => opsK Tg Ze.sp ⟨0,[],false,[]⟩ [] (inlK Tg Ze m 4) (regOps (subc [1,1,1,0,1,0,0,1,1,0,0,1,0,0] (bodyOf Tryz.f83))) (List.drop 5 (Array.toList (regOps (subc [1,1,1,0,1,0,0,1,1,0,0,1,0,0] (bodyOf Tryz.f83))))) ⟨setSl [Jk,(AV.ptr 0 0),Jk,Jk,(AV.sl 1 0 Zl (some Zl) 1),(AV.d (D.v (.int .i64 Z1b))),(AV.ptr 2 0),Jk,Jk,Jk,Jk,Jk,Jk,Jk,Jk,Jk,Jk,Jk,(AV.d (D.list Zt Zy Z11)),(AV.d (D.v (.int .i64 Zs))),(AV.d (D.v (.int .i64 Z1b))),(AV.d (D.v (.bool true))),(AV.d (D.v (.int .i64 Z1b))),(AV.lp Z11 ((Int.toNat Z1b) * 20)),(AV.d (D.agg ((List.drop ((Int.toNat Z1b) * 20) Z11).take 20))),(AV.ptr 0 0),(AV.d (D.list Z1o Z2r Z3x)),(AV.d (D.v (.int .i64 Z1b))),(AV.sl 1 0 Zl (some Zl) 1),Jk,Jk,Jk,Jk,Jk,Jk,Jk,Jk,Jk,Jk,Jk] (some 29) v,L⟩ (fun st => contK Tg Ze.sp ⟨0,[],false,[]⟩ (inlK Tg Ze m 4) m Z1m (endK Tg Tryz.f83 (fun v L => viewK L 8 v some)) [.code (subc [1,1,1,0,1,0,0,1,1,0,0,1,0,1] (bodyOf Tryz.f83)),.code (subc [1,1,1,0,1,0,0,1,1,0,0,1,1] (bodyOf Tryz.f83)),.block 1,.code (subc [1,1,1,0,1,0,0,1,1,1] (bodyOf Tryz.f83)),.loop (bm 1835026 40) 2 (subc [1,1,1,0,1,0,0] (bodyOf Tryz.f83)) n0,.block 0,.code (subc [1,1,1,1] (bodyOf Tryz.f83))] .normal st))) []))
noncomputable def Z6w (m n0 : Nat) (Zl : Nat) (Z1b : Int) (Zt : Nat) (Zy : Option Nat) (Z11 : List D) (Zs : Int) (Z1o : Nat) (Z2r : Option Nat) (Z3x : List D) (Z8i : Int) (Z9q : Nat) (Z9r : Nat) (Za9 : Nat) (Z80 : Option Nat) (Z8s : List D) (Zf3 : Nat) (Zif : List D) (Zno : List D) (Zso : List D) (Zns : List D) : Option D :=
 cutK m (codeK Tg Ze.sp ⟨3,[],true,[]⟩ (inlK Tg Ze m 3) m Z1g (subc [1,1,1,0,1,0,1,1] (bodyOf Tryz.f108)) ⟨[Jk,(AV.d (D.v (.int .i64 Z8i))),(AV.sl 1 0 Z9q (some Z9r) 1),Jk,Jk,Jk,Jk,(AV.ptr 3 0),(AV.ptr 4 0),Jk,Jk,Jk,Jk,Jk,Jk,Jk,Jk,Jk,Jk,Jk,Jk,Jk,Jk,Jk,Jk,Jk,Jk,Jk,Jk,Jk,Jk,Jk,Jk,Jk,Jk,Jk,Jk,Jk,Jk,Jk,Jk,Jk,Jk,Jk,Jk,Jk,Jk,Jk,Jk,Jk,Jk,Jk,Jk,Jk,Jk,Jk,Jk,Jk,Jk,Jk,Jk,Jk,Jk,Jk,Jk,Jk,Jk,Jk,Jk,Jk,Jk,Jk,Jk,Jk,Jk,Jk,Jk,Jk,Jk,Jk,Jk,Jk,Jk,Jk,Jk,Jk,Jk,Jk,Jk,Jk],[(Blk.d 1 [(D.list Za9 Z80 Z8s)]),(Blk.d Zf3 Zif),(Blk.d 20 Zno),(Blk.d 20 Zso),(Blk.d 20 Zns)]⟩
  (contK Tg Ze.sp ⟨3,[],true,[]⟩ (inlK Tg Ze m 3) m Z1g (endK Tg Tryz.f108 (fun v L => opsK Tg Ze.sp ⟨0,[],false,[]⟩ [] (inlK Tg Ze m 4) (regOps (subc [1,1,1,0,1,0,0,1,1,0,0,1,0,0] (bodyOf Tryz.f83))) (List.drop 5 (Array.toList (regOps (subc [1,1,1,0,1,0,0,1,1,0,0,1,0,0] (bodyOf Tryz.f83))))) ⟨setSl [Jk,(AV.ptr 0 0),Jk,Jk,(AV.sl 1 0 Zl (some Zl) 1),(AV.d (D.v (.int .i64 Z1b))),(AV.ptr 2 0),Jk,Jk,Jk,Jk,Jk,Jk,Jk,Jk,Jk,Jk,Jk,(AV.d (D.list Zt Zy Z11)),(AV.d (D.v (.int .i64 Zs))),(AV.d (D.v (.int .i64 Z1b))),(AV.d (D.v (.bool true))),(AV.d (D.v (.int .i64 Z1b))),(AV.lp Z11 ((Int.toNat Z1b) * 20)),(AV.d (D.agg ((List.drop ((Int.toNat Z1b) * 20) Z11).take 20))),(AV.ptr 0 0),(AV.d (D.list Z1o Z2r Z3x)),(AV.d (D.v (.int .i64 Z1b))),(AV.sl 1 0 Zl (some Zl) 1),Jk,Jk,Jk,Jk,Jk,Jk,Jk,Jk,Jk,Jk,Jk] (some 29) v,L⟩ (fun st => contK Tg Ze.sp ⟨0,[],false,[]⟩ (inlK Tg Ze m 4) m Z1m (endK Tg Tryz.f83 (fun v L => viewK L 8 v some)) [.code (subc [1,1,1,0,1,0,0,1,1,0,0,1,0,1] (bodyOf Tryz.f83)),.code (subc [1,1,1,0,1,0,0,1,1,0,0,1,1] (bodyOf Tryz.f83)),.block 1,.code (subc [1,1,1,0,1,0,0,1,1,1] (bodyOf Tryz.f83)),.loop (bm 1835026 40) 2 (subc [1,1,1,0,1,0,0] (bodyOf Tryz.f83)) n0,.block 0,.code (subc [1,1,1,1] (bodyOf Tryz.f83))] .normal st))) [.code (subc [1,1,1,1] (bodyOf Tryz.f108))]))
noncomputable def Z3f (m n0 : Nat) (Zl : Nat) (Z1b : Int) (Zt : Nat) (Zy : Option Nat) (Z11 : List D) (Zs : Int) (Z1o : Nat) (Z2r : Option Nat) (Z3x : List D) (Ze6 : Int) (Zvv : Nat) (Zud : Nat) (Zvn : Nat) (Zvo : Option Nat) (Zw7 : List D) (Zyi : Nat) (Z10e : List D) (Z10f : List D) (Z14v : List D) : Option D :=
 cutK m (codeK Tg Ze.sp ⟨3,[],true,[]⟩ (inlK Tg Ze m 3) m Z1g (subc [1,1,1,1] (bodyOf Tryz.f108)) ⟨[Jk,(AV.d (D.v (.int .i64 Ze6))),(AV.sl 1 0 Zvv (some Zud) 1),Jk,Jk,Jk,Jk,(AV.ptr 3 0),Jk,Jk,Jk,Jk,Jk,Jk,Jk,Jk,Jk,Jk,Jk,Jk,Jk,Jk,Jk,Jk,Jk,Jk,Jk,Jk,Jk,Jk,Jk,Jk,Jk,Jk,Jk,Jk,Jk,Jk,Jk,Jk,Jk,Jk,Jk,Jk,Jk,Jk,Jk,Jk,Jk,Jk,Jk,Jk,Jk,Jk,Jk,Jk,Jk,Jk,Jk,Jk,Jk,Jk,Jk,Jk,Jk,Jk,Jk,Jk,Jk,Jk,Jk,Jk,Jk,Jk,Jk,Jk,Jk,Jk,Jk,Jk,Jk,Jk,Jk,Jk,Jk,Jk,Jk,Jk,Jk,Jk],[(Blk.d 1 [(D.list Zvn Zvo Zw7)]),(Blk.d Zyi Z10e),(Blk.d 20 Z10f),(Blk.d 20 Z14v)]⟩
  (contK Tg Ze.sp ⟨3,[],true,[]⟩ (inlK Tg Ze m 3) m Z1g (endK Tg Tryz.f108 (fun v L => opsK Tg Ze.sp ⟨0,[],false,[]⟩ [] (inlK Tg Ze m 4) (regOps (subc [1,1,1,0,1,0,0,1,1,0,0,1,0,0] (bodyOf Tryz.f83))) (List.drop 5 (Array.toList (regOps (subc [1,1,1,0,1,0,0,1,1,0,0,1,0,0] (bodyOf Tryz.f83))))) ⟨setSl [Jk,(AV.ptr 0 0),Jk,Jk,(AV.sl 1 0 Zl (some Zl) 1),(AV.d (D.v (.int .i64 Z1b))),(AV.ptr 2 0),Jk,Jk,Jk,Jk,Jk,Jk,Jk,Jk,Jk,Jk,Jk,(AV.d (D.list Zt Zy Z11)),(AV.d (D.v (.int .i64 Zs))),(AV.d (D.v (.int .i64 Z1b))),(AV.d (D.v (.bool true))),(AV.d (D.v (.int .i64 Z1b))),(AV.lp Z11 ((Int.toNat Z1b) * 20)),(AV.d (D.agg ((List.drop ((Int.toNat Z1b) * 20) Z11).take 20))),(AV.ptr 0 0),(AV.d (D.list Z1o Z2r Z3x)),(AV.d (D.v (.int .i64 Z1b))),(AV.sl 1 0 Zl (some Zl) 1),Jk,Jk,Jk,Jk,Jk,Jk,Jk,Jk,Jk,Jk,Jk] (some 29) v,L⟩ (fun st => contK Tg Ze.sp ⟨0,[],false,[]⟩ (inlK Tg Ze m 4) m Z1m (endK Tg Tryz.f83 (fun v L => viewK L 8 v some)) [.code (subc [1,1,1,0,1,0,0,1,1,0,0,1,0,1] (bodyOf Tryz.f83)),.code (subc [1,1,1,0,1,0,0,1,1,0,0,1,1] (bodyOf Tryz.f83)),.block 1,.code (subc [1,1,1,0,1,0,0,1,1,1] (bodyOf Tryz.f83)),.loop (bm 1835026 40) 2 (subc [1,1,1,0,1,0,0] (bodyOf Tryz.f83)) n0,.block 0,.code (subc [1,1,1,1] (bodyOf Tryz.f83))] .normal st))) []))
noncomputable def Z4r (m n0 : Nat) (Zl : Nat) (Z1b : Int) (Zt : Nat) (Zy : Option Nat) (Z11 : List D) (Zs : Int) (Z1o : Nat) (Z2r : Option Nat) (Z3x : List D) (Z1lc : Int) (Z1mo : Nat) (Z1nv : Nat) (Z1mp : Nat) (Z1mq : Option Nat) (Z1mr : List D) (Z1ms : Nat) (Z1ma : List D) (Z1p0 : List D) : Option D :=
 cutK m (codeK Tg Ze.sp ⟨3,[],true,[]⟩ (inlK Tg Ze m 3) m Z1g (subc [1,1,1,1,1] (bodyOf Tryz.f108)) ⟨[Jk,(AV.d (D.v (.int .i64 Z1lc))),(AV.sl 1 0 Z1mo (some Z1nv) 1),Jk,Jk,Jk,Jk,Jk,Jk,Jk,Jk,Jk,Jk,Jk,Jk,Jk,Jk,Jk,Jk,Jk,Jk,Jk,Jk,Jk,Jk,Jk,Jk,Jk,Jk,Jk,Jk,Jk,Jk,Jk,Jk,Jk,Jk,Jk,Jk,Jk,Jk,Jk,Jk,Jk,Jk,Jk,Jk,Jk,Jk,Jk,Jk,Jk,Jk,Jk,Jk,Jk,Jk,Jk,Jk,Jk,Jk,Jk,Jk,Jk,Jk,Jk,Jk,Jk,Jk,Jk,Jk,Jk,Jk,Jk,Jk,Jk,Jk,Jk,Jk,Jk,Jk,Jk,Jk,Jk,Jk,Jk,Jk,Jk,Jk,Jk],[(Blk.d 1 [(D.list Z1mp Z1mq Z1mr)]),(Blk.d Z1ms Z1ma),(Blk.d 20 Z1p0)]⟩
  (contK Tg Ze.sp ⟨3,[],true,[]⟩ (inlK Tg Ze m 3) m Z1g (endK Tg Tryz.f108 (fun v L => opsK Tg Ze.sp ⟨0,[],false,[]⟩ [] (inlK Tg Ze m 4) (regOps (subc [1,1,1,0,1,0,0,1,1,0,0,1,0,0] (bodyOf Tryz.f83))) (List.drop 5 (Array.toList (regOps (subc [1,1,1,0,1,0,0,1,1,0,0,1,0,0] (bodyOf Tryz.f83))))) ⟨setSl [Jk,(AV.ptr 0 0),Jk,Jk,(AV.sl 1 0 Zl (some Zl) 1),(AV.d (D.v (.int .i64 Z1b))),(AV.ptr 2 0),Jk,Jk,Jk,Jk,Jk,Jk,Jk,Jk,Jk,Jk,Jk,(AV.d (D.list Zt Zy Z11)),(AV.d (D.v (.int .i64 Zs))),(AV.d (D.v (.int .i64 Z1b))),(AV.d (D.v (.bool true))),(AV.d (D.v (.int .i64 Z1b))),(AV.lp Z11 ((Int.toNat Z1b) * 20)),(AV.d (D.agg ((List.drop ((Int.toNat Z1b) * 20) Z11).take 20))),(AV.ptr 0 0),(AV.d (D.list Z1o Z2r Z3x)),(AV.d (D.v (.int .i64 Z1b))),(AV.sl 1 0 Zl (some Zl) 1),Jk,Jk,Jk,Jk,Jk,Jk,Jk,Jk,Jk,Jk,Jk] (some 29) v,L⟩ (fun st => contK Tg Ze.sp ⟨0,[],false,[]⟩ (inlK Tg Ze m 4) m Z1m (endK Tg Tryz.f83 (fun v L => viewK L 8 v some)) [.code (subc [1,1,1,0,1,0,0,1,1,0,0,1,0,1] (bodyOf Tryz.f83)),.code (subc [1,1,1,0,1,0,0,1,1,0,0,1,1] (bodyOf Tryz.f83)),.block 1,.code (subc [1,1,1,0,1,0,0,1,1,1] (bodyOf Tryz.f83)),.loop (bm 1835026 40) 2 (subc [1,1,1,0,1,0,0] (bodyOf Tryz.f83)) n0,.block 0,.code (subc [1,1,1,1] (bodyOf Tryz.f83))] .normal st))) []))
theorem Zjw (m n0 : Nat) (Zl : Nat) (Z1b : Int) (Zt : Nat) (Zy : Option Nat) (Z11 : List D) (Zs : Int) (Z1o : Nat) (Z2r : Option Nat) (Z3x : List D) (Z1lc : Int) (Z1mo : Nat) (Z1nv : Nat) (Z1mp : Nat) (Z1mq : Option Nat) (Z1mr : List D) (Z1ms : Nat) (Z1ma : List D) (Z1p0 : List D) : Z4r m n0 Zl Z1b Zt Zy Z11 Zs Z1o Z2r Z3x Z1lc Z1mo Z1nv Z1mp Z1mq Z1mr Z1ms Z1ma Z1p0 =
 (if 0 ≤ Z1lc ∧ Z1lc < (Z1mo : Int) then
 (rdI .i64 Z1ma[(0 + ((Int.toNat Z1lc) * 1))]?).bind fun x71 =>
 cond (decide (x71 > (64 : Int)))
 (some (D.tup [(D.list 0 (some 0) []),(D.v (.int .i64 (12 : Int)))]))
 ((Zgj [(D.agg Z1p0)]).bind fun d72 =>
 (rdI .i64 (some d72)).bind fun x73 =>
 cond (x73 != (0 : Int))
 (some (D.tup [(D.list 0 (some 0) []),(D.v (.int .i64 x73))]))
 (Zf5 m n0 Zl Zt Zy Z11 Zs (IntKind.wrap .i64 (Z1b + (1 : Int))) Z1mp Z1mq Z1mr Z1ms Z1ma))
 else none) := (Z1t m _).trans (by kernel_rfl)
theorem Zjx (m n0 : Nat) (Zl : Nat) (Z1b : Int) (Zt : Nat) (Zy : Option Nat) (Z11 : List D) (Zs : Int) (Z1o : Nat) (Z2r : Option Nat) (Z3x : List D) (Ze6 : Int) (Zvv : Nat) (Zud : Nat) (Zvn : Nat) (Zvo : Option Nat) (Zw7 : List D) (Zyi : Nat) (Z10e : List D) (Z10f : List D) (Z14v : List D) : Z3f m n0 Zl Z1b Zt Zy Z11 Zs Z1o Z2r Z3x Ze6 Zvv Zud Zvn Zvo Zw7 Zyi Z10e Z10f Z14v =
 (cond (decide (Ze6 > (0 : Int)))
 ((rdI .i64 Z14v[0]?).bind fun x69 =>
 if 0 ≤ x69 ∧ x69 < (Zvv : Int) then
 (rdI .i64 Z10e[(0 + ((Int.toNat x69) * 1))]?).bind fun x70 =>
 if 0 ≤ Ze6 ∧ Ze6 < (Zvv : Int) then
 if 1 = 1 ∧ (0 + ((Int.toNat Ze6) * 1)) < Zyi then
 Z4r m n0 Zl Z1b Zt Zy Z11 Zs Z1o Z2r Z3x Ze6 Zvv Zud Zvn Zvo Zw7 Zyi (List.set Z10e (0 + ((Int.toNat Ze6) * 1)) (D.v (.int .i64 (IntKind.wrap .i64 (x70 + (1 : Int)))))) Z10f
 else none
 else none
 else none)
 (Z4r m n0 Zl Z1b Zt Zy Z11 Zs Z1o Z2r Z3x Ze6 Zvv Zud Zvn Zvo Zw7 Zyi Z10e Z10f)) := (Z1t m _).trans (by kernel_rfl)
theorem Z8t (m n0 : Nat) (Zl : Nat) (Z1b : Int) (Zt : Nat) (Zy : Option Nat) (Z11 : List D) (Zs : Int) (Z1o : Nat) (Z2r : Option Nat) (Z3x : List D) (Z8i : Int) (Z9q : Nat) (Z9r : Nat) (Za9 : Nat) (Z80 : Option Nat) (Z8s : List D) (Zf3 : Nat) (Zif : List D) (Zno : List D) (Zso : List D) (Zns : List D) : Z6w m n0 Zl Z1b Zt Zy Z11 Zs Z1o Z2r Z3x Z8i Z9q Z9r Za9 Z80 Z8s Zf3 Zif Zno Zso Zns =
 ((rdI .i64 Zns[0]?).bind fun x66 =>
 (rdI .i64 Zso[0]?).bind fun x67 =>
 cond (x66 == x67)
 ((cellsEq [.int,.int,.int,.int,.int,.int,.int,.int,.int,.int,.int,.int,.int,.int,.int,.int,.int] ((List.drop 1 Zns).take 17) ((List.drop 1 Zso).take 17)).bind fun b68 =>
 cond b68
 (some (D.tup [(D.list 0 (some 0) []),(D.v (.int .i64 (14 : Int)))]))
 (Z3f m n0 Zl Z1b Zt Zy Z11 Zs Z1o Z2r Z3x Z8i Z9q Z9r Za9 Z80 Z8s Zf3 Zif Zno Zso))
 (Z3f m n0 Zl Z1b Zt Zy Z11 Zs Z1o Z2r Z3x Z8i Z9q Z9r Za9 Z80 Z8s Zf3 Zif Zno Zso)) := (Z1t m _).trans (by kernel_rfl)
theorem Zkj (m n0 : Nat) (Zl : Nat) (Z1b : Int) (Zt : Nat) (Zy : Option Nat) (Z11 : List D) (Zs : Int) (Z1o : Nat) (Z2r : Option Nat) (Z3x : List D) (Z2o : Nat) (Z43 : Option Nat) (Z3v : List D) (Z3o : Int) (Z2d : Nat) (Z6d : Nat) (Z7a : Nat) (Zki : Option Nat) (Zp1 : List D) (Z12w : Nat) (Zvw : List D) (Z172 : List D) (Z134 : List D) : Z2n m n0 Zl Z1b Zt Zy Z11 Zs Z1o Z2r Z3x Z2o Z43 Z3v Z3o Z2d Z6d Z7a Zki Zp1 Z12w Zvw Z172 Z134 =
 (cond (decide (Z3o > (1 : Int)))
 (if 0 ≤ (IntKind.wrap .i64 (Z3o - (1 : Int))) ∧ (IntKind.wrap .i64 (Z3o - (1 : Int))) < (Z2o : Int) then
 if (((Int.toNat (IntKind.wrap .i64 (Z3o - (1 : Int)))) * 20) + 20) ≤ (List.length Z3v) then
 if (List.length ((List.drop ((Int.toNat (IntKind.wrap .i64 (Z3o - (1 : Int)))) * 20) Z3v).take 20)) = 20 then
 (rdI .i64 ((List.drop ((Int.toNat (IntKind.wrap .i64 (Z3o - (1 : Int)))) * 20) Z3v).take 20)[0]?).bind fun x60 =>
 (rdI .i64 Z134[0]?).bind fun x61 =>
 cond (decide (x60 > x61))
 (some (D.tup [(D.list 0 (some 0) []),(D.v (.int .i64 (13 : Int)))]))
 ((rdI .i64 ((List.drop ((Int.toNat (IntKind.wrap .i64 (Z3o - (1 : Int)))) * 20) Z3v).take 20)[0]?).bind fun x62 =>
 (rdI .i64 Z134[0]?).bind fun x63 =>
 cond (x62 == x63)
 ((Z7o [(D.agg ((List.drop 1 ((List.drop ((Int.toNat (IntKind.wrap .i64 (Z3o - (1 : Int)))) * 20) Z3v).take 20)).take 17)),(D.agg ((List.drop 1 Z134).take 17))]).bind fun d64 =>
 (rdI .i64 (some d64)).bind fun x65 =>
 cond (decide (x65 > (0 : Int)))
 (some (D.tup [(D.list 0 (some 0) []),(D.v (.int .i64 (13 : Int)))]))
 (Z6w m n0 Zl Z1b Zt Zy Z11 Zs Z1o Z2r Z3x Z3o Z2d Z6d Z7a Zki Zp1 Z12w Zvw Z172 Z134 ((List.drop ((Int.toNat (IntKind.wrap .i64 (Z3o - (1 : Int)))) * 20) Z3v).take 20)))
 (Z6w m n0 Zl Z1b Zt Zy Z11 Zs Z1o Z2r Z3x Z3o Z2d Z6d Z7a Zki Zp1 Z12w Zvw Z172 Z134 ((List.drop ((Int.toNat (IntKind.wrap .i64 (Z3o - (1 : Int)))) * 20) Z3v).take 20)))
 else none
 else none
 else none)
 (Z3f m n0 Zl Z1b Zt Zy Z11 Zs Z1o Z2r Z3x Z3o Z2d Z6d Z7a Zki Zp1 Z12w Zvw Z172 Z134)) := (Z1t m _).trans (by kernel_rfl)
theorem Z10m (m n0 : Nat) (Zl : Nat) (Zt : Nat) (Zy : Option Nat) (Z11 : List D) (Zs : Int) (Z1b : Int) (Z1o : Nat) (Z2r : Option Nat) (Z3x : List D) (Zfh : Nat) (Z5n : List D) : Zf5 m (n0 + 1) Zl Zt Zy Z11 Zs Z1b Z1o Z2r Z3x Zfh Z5n =
 (cond (decide (Z1b < Zs))
 (if 0 ≤ Z1b ∧ Z1b < (Zt : Int) then
 if (((Int.toNat Z1b) * 20) + 20) ≤ (List.length Z11) then
 if (List.length ((List.drop ((Int.toNat Z1b) * 20) Z11).take 20)) = 20 then
 if 0 ≤ Z1b ∧ Z1b < (Z1o : Int) then
 if (((Int.toNat Z1b) * 20) + 20) ≤ (List.length Z3x) then
 if (List.length ((List.drop ((Int.toNat Z1b) * 20) Z3x).take 20)) = 20 then
 cond (Z1b == (0 : Int))
 ((rdI .i64 ((List.drop ((Int.toNat Z1b) * 20) Z3x).take 20)[0]?).bind fun x57 =>
 cond (x57 != (-1 : Int))
 (some (D.tup [(D.list 0 (some 0) []),(D.v (.int .i64 (1 : Int)))]))
 (cond (decide (Z1b > (0 : Int)))
 ((rdI .i64 ((List.drop ((Int.toNat Z1b) * 20) Z3x).take 20)[0]?).bind fun x58 =>
 cond (decide (x58 < (0 : Int)))
 (some (D.tup [(D.list 0 (some 0) []),(D.v (.int .i64 (1 : Int)))]))
 ((rdI .i64 ((List.drop ((Int.toNat Z1b) * 20) Z3x).take 20)[0]?).bind fun x59 =>
 cond (decide (x59 ≥ Z1b))
 (some (D.tup [(D.list 0 (some 0) []),(D.v (.int .i64 (1 : Int)))]))
 (Z2n m n0 Zl Z1b Zt Zy Z11 Zs Z1o Z2r Z3x Z1o Z2r Z3x Z1b Zl Zl Z1o Z2r Z3x Zfh Z5n ((List.drop ((Int.toNat Z1b) * 20) Z11).take 20) ((List.drop ((Int.toNat Z1b) * 20) Z3x).take 20))))
 (Z2n m n0 Zl Z1b Zt Zy Z11 Zs Z1o Z2r Z3x Z1o Z2r Z3x Z1b Zl Zl Z1o Z2r Z3x Zfh Z5n ((List.drop ((Int.toNat Z1b) * 20) Z11).take 20) ((List.drop ((Int.toNat Z1b) * 20) Z3x).take 20))))
 (cond (decide (Z1b > (0 : Int)))
 ((rdI .i64 ((List.drop ((Int.toNat Z1b) * 20) Z3x).take 20)[0]?).bind fun x74 =>
 cond (decide (x74 < (0 : Int)))
 (some (D.tup [(D.list 0 (some 0) []),(D.v (.int .i64 (1 : Int)))]))
 ((rdI .i64 ((List.drop ((Int.toNat Z1b) * 20) Z3x).take 20)[0]?).bind fun x75 =>
 cond (decide (x75 ≥ Z1b))
 (some (D.tup [(D.list 0 (some 0) []),(D.v (.int .i64 (1 : Int)))]))
 (Z2n m n0 Zl Z1b Zt Zy Z11 Zs Z1o Z2r Z3x Z1o Z2r Z3x Z1b Zl Zl Z1o Z2r Z3x Zfh Z5n ((List.drop ((Int.toNat Z1b) * 20) Z11).take 20) ((List.drop ((Int.toNat Z1b) * 20) Z3x).take 20))))
 (Z2n m n0 Zl Z1b Zt Zy Z11 Zs Z1o Z2r Z3x Z1o Z2r Z3x Z1b Zl Zl Z1o Z2r Z3x Zfh Z5n ((List.drop ((Int.toNat Z1b) * 20) Z11).take 20) ((List.drop ((Int.toNat Z1b) * 20) Z3x).take 20)))
 else none
 else none
 else none
 else none
 else none
 else none)
 (if (0 + (Zl * 1)) ≤ Zfh then
 some (D.tup [(D.list Zl (some Zl) (cutL Zfh Z5n 0 (Zl * 1))),zI])
 else none)) := by kernel_rfl
noncomputable def Zjy (m : Nat) (a0_0n : Nat) (a0_0c : Option Nat) (a0_0 : List D) : Option D :=
 cond (decide ((a0_0n : Int) > (65536 : Int)))
 (some (D.tup [(D.list 0 (some 0) []),(D.v (.int .i64 (3 : Int)))]))
 (if 0 ≤ (a0_0n : Int) ∧ (a0_0n : Int) ≤ (a0_0n : Int) ∧ Z1w (Int.toNat (a0_0n : Int)) 8 then
 Zf5 m m (Int.toNat (a0_0n : Int)) a0_0n a0_0c a0_0 (a0_0n : Int) (0 : Int) a0_0n a0_0c a0_0 ((Int.toNat (a0_0n : Int)) * 1) (List.flatten (List.replicate (Int.toNat (a0_0n : Int)) [zI]))
 else none)
theorem Z135 (m : Nat) (a0_0n : Nat) (a0_0c : Option Nat) (a0_0 : List D) : funD Tg Ze m 4 Z1m Tryz.f83 [(D.agg [(D.list a0_0n a0_0c a0_0)])] = Zjy m a0_0n a0_0c a0_0 := by kernel_rfl
theorem Z173 : Enters Tg 83 := ⟨Tryz.f83,Tryz.func83,by kernel_rfl,by kernel_rfl⟩
theorem Z174 {ds : List D} {d : D} (h : funD Tg Ze M 4 Z1m Tryz.f83 ds = some d) : DataSem Tg 83 ds d := Z8 (H := Ze) (SpOk.cons Z1bx (SpOk.cons Zxi SpOk.nil)) mixed (InlOk.cons Tryz.func108 Z1b2 InlOk.nil) Tryz.func83 Z173 h
noncomputable def Zbg : List D → Option D
  | [.agg [.list a0_0n a0_0c a0_0]] => Zjy M a0_0n a0_0c a0_0
  | _ => none
theorem Z175 : ∀ ds d,Zbg ds = some d → DataSem Tg 83 ds d := by
  intro ds d h
  unfold Zbg at h
  split at h
  · exact Z174 ((Z135 M _ _ _).trans h)
  · cases h

def Zec : FnH := ⟨[],[]⟩
noncomputable def Zum : Hints := ⟨[(83,Zbg)],[],[]⟩
noncomputable def Zp7 (m : Nat) (a0_0n : Nat) (a0_0c : Option Nat) (a0_0 : List D) : Option D :=
 (Zbg [(D.agg [(D.list a0_0n a0_0c a0_0)])]).bind fun d1 =>
 (rdT d1).bind fun r2 =>
 if List.length r2 = 2 then
 (rdL r2[0]?).bind fun q3 =>
 (rdI .i64 r2[1]?).bind fun x4 =>
 some (D.v (.int .i64 x4))
 else none
theorem Z176 (m : Nat) (a0_0n : Nat) (a0_0c : Option Nat) (a0_0 : List D) : funD Tg Zum m 4 Zec Tryz.f60 [(D.agg [(D.list a0_0n a0_0c a0_0)])] = Zp7 m a0_0n a0_0c a0_0 := by kernel_rfl
theorem Z1by : Enters Tg 60 := ⟨Tryz.f60,Tryz.func60,by kernel_rfl,by kernel_rfl⟩
theorem Z1bz {ds : List D} {d : D} (h : funD Tg Zum M 4 Zec Tryz.f60 ds = some d) : DataSem Tg 60 ds d := Z8 (H := Zum) (SpOk.cons Z175 SpOk.nil) mixed InlOk.nil Tryz.func60 Z1by h
noncomputable def Z2y : List D → Option D
  | [.agg [.list a0_0n a0_0c a0_0]] => Zp7 M a0_0n a0_0c a0_0
  | _ => none
theorem Zbl : ∀ ds d,Z2y ds = some d → DataSem Tg 60 ds d := by
  intro ds d h
  unfold Z2y at h
  split at h
  · exact Z1bz ((Z176 M _ _ _).trans h)
  · cases h

def Z4t : FnH := ⟨[],[]⟩
noncomputable def Z9l : Hints := ⟨[],[],[]⟩
noncomputable def Z76 (m : Nat) (a0n : Nat) (a0c : Option Nat) (a0 : List D) : Option D :=
 cond ((a0n : Int) == (0 : Int))
 (some (D.list 0 (some 0) []))
 (if 0 ≤ (a0n : Int) ∧ (a0n : Int) ≤ (a0n : Int) ∧ Z1w (Int.toNat (a0n : Int)) 128 then
 if (List.length a0) = (a0n * 20) then
 if (0 + ((Int.toNat (a0n : Int)) * 20)) ≤ ((Int.toNat (a0n : Int)) * 20) ∧ (List.length a0) = (a0n * 20) then
 if (0 + ((Int.toNat (a0n : Int)) * 20)) ≤ ((Int.toNat (a0n : Int)) * 20) then
 some (D.list (Int.toNat (a0n : Int)) (some (Int.toNat (a0n : Int))) (cutL ((Int.toNat (a0n : Int)) * 20) (List.take 0 (List.flatten (List.replicate (Int.toNat (a0n : Int)) [zI,(D.v (.int .u8 (0 : Int))),zU,zU,zU,zU,zU,zU,zU,zU,zU,zU,zU,zU,zU,zU,zU,zU,(D.list 0 (some 0) []),(D.list 0 (some 0) [])])) ++ (List.take ((Nat.min a0n (Int.toNat (a0n : Int))) * 20) a0 ++ List.drop (0 + ((Nat.min a0n (Int.toNat (a0n : Int))) * 20)) (List.flatten (List.replicate (Int.toNat (a0n : Int)) [zI,(D.v (.int .u8 (0 : Int))),zU,zU,zU,zU,zU,zU,zU,zU,zU,zU,zU,zU,zU,zU,zU,zU,(D.list 0 (some 0) []),(D.list 0 (some 0) [])])))) 0 ((Int.toNat (a0n : Int)) * 20)))
 else none
 else none
 else none
 else none)
theorem Zqd (m : Nat) (a0n : Nat) (a0c : Option Nat) (a0 : List D) : funD Tg Z9l m 4 Z4t Tryz.f88 [(D.list a0n a0c a0)] = Z76 m a0n a0c a0 := by kernel_rfl
theorem Zsf : Enters Tg 88 := ⟨Tryz.f88,Tryz.func88,by kernel_rfl,by kernel_rfl⟩
theorem Zsg {ds : List D} {d : D} (h : funD Tg Z9l M 4 Z4t Tryz.f88 ds = some d) : DataSem Tg 88 ds d := Z8 (H := Z9l) SpOk.nil mixed InlOk.nil Tryz.func88 Zsf h
noncomputable def Z51 : List D → Option D
  | [.list a0n a0c a0] => Z76 M a0n a0c a0
  | _ => none
theorem Zsh : ∀ ds d,Z51 ds = some d → DataSem Tg 88 ds d := by
  intro ds d h
  unfold Z51 at h
  split at h
  · exact Zsg ((Zqd M _ _ _).trans h)
  · cases h

def Zw : FnH := ⟨[(6,⟨(bm 117440660 97),[],(some 3)⟩),(15,⟨(bm 3940649673952400 97),[(11,20)],(some 5)⟩)],[(10,⟨(bm 117441172 97),[],(some 3)⟩),(19,⟨(bm 3940649673964688 97),[],(some 6)⟩),(23,⟨(bm 3940649673960592 97),[],(some 6)⟩)]⟩
noncomputable def Z1d : Hints := ⟨[(60,Z2y),(86,Zeb),(88,Z51)],[],[]⟩
noncomputable def Zgz (m n0 : Nat) (Zl : Nat) (Zt : Nat) (Zy : Nat) (Z11 : Option Nat) (Zs : List D) (Z1b : Int) (Z1o : Int) (Z2r : Nat) (Z3x : Option Nat) (Zfh : List D) (Z5n : Nat) (Z5e : List D) : Option D :=
 Z15 (bm 117440660 97) 0 3 (codeK Tg Z1d.sp ⟨0,[],false,[]⟩ (inlK Tg Z1d m 4) m Zw (subc [1,1,1,0,1,0,0] (bodyOf Tryz.f50))) n0 ⟨[Jk,Jk,(AV.ptr 0 0),Jk,(AV.ptr 1 0),Jk,Jk,(AV.sl 2 0 Zl (some Zt) 1),Jk,Jk,Jk,Jk,Jk,Jk,Jk,Jk,Jk,Jk,Jk,Jk,Jk,Jk,Jk,Jk,(AV.d (D.list Zy Z11 Zs)),(AV.d (D.v (.int .i64 Z1b))),(AV.d (D.v (.int .i64 Z1o))),Jk,Jk,Jk,Jk,Jk,Jk,Jk,Jk,Jk,Jk,Jk,Jk,Jk,Jk,Jk,Jk,Jk,Jk,Jk,Jk,Jk,Jk,Jk,Jk,Jk,Jk,Jk,Jk,Jk,Jk,Jk,Jk,Jk,Jk,Jk,Jk,Jk,Jk,Jk,Jk,Jk,Jk,Jk,Jk,Jk,Jk,Jk,Jk,Jk,Jk,Jk,Jk,Jk,Jk,Jk,Jk,Jk,Jk,Jk,Jk,Jk,Jk,Jk,Jk,Jk,Jk,Jk,Jk,Jk,Jk],[(Blk.d 1 [(D.list Z2r Z3x Zfh)]),(Blk.d 1 [(D.list 0 (some 0) [])]),(Blk.d Z5n Z5e)]⟩
  (contK Tg Z1d.sp ⟨0,[],false,[]⟩ (inlK Tg Z1d m 4) m Zw (endK Tg Tryz.f50 (fun v L => viewK L 8 v some)) [.block 0,.code (subc [1,1,1,1] (bodyOf Tryz.f50))])
noncomputable def Zrs (m n0 : Nat) (Z2o : Nat) (Z43 : Nat) (Z3v : Int) (Z3o : Nat) (Z2d : Option Nat) (Z6d : List D) (Z7a : Int) (Zki : Int) (Zp1 : Nat) (Z12w : Option Nat) (Zvw : List D) (Z172 : Nat) (Z134 : List D) : Option D :=
 cutK m (codeK Tg Z1d.sp ⟨0,[],false,[]⟩ (inlK Tg Z1d m 4) m Zw (subc [1,1,1,0,1,0,0,1,1,0,0,1,1] (bodyOf Tryz.f50)) ⟨[Jk,Jk,(AV.ptr 0 0),Jk,(AV.ptr 1 0),Jk,Jk,(AV.sl 2 0 Z2o (some Z43) 1),Jk,(AV.d (D.v (.int .i64 Z3v))),Jk,Jk,Jk,Jk,Jk,Jk,Jk,Jk,Jk,Jk,Jk,Jk,Jk,Jk,(AV.d (D.list Z3o Z2d Z6d)),(AV.d (D.v (.int .i64 Z7a))),(AV.d (D.v (.int .i64 Zki))),Jk,Jk,Jk,Jk,Jk,Jk,Jk,Jk,Jk,Jk,Jk,Jk,Jk,Jk,Jk,Jk,Jk,Jk,Jk,Jk,Jk,Jk,Jk,Jk,Jk,Jk,Jk,Jk,Jk,Jk,Jk,Jk,Jk,Jk,Jk,Jk,Jk,Jk,Jk,Jk,Jk,Jk,Jk,Jk,Jk,Jk,Jk,Jk,Jk,Jk,Jk,Jk,Jk,Jk,Jk,Jk,Jk,Jk,Jk,Jk,Jk,Jk,Jk,Jk,Jk,Jk,Jk,Jk,Jk,Jk],[(Blk.d 1 [(D.list Zp1 Z12w Zvw)]),(Blk.d 1 [(D.list 0 (some 0) [])]),(Blk.d Z172 Z134)]⟩
  (contK Tg Z1d.sp ⟨0,[],false,[]⟩ (inlK Tg Z1d m 4) m Zw (endK Tg Tryz.f50 (fun v L => viewK L 8 v some)) [.block 1,.code (subc [1,1,1,0,1,0,0,1,1,1] (bodyOf Tryz.f50)),.loop (bm 117440660 97) 3 (subc [1,1,1,0,1,0,0] (bodyOf Tryz.f50)) n0,.block 0,.code (subc [1,1,1,1] (bodyOf Tryz.f50))]))
theorem Zyw (m n0 : Nat) (Z2o : Nat) (Z43 : Nat) (Z3v : Int) (Z3o : Nat) (Z2d : Option Nat) (Z6d : List D) (Z7a : Int) (Zki : Int) (Zp1 : Nat) (Z12w : Option Nat) (Zvw : List D) (Z172 : Nat) (Z134 : List D) : Zrs m n0 Z2o Z43 Z3v Z3o Z2d Z6d Z7a Zki Zp1 Z12w Zvw Z172 Z134 =
 (if 0 ≤ Z3v ∧ Z3v < (Z2o : Int) then
 if 1 = 1 ∧ (0 + ((Int.toNat Z3v) * 1)) < Z172 then
 Zgz m n0 Z2o Z43 Z3o Z2d Z6d Z7a (IntKind.wrap .i64 (Zki + (1 : Int))) Zp1 Z12w Zvw Z172 (List.set Z134 (0 + ((Int.toNat Z3v) * 1)) (D.v (.bool true)))
 else none
 else none) := (Z1t m _).trans (by kernel_rfl)
noncomputable def Z6b (m n0 : Nat) (Z44 : Nat) (Z7b : Nat) (Z5a : Nat) (Z6f : Nat) (Z5b : Nat) (Z62 : Nat) (Z4q : Option Nat) (Z54 : List D) (Z5c : Int) (Z5d : Int) (Z3n : Nat) (Z3l : Option Nat) (Z36 : List D) (Z49 : Nat) (Z1i : List D) (Z4e : Nat) (Z55 : List D) (Z6g : Nat) (Z60 : List D) : Option D :=
 Z15 (bm 3940649673952400 97) 0 5 (codeK Tg Z1d.sp ⟨0,[],false,[]⟩ (inlK Tg Z1d m 4) m Zw (subc [1,1,1,1,1,1,0,1,0,0] (bodyOf Tryz.f50))) n0 ⟨[Jk,Jk,Jk,Jk,(AV.ptr 1 0),Jk,Jk,(AV.sl 2 0 Z44 (some Z7b) 1),Jk,Jk,(AV.sl 3 0 Z5a (some Z6f) 1),(AV.sl 4 0 Z5b none 20),Jk,Jk,Jk,Jk,Jk,Jk,Jk,Jk,Jk,Jk,Jk,Jk,Jk,Jk,Jk,Jk,Jk,Jk,Jk,Jk,Jk,Jk,Jk,Jk,Jk,Jk,Jk,Jk,Jk,Jk,Jk,Jk,Jk,Jk,Jk,Jk,Jk,(AV.d (D.list Z62 Z4q Z54)),(AV.d (D.v (.int .i64 Z5c))),(AV.d (D.v (.int .i64 Z5d))),Jk,Jk,Jk,Jk,Jk,Jk,Jk,Jk,Jk,Jk,Jk,Jk,Jk,Jk,Jk,Jk,Jk,Jk,Jk,Jk,Jk,Jk,Jk,Jk,Jk,Jk,Jk,Jk,Jk,Jk,Jk,Jk,Jk,Jk,Jk,Jk,Jk,Jk,Jk,Jk,Jk,Jk,Jk,Jk,Jk],[(Blk.d 1 [(D.list Z3n Z3l Z36)]),(Blk.d 1 [(D.list 0 (some 0) [])]),(Blk.d Z49 Z1i),(Blk.d Z4e Z55),(Blk.d Z6g Z60)]⟩
  (contK Tg Z1d.sp ⟨0,[],false,[]⟩ (inlK Tg Z1d m 4) m Zw (endK Tg Tryz.f50 (fun v L => viewK L 8 v some)) [.block 2,.code (subc [1,1,1,1,1,1,1] (bodyOf Tryz.f50))])
noncomputable def Zc8 (m n0 : Nat) (Z8i : Nat) (Z9q : Nat) (Z9r : Nat) (Za9 : Nat) (Z80 : Nat) (Z8s : Int) (Zf3 : Nat) (Zif : Option Nat) (Zno : List D) (Zso : Int) (Zns : Int) (Zun : Nat) (Z10n : Option Nat) (Z10o : List D) (Z10p : Nat) (Z10q : List D) (Zyx : Nat) (Zyy : List D) (Z10r : Nat) (Z10s : List D) (Z136 : List D) : Option D :=
 cutK m (codeK Tg Z1d.sp ⟨0,[],false,[]⟩ (inlK Tg Z1d m 4) m Zw (subc [1,1,1,1,1,1,0,1,0,0,1,1,0,0,1,1] (bodyOf Tryz.f50)) ⟨[Jk,Jk,Jk,Jk,(AV.ptr 1 0),Jk,Jk,(AV.sl 2 0 Z8i (some Z9q) 1),Jk,Jk,(AV.sl 3 0 Z9r (some Za9) 1),(AV.sl 4 0 Z80 none 20),(AV.d (D.v (.int .i64 Z8s))),(AV.ptr 5 0),Jk,Jk,Jk,Jk,Jk,Jk,Jk,Jk,Jk,Jk,Jk,Jk,Jk,Jk,Jk,Jk,Jk,Jk,Jk,Jk,Jk,Jk,Jk,Jk,Jk,Jk,Jk,Jk,Jk,Jk,Jk,Jk,Jk,Jk,Jk,(AV.d (D.list Zf3 Zif Zno)),(AV.d (D.v (.int .i64 Zso))),(AV.d (D.v (.int .i64 Zns))),Jk,Jk,Jk,Jk,Jk,Jk,Jk,Jk,Jk,Jk,Jk,Jk,Jk,Jk,Jk,Jk,Jk,Jk,Jk,Jk,Jk,Jk,Jk,Jk,Jk,Jk,Jk,Jk,Jk,Jk,Jk,Jk,Jk,Jk,Jk,Jk,Jk,Jk,Jk,Jk,Jk,Jk,Jk,Jk,Jk],[(Blk.d 1 [(D.list Zun Z10n Z10o)]),(Blk.d 1 [(D.list 0 (some 0) [])]),(Blk.d Z10p Z10q),(Blk.d Zyx Zyy),(Blk.d Z10r Z10s),(Blk.d 20 Z136)]⟩
  (contK Tg Z1d.sp ⟨0,[],false,[]⟩ (inlK Tg Z1d m 4) m Zw (endK Tg Tryz.f50 (fun v L => viewK L 8 v some)) [.block 3,.code (subc [1,1,1,1,1,1,0,1,0,0,1,1,1] (bodyOf Tryz.f50)),.loop (bm 3940649673952400 97) 5 (subc [1,1,1,1,1,1,0,1,0,0] (bodyOf Tryz.f50)) n0,.block 2,.code (subc [1,1,1,1,1,1,1] (bodyOf Tryz.f50))]))
noncomputable def Zc9 (m n0 : Nat) (Ze6 : Nat) (Zvv : Nat) (Zud : Nat) (Zvn : Nat) (Zvo : Nat) (Zw7 : Nat) (Zyi : Option Nat) (Z10e : List D) (Z10f : Int) (Z14v : Int) (Zyz : Nat) (Z10t : Option Nat) (Z10u : List D) (Z10v : Nat) (Z137 : List D) (Z10w : Nat) (Z10x : List D) (Z10y : Nat) (Z138 : List D) (Zuo : List D) : Option D :=
 cutK m (codeK Tg Z1d.sp ⟨0,[],false,[]⟩ (inlK Tg Z1d m 4) m Zw (subc [1,1,1,1,1,1,0,1,0,0,1,1,0,0,1,1,1,1,1] (bodyOf Tryz.f50)) ⟨[Jk,Jk,Jk,Jk,(AV.ptr 1 0),Jk,Jk,(AV.sl 2 0 Ze6 (some Zvv) 1),Jk,Jk,(AV.sl 3 0 Zud (some Zvn) 1),(AV.sl 4 0 Zvo none 20),Jk,(AV.ptr 5 0),Jk,Jk,Jk,Jk,Jk,Jk,Jk,Jk,Jk,Jk,Jk,Jk,Jk,Jk,Jk,Jk,Jk,Jk,Jk,Jk,Jk,Jk,Jk,Jk,Jk,Jk,Jk,Jk,Jk,Jk,Jk,Jk,Jk,Jk,Jk,(AV.d (D.list Zw7 Zyi Z10e)),(AV.d (D.v (.int .i64 Z10f))),(AV.d (D.v (.int .i64 Z14v))),Jk,Jk,Jk,Jk,Jk,Jk,Jk,Jk,Jk,Jk,Jk,Jk,Jk,Jk,Jk,Jk,Jk,Jk,Jk,Jk,Jk,Jk,Jk,Jk,Jk,Jk,Jk,Jk,Jk,Jk,Jk,Jk,Jk,Jk,Jk,Jk,Jk,Jk,Jk,Jk,Jk,Jk,Jk,Jk,Jk],[(Blk.d 1 [(D.list Zyz Z10t Z10u)]),(Blk.d 1 [(D.list 0 (some 0) [])]),(Blk.d Z10v Z137),(Blk.d Z10w Z10x),(Blk.d Z10y Z138),(Blk.d 20 Zuo)]⟩
  (contK Tg Z1d.sp ⟨0,[],false,[]⟩ (inlK Tg Z1d m 4) m Zw (endK Tg Tryz.f50 (fun v L => viewK L 8 v some)) [.block 3,.code (subc [1,1,1,1,1,1,0,1,0,0,1,1,1] (bodyOf Tryz.f50)),.loop (bm 3940649673952400 97) 5 (subc [1,1,1,1,1,1,0,1,0,0] (bodyOf Tryz.f50)) n0,.block 2,.code (subc [1,1,1,1,1,1,1] (bodyOf Tryz.f50))]))
theorem Zz0 (m n0 : Nat) (Ze6 : Nat) (Zvv : Nat) (Zud : Nat) (Zvn : Nat) (Zvo : Nat) (Zw7 : Nat) (Zyi : Option Nat) (Z10e : List D) (Z10f : Int) (Z14v : Int) (Zyz : Nat) (Z10t : Option Nat) (Z10u : List D) (Z10v : Nat) (Z137 : List D) (Z10w : Nat) (Z10x : List D) (Z10y : Nat) (Z138 : List D) (Zuo : List D) : Zc9 m n0 Ze6 Zvv Zud Zvn Zvo Zw7 Zyi Z10e Z10f Z14v Zyz Z10t Z10u Z10v Z137 Z10w Z10x Z10y Z138 Zuo =
 (if (List.length Zuo) = 20 then
 if ownB ⟨0,[],false,[]⟩ 4 = true ∧ Z10y = (Zvo * 20) ∧ Z1w (Zvo + 1) 128 ∧ (List.length Zuo) = 20 then
 Z6b m n0 Ze6 Zvv Zud Zvn (Zvo + 1) Zw7 Zyi Z10e Z10f (IntKind.wrap .i64 (Z14v + (1 : Int))) Zyz Z10t Z10u Z10v Z137 Z10w Z10x ((Zvo + 1) * 20) (Z138 ++ Zuo)
 else none
 else none) := (Z1t m _).trans (by kernel_rfl)
theorem Zz1 (m n0 : Nat) (Z8i : Nat) (Z9q : Nat) (Z9r : Nat) (Za9 : Nat) (Z80 : Nat) (Z8s : Int) (Zf3 : Nat) (Zif : Option Nat) (Zno : List D) (Zso : Int) (Zns : Int) (Zun : Nat) (Z10n : Option Nat) (Z10o : List D) (Z10p : Nat) (Z10q : List D) (Zyx : Nat) (Zyy : List D) (Z10r : Nat) (Z10s : List D) (Z136 : List D) : Zc8 m n0 Z8i Z9q Z9r Za9 Z80 Z8s Zf3 Zif Zno Zso Zns Zun Z10n Z10o Z10p Z10q Zyx Zyy Z10r Z10s Z136 =
 (if 0 ≤ Z8s ∧ Z8s < (Z9r : Int) then
 if 1 = 1 ∧ (0 + ((Int.toNat Z8s) * 1)) < Zyx then
 (Zeb [(D.agg Z136)]).bind fun d21 =>
 (rdA (some d21)).bind fun c22 =>
 if (List.length c22) = 20 then
 cond (decide (Z8s > (0 : Int)))
 ((rdI .i64 c22[0]?).bind fun x23 =>
 if 0 ≤ x23 ∧ x23 < (Z9r : Int) then
 (rdI .i64 (List.set Zyy (0 + ((Int.toNat Z8s) * 1)) (D.v (.int .i64 (Z80 : Int))))[(0 + ((Int.toNat x23) * 1))]?).bind fun x24 =>
 Zc9 m n0 Z8i Z9q Z9r Za9 Z80 Zf3 Zif Zno Zso Zns Zun Z10n Z10o Z10p Z10q Zyx (List.set Zyy (0 + ((Int.toNat Z8s) * 1)) (D.v (.int .i64 (Z80 : Int)))) Z10r Z10s (List.set c22 0 (D.v (.int .i64 x24)))
 else none)
 (Zc9 m n0 Z8i Z9q Z9r Za9 Z80 Zf3 Zif Zno Zso Zns Zun Z10n Z10o Z10p Z10q Zyx (List.set Zyy (0 + ((Int.toNat Z8s) * 1)) (D.v (.int .i64 (Z80 : Int)))) Z10r Z10s c22)
 else none
 else none
 else none) := (Z1t m _).trans (by kernel_rfl)
theorem Z10z (m n0 : Nat) (Z44 : Nat) (Z7b : Nat) (Z5a : Nat) (Z6f : Nat) (Z5b : Nat) (Z62 : Nat) (Z4q : Option Nat) (Z54 : List D) (Z5c : Int) (Z5d : Int) (Z3n : Nat) (Z3l : Option Nat) (Z36 : List D) (Z49 : Nat) (Z1i : List D) (Z4e : Nat) (Z55 : List D) (Z6g : Nat) (Z60 : List D) : Z6b m (n0 + 1) Z44 Z7b Z5a Z6f Z5b Z62 Z4q Z54 Z5c Z5d Z3n Z3l Z36 Z49 Z1i Z4e Z55 Z6g Z60 =
 (cond (decide (Z5d < Z5c))
 (if 0 ≤ Z5d ∧ Z5d < (Z62 : Int) then
 if (((Int.toNat Z5d) * 20) + 20) ≤ (List.length Z54) then
 if (List.length ((List.drop ((Int.toNat Z5d) * 20) Z54).take 20)) = 20 then
 if 0 ≤ Z5d ∧ Z5d < (Z44 : Int) then
 (rdB Z1i[(0 + ((Int.toNat Z5d) * 1))]?).bind fun b18 =>
 cond b18
 (if 0 ≤ Z5d ∧ Z5d < (Z44 : Int) then
 if 1 = 1 ∧ (0 + ((Int.toNat Z5d) * 1)) < Z49 then
 Z6b m n0 Z44 Z7b Z5a Z6f Z5b Z62 Z4q Z54 Z5c (IntKind.wrap .i64 (Z5d + (1 : Int))) Z3n Z3l Z36 Z49 (List.set Z1i (0 + ((Int.toNat Z5d) * 1)) (D.v (.bool true))) Z4e Z55 Z6g Z60
 else none
 else none)
 (cond (decide (Z5d > (0 : Int)))
 ((rdI .i64 ((List.drop ((Int.toNat Z5d) * 20) Z54).take 20)[0]?).bind fun x19 =>
 if 0 ≤ x19 ∧ x19 < (Z44 : Int) then
 (rdB Z1i[(0 + ((Int.toNat x19) * 1))]?).bind fun b20 =>
 cond b20
 (if 0 ≤ Z5d ∧ Z5d < (Z44 : Int) then
 if 1 = 1 ∧ (0 + ((Int.toNat Z5d) * 1)) < Z49 then
 Z6b m n0 Z44 Z7b Z5a Z6f Z5b Z62 Z4q Z54 Z5c (IntKind.wrap .i64 (Z5d + (1 : Int))) Z3n Z3l Z36 Z49 (List.set Z1i (0 + ((Int.toNat Z5d) * 1)) (D.v (.bool true))) Z4e Z55 Z6g Z60
 else none
 else none)
 (Zc8 m n0 Z44 Z7b Z5a Z6f Z5b Z5d Z62 Z4q Z54 Z5c Z5d Z3n Z3l Z36 Z49 Z1i Z4e Z55 Z6g Z60 ((List.drop ((Int.toNat Z5d) * 20) Z54).take 20))
 else none)
 (Zc8 m n0 Z44 Z7b Z5a Z6f Z5b Z5d Z62 Z4q Z54 Z5c Z5d Z3n Z3l Z36 Z49 Z1i Z4e Z55 Z6g Z60 ((List.drop ((Int.toNat Z5d) * 20) Z54).take 20)))
 else none
 else none
 else none
 else none)
 (if (0 + (Z5b * 20)) ≤ Z6g then
 (Z51 [(D.list Z5b none (cutL Z6g Z60 0 (Z5b * 20)))]).bind fun d25 =>
 (rdL (some d25)).bind fun q26 =>
 if (0 + (Z5b * 20)) ≤ Z6g then
 if (0 + (Z5b * 20)) ≤ Z6g then
 some (D.tup [(D.agg [(D.list q26.n q26.cap q26.cs)]),zI])
 else none
 else none
 else none)) := by kernel_rfl
theorem Z139 (m n0 : Nat) (Zl : Nat) (Zt : Nat) (Zy : Nat) (Z11 : Option Nat) (Zs : List D) (Z1b : Int) (Z1o : Int) (Z2r : Nat) (Z3x : Option Nat) (Zfh : List D) (Z5n : Nat) (Z5e : List D) : Zgz m (n0 + 1) Zl Zt Zy Z11 Zs Z1b Z1o Z2r Z3x Zfh Z5n Z5e =
 (cond (decide (Z1o < Z1b))
 (if 0 ≤ Z1o ∧ Z1o < (Zy : Int) then
 (rdI .i64 Zs[((Int.toNat Z1o) * 1)]?).bind fun x5 =>
 cond (decide (x5 < (0 : Int)))
 (some (D.tup [(D.agg [(D.list 0 (some 0) [])]),(D.v (.int .i64 (19 : Int)))]))
 (cond (decide (x5 ≥ (Z2r : Int)))
 (some (D.tup [(D.agg [(D.list 0 (some 0) [])]),(D.v (.int .i64 (19 : Int)))]))
 (Zrs m n0 Zl Zt x5 Zy Z11 Zs Z1b Z1o Z2r Z3x Zfh Z5n Z5e))
 else none)
 (if 0 ≤ (Z2r : Int) ∧ (Z2r : Int) ≤ (Z2r : Int) ∧ Z1w (Int.toNat (Z2r : Int)) 8 then
 Z6b m m Zl Zt (Int.toNat (Z2r : Int)) (Int.toNat (Z2r : Int)) 0 Z2r Z3x Zfh (Z2r : Int) (0 : Int) Z2r Z3x Zfh Z5n Z5e ((Int.toNat (Z2r : Int)) * 1) (List.flatten (List.replicate (Int.toNat (Z2r : Int)) [zI])) 0 []
 else none)) := by kernel_rfl
noncomputable def Zlw (m : Nat) (a0_0n : Nat) (a0_0c : Option Nat) (a0_0 : List D) (a1n : Nat) (a1c : Option Nat) (a1 : List D) : Option D :=
 (Z2y [(D.agg [(D.list a0_0n a0_0c a0_0)])]).bind fun d1 =>
 (rdI .i64 (some d1)).bind fun x2 =>
 cond (x2 != (0 : Int))
 (some (D.tup [(D.agg [(D.list 0 (some 0) [])]),(D.v (.int .i64 x2))]))
 (if 0 ≤ (a0_0n : Int) ∧ (a0_0n : Int) ≤ (a0_0n : Int) ∧ Z1w (Int.toNat (a0_0n : Int)) 1 then
 Zgz m m (Int.toNat (a0_0n : Int)) (Int.toNat (a0_0n : Int)) a1n a1c a1 (a1n : Int) (0 : Int) a0_0n a0_0c a0_0 ((Int.toNat (a0_0n : Int)) * 1) (List.flatten (List.replicate (Int.toNat (a0_0n : Int)) [(D.v (.bool false))]))
 else none)
theorem Z155 (m : Nat) (a0_0n : Nat) (a0_0c : Option Nat) (a0_0 : List D) (a1n : Nat) (a1c : Option Nat) (a1 : List D) : funD Tg Z1d m 4 Zw Tryz.f50 [(D.agg [(D.list a0_0n a0_0c a0_0)]),(D.list a1n a1c a1)] = Zlw m a0_0n a0_0c a0_0 a1n a1c a1 := by kernel_rfl
theorem Z1a0 : Enters Tg 50 := ⟨Tryz.f50,Tryz.func50,by kernel_rfl,by kernel_rfl⟩
theorem Z1a1 {ds : List D} {d : D} (h : funD Tg Z1d M 4 Zw Tryz.f50 ds = some d) : DataSem Tg 50 ds d := Z8 (H := Z1d) (SpOk.cons Zbl (SpOk.cons Z19z (SpOk.cons Zsh SpOk.nil))) mixed InlOk.nil Tryz.func50 Z1a0 h
noncomputable def Z2e : List D → Option D
  | [.agg [.list a0_0n a0_0c a0_0],.list a1n a1c a1] => Zlw M a0_0n a0_0c a0_0 a1n a1c a1
  | _ => none
theorem Zqe : ∀ ds d,Z2e ds = some d → DataSem Tg 50 ds d := by
  intro ds d h
  unfold Z2e at h
  split at h
  · exact Z1a1 ((Z155 M _ _ _ _ _ _).trans h)
  · cases h

def Zgk : FnH := ⟨[],[]⟩
noncomputable def Zxt : Hints := ⟨[],[],[]⟩
noncomputable def Z166 (m : Nat) (a0_0n : Nat) (a0_0c : Option Nat) (a0_0 : List D) : Option D :=
 some (D.v (.int .i64 (a0_0n : Int)))
theorem Z1a2 (m : Nat) (a0_0n : Nat) (a0_0c : Option Nat) (a0_0 : List D) : funD Tg Zxt m 4 Zgk Tryz.f36 [(D.agg [(D.list a0_0n a0_0c a0_0)])] = Z166 m a0_0n a0_0c a0_0 := by kernel_rfl
theorem Z1el : Enters Tg 36 := ⟨Tryz.f36,Tryz.func36,by kernel_rfl,by kernel_rfl⟩
theorem Z1em {ds : List D} {d : D} (h : funD Tg Zxt M 4 Zgk Tryz.f36 ds = some d) : DataSem Tg 36 ds d := Z8 (H := Zxt) SpOk.nil mixed InlOk.nil Tryz.func36 Z1el h
noncomputable def Z5p : List D → Option D
  | [.agg [.list a0_0n a0_0c a0_0]] => Z166 M a0_0n a0_0c a0_0
  | _ => none
theorem Z1en : ∀ ds d,Z5p ds = some d → DataSem Tg 36 ds d := by
  intro ds d h
  unfold Z5p at h
  split at h
  · exact Z1em ((Z1a2 M _ _ _).trans h)
  · cases h

end Go.Ev
