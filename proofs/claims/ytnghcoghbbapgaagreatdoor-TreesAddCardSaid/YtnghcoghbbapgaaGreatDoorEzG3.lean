/- Functions of the given program in plain form,printed: each with the proof that it is what the evaluator comes to,and that the program function returns what it says. No conditions. -/
import Derived.Test.YtnghcoghbbapgaaGreatDoorEzG7
set_option linter.unusedVariables false
set_option maxRecDepth 100000
namespace Go.Ev
open Go Go.Proofs
def Z5j : FnH := ⟨[(10,⟨(bm 234881024 37),[],(some 0)⟩)],[]⟩
noncomputable def Zbg : Hints := ⟨[(58,Z7a),(77,Zbd),(78,Z7u)],[],[]⟩
noncomputable def Zk4 (m n0 : Nat) (Zq : Nat) (Zv : Option Nat) (Zz : List D) (Zy : Int) (Z11 : Int) : Option D :=
 Z1k (bm 234881024 37) 0 0 (codeK Tg Zbg.sp ⟨0,[],false,[]⟩ (inlK Tg Zbg m 4) m Z5j (subc [1,1,1,1,0,1,0,0] (bodyOf Tryz.f51))) n0 ⟨[Jk,Jk,Jk,Jk,Jk,Jk,Jk,Jk,Jk,Jk,Jk,Jk,Jk,Jk,Jk,Jk,Jk,Jk,Jk,Jk,Jk,Jk,Jk,Jk,Jk,(AV.d (D.list Zq Zv Zz)),(AV.d (D.v (.int .i64 Zy))),(AV.d (D.v (.int .i64 Z11))),Jk,Jk,Jk,Jk,Jk,Jk,Jk,Jk,Jk],[]⟩
  (contK Tg Zbg.sp ⟨0,[],false,[]⟩ (inlK Tg Zbg m 4) m Z5j (endK Tg Tryz.f51 endV) [.block 0,.code (subc [1,1,1,1,1] (bodyOf Tryz.f51))])
theorem Z1ey (m n0 : Nat) (Zq : Nat) (Zv : Option Nat) (Zz : List D) (Zy : Int) (Z11 : Int) : Zk4 m (n0 + 1) Zq Zv Zz Zy Z11 =
 (cond (decide (Z11 < Zy))
 (if 0 ≤ Z11 ∧ Z11 < (Zq : Int) then
 if (((Int.toNat Z11) * 27) + 27) ≤ (List.length Zz) then
 if (List.length ((List.drop ((Int.toNat Z11) * 27) Zz).take 27)) = 27 then
 (Z7u [(D.agg ((List.drop ((Int.toNat Z11) * 27) Zz).take 27))]).bind fun d12 =>
 (rdI .i64 (some d12)).bind fun x13 =>
 cond (x13 != (0 : Int))
 (some (D.v (.int .i64 x13)))
 (Zk4 m n0 Zq Zv Zz Zy (IntKind.wrap .i64 (Z11 + (1 : Int))))
 else none
 else none
 else none)
 (some zI)) := by kernel_rfl
noncomputable def Zvj (m : Nat) (a0 : List D) : Option D :=
 if (List.length a0) = 20 then
 (Zbd [(D.agg ((List.drop 1 a0).take 17))]).bind fun d1 =>
 (rdI .i64 (some d1)).bind fun x2 =>
 cond (x2 != (0 : Int))
 (some (D.v (.int .i64 x2)))
 ((rdL a0[18]?).bind fun q3 =>
 (Z7a [(D.list q3.n q3.cap q3.cs)]).bind fun d4 =>
 (rdI .i64 (some d4)).bind fun x5 =>
 cond (x5 != (0 : Int))
 (some (D.v (.int .i64 x5)))
 ((rdL a0[19]?).bind fun q6 =>
 cond (decide ((q6.n : Int) > (8 : Int)))
 (some (D.v (.int .i64 (3 : Int))))
 ((rdL a0[19]?).bind fun q7 =>
 Zk4 m m q7.n q7.cap q7.cs (q7.n : Int) (0 : Int))))
 else none
theorem Z1jp (m : Nat) (a0 : List D) : funD Tg Zbg m 4 Z5j Tryz.f51 [(D.agg a0)] = Zvj m a0 := by kernel_rfl
theorem Z1p5 : Enters Tg 51 := ⟨Tryz.f51,Tryz.func51,by kernel_rfl,by kernel_rfl⟩
theorem Z1p6 {ds : List D} {d : D} (h : funD Tg Zbg M 4 Z5j Tryz.f51 ds = some d) : DataSem Tg 51 ds d := Z5 (H := Zbg) (SpOk.cons Z15a (SpOk.cons Z1ek (SpOk.cons Z1cb SpOk.nil))) mixed InlOk.nil Tryz.func51 Z1p5 h
noncomputable def Z93 : List D → Option D
 | [.agg a0] => Zvj M a0
 | _ => none
theorem Z1bi : ∀ ds d,Z93 ds = some d → DataSem Tg 51 ds d := by
 intro ds d h
 unfold Z93 at h
 split at h
 ·exact Z1p6 ((Z1jp M _).trans h)
 ·cases h
def Z1n : FnH := ⟨[(5,⟨(bm 1835026 40),[],(some 2)⟩)],[]⟩
def Z1i : FnH := ⟨[],[(4,⟨(bm 135 90),[],(some 1)⟩),(8,⟨(bm 390 90),[],(some 2)⟩),(10,⟨(bm 134 90),[],(some 1)⟩),(12,⟨(bm 6 90),[],(some 0)⟩)]⟩
noncomputable def Zj : Hints := ⟨[(51,Z93),(52,Z5d)],[(76,Tryz.f76,Z1i)],[]⟩
noncomputable def Zh5 (m n0 : Nat) (Zq : Nat) (Zv : Nat) (Zz : Option Nat) (Zy : List D) (Z11 : Int) (Z13 : Int) (Z1d : Nat) (Z1q : Option Nat) (Z4t : List D) (Zho : Nat) (Z6b : List D) : Option D :=
 Z1k (bm 1835026 40) 0 2 (codeK Tg Zj.sp ⟨0,[],false,[]⟩ (inlK Tg Zj m 4) m Z1n (subc [1,1,1,0,1,0,0] (bodyOf Tryz.f50))) n0 ⟨[Jk,(AV.ptr 0 0),Jk,Jk,(AV.sl 1 0 Zq (some Zq) 1),Jk,Jk,Jk,Jk,Jk,Jk,Jk,Jk,Jk,Jk,Jk,Jk,Jk,(AV.d (D.list Zv Zz Zy)),(AV.d (D.v (.int .i64 Z11))),(AV.d (D.v (.int .i64 Z13))),Jk,Jk,Jk,Jk,Jk,Jk,Jk,Jk,Jk,Jk,Jk,Jk,Jk,Jk,Jk,Jk,Jk,Jk,Jk],[(Blk.d 1 [(D.list Z1d Z1q Z4t)]),(Blk.d Zho Z6b)]⟩
  (contK Tg Zj.sp ⟨0,[],false,[]⟩ (inlK Tg Zj m 4) m Z1n (endK Tg Tryz.f50 endV) [.block 0,.code (subc [1,1,1,1] (bodyOf Tryz.f50))])
noncomputable def Z2l (m n0 : Nat) (Zq : Nat) (Z13 : Int) (Zv : Nat) (Zz : Option Nat) (Zy : List D) (Z11 : Int) (Z1d : Nat) (Z1q : Option Nat) (Z4t : List D) (Z2z : Nat) (Z4j : Option Nat) (Z3v : List D) (Z3t : Int) (Z6p : Nat) (Za0 : Nat) (Z91 : Nat) (Zph : Option Nat) (Zx1 : List D) (Z1ac : Nat) (Zx5 : List D) (Z146 : List D) (Z1ez : List D) : Option D :=
 cutK m (codeK Tg Zj.sp ⟨3,[],true,[]⟩ (inlK Tg Zj m 3) m Z1i (subc [1,1,1] (bodyOf Tryz.f76)) ⟨[(AV.d (D.list Z2z Z4j Z3v)),(AV.d (D.v (.int .i64 Z3t))),(AV.sl 1 0 Z6p (some Za0) 1),Jk,Jk,Jk,Jk,(AV.ptr 3 0),Jk,Jk,Jk,Jk,Jk,Jk,Jk,Jk,Jk,Jk,Jk,Jk,Jk,Jk,Jk,Jk,Jk,Jk,Jk,Jk,Jk,Jk,Jk,Jk,Jk,Jk,Jk,Jk,Jk,Jk,Jk,Jk,Jk,Jk,Jk,Jk,Jk,Jk,Jk,Jk,Jk,Jk,Jk,Jk,Jk,Jk,Jk,Jk,Jk,Jk,Jk,Jk,Jk,Jk,Jk,Jk,Jk,Jk,Jk,Jk,Jk,Jk,Jk,Jk,Jk,Jk,Jk,Jk,Jk,Jk,Jk,Jk,Jk,Jk,Jk,Jk,Jk,Jk,Jk,Jk,Jk,Jk],[(Blk.d 1 [(D.list Z91 Zph Zx1)]),(Blk.d Z1ac Zx5),(Blk.d 20 Z146),(Blk.d 20 Z1ez)]⟩
  (contK Tg Zj.sp ⟨3,[],true,[]⟩ (inlK Tg Zj m 3) m Z1i (endK Tg Tryz.f76 (fun v L => opsK Tg Zj.sp ⟨0,[],false,[]⟩ [] (inlK Tg Zj m 4) (regOps (subc [1,1,1,0,1,0,0,1,1,0,0,1,0,0] (bodyOf Tryz.f50))) (List.drop 5 (Array.toList (regOps (subc [1,1,1,0,1,0,0,1,1,0,0,1,0,0] (bodyOf Tryz.f50))))) ⟨setSl [Jk,(AV.ptr 0 0),Jk,Jk,(AV.sl 1 0 Zq (some Zq) 1),(AV.d (D.v (.int .i64 Z13))),(AV.ptr 2 0),Jk,Jk,Jk,Jk,Jk,Jk,Jk,Jk,Jk,Jk,Jk,(AV.d (D.list Zv Zz Zy)),(AV.d (D.v (.int .i64 Z11))),(AV.d (D.v (.int .i64 Z13))),(AV.d (D.v (.bool true))),(AV.d (D.v (.int .i64 Z13))),(AV.lp Zy ((Int.toNat Z13) * 20)),(AV.d (D.agg ((List.drop ((Int.toNat Z13) * 20) Zy).take 20))),(AV.ptr 0 0),(AV.d (D.list Z1d Z1q Z4t)),(AV.d (D.v (.int .i64 Z13))),(AV.sl 1 0 Zq (some Zq) 1),Jk,Jk,Jk,Jk,Jk,Jk,Jk,Jk,Jk,Jk,Jk] (some 29) v,L⟩ (fun st => contK Tg Zj.sp ⟨0,[],false,[]⟩ (inlK Tg Zj m 4) m Z1n (endK Tg Tryz.f50 endV) [.code (subc [1,1,1,0,1,0,0,1,1,0,0,1,0,1] (bodyOf Tryz.f50)),.code (subc [1,1,1,0,1,0,0,1,1,0,0,1,1] (bodyOf Tryz.f50)),.block 1,.code (subc [1,1,1,0,1,0,0,1,1,1] (bodyOf Tryz.f50)),.loop (bm 1835026 40) 2 (subc [1,1,1,0,1,0,0] (bodyOf Tryz.f50)) n0,.block 0,.code (subc [1,1,1,1] (bodyOf Tryz.f50))] .normal st))) []))
noncomputable def Z6t (m n0 : Nat) (Zq : Nat) (Z13 : Int) (Zv : Nat) (Zz : Option Nat) (Zy : List D) (Z11 : Int) (Z1d : Nat) (Z1q : Option Nat) (Z4t : List D) (Zd7 : Int) (Zis : Nat) (Zit : Nat) (Zgz : Nat) (Zo0 : Option Nat) (Zme : List D) (Zz4 : Nat) (Z11x : List D) (Z16k : List D) (Z1cg : List D) (Z1cq : List D) : Option D :=
 cutK m (codeK Tg Zj.sp ⟨3,[],true,[]⟩ (inlK Tg Zj m 3) m Z1i (subc [1,1,1,0,1,0,1,1] (bodyOf Tryz.f76)) ⟨[Jk,(AV.d (D.v (.int .i64 Zd7))),(AV.sl 1 0 Zis (some Zit) 1),Jk,Jk,Jk,Jk,(AV.ptr 3 0),(AV.ptr 4 0),Jk,Jk,Jk,Jk,Jk,Jk,Jk,Jk,Jk,Jk,Jk,Jk,Jk,Jk,Jk,Jk,Jk,Jk,Jk,Jk,Jk,Jk,Jk,Jk,Jk,Jk,Jk,Jk,Jk,Jk,Jk,Jk,Jk,Jk,Jk,Jk,Jk,Jk,Jk,Jk,Jk,Jk,Jk,Jk,Jk,Jk,Jk,Jk,Jk,Jk,Jk,Jk,Jk,Jk,Jk,Jk,Jk,Jk,Jk,Jk,Jk,Jk,Jk,Jk,Jk,Jk,Jk,Jk,Jk,Jk,Jk,Jk,Jk,Jk,Jk,Jk,Jk,Jk,Jk,Jk,Jk],[(Blk.d 1 [(D.list Zgz Zo0 Zme)]),(Blk.d Zz4 Z11x),(Blk.d 20 Z16k),(Blk.d 20 Z1cg),(Blk.d 20 Z1cq)]⟩
  (contK Tg Zj.sp ⟨3,[],true,[]⟩ (inlK Tg Zj m 3) m Z1i (endK Tg Tryz.f76 (fun v L => opsK Tg Zj.sp ⟨0,[],false,[]⟩ [] (inlK Tg Zj m 4) (regOps (subc [1,1,1,0,1,0,0,1,1,0,0,1,0,0] (bodyOf Tryz.f50))) (List.drop 5 (Array.toList (regOps (subc [1,1,1,0,1,0,0,1,1,0,0,1,0,0] (bodyOf Tryz.f50))))) ⟨setSl [Jk,(AV.ptr 0 0),Jk,Jk,(AV.sl 1 0 Zq (some Zq) 1),(AV.d (D.v (.int .i64 Z13))),(AV.ptr 2 0),Jk,Jk,Jk,Jk,Jk,Jk,Jk,Jk,Jk,Jk,Jk,(AV.d (D.list Zv Zz Zy)),(AV.d (D.v (.int .i64 Z11))),(AV.d (D.v (.int .i64 Z13))),(AV.d (D.v (.bool true))),(AV.d (D.v (.int .i64 Z13))),(AV.lp Zy ((Int.toNat Z13) * 20)),(AV.d (D.agg ((List.drop ((Int.toNat Z13) * 20) Zy).take 20))),(AV.ptr 0 0),(AV.d (D.list Z1d Z1q Z4t)),(AV.d (D.v (.int .i64 Z13))),(AV.sl 1 0 Zq (some Zq) 1),Jk,Jk,Jk,Jk,Jk,Jk,Jk,Jk,Jk,Jk,Jk] (some 29) v,L⟩ (fun st => contK Tg Zj.sp ⟨0,[],false,[]⟩ (inlK Tg Zj m 4) m Z1n (endK Tg Tryz.f50 endV) [.code (subc [1,1,1,0,1,0,0,1,1,0,0,1,0,1] (bodyOf Tryz.f50)),.code (subc [1,1,1,0,1,0,0,1,1,0,0,1,1] (bodyOf Tryz.f50)),.block 1,.code (subc [1,1,1,0,1,0,0,1,1,1] (bodyOf Tryz.f50)),.loop (bm 1835026 40) 2 (subc [1,1,1,0,1,0,0] (bodyOf Tryz.f50)) n0,.block 0,.code (subc [1,1,1,1] (bodyOf Tryz.f50))] .normal st))) [.code (subc [1,1,1,1] (bodyOf Tryz.f76))]))
noncomputable def Z35 (m n0 : Nat) (Zq : Nat) (Z13 : Int) (Zv : Nat) (Zz : Option Nat) (Zy : List D) (Z11 : Int) (Z1d : Nat) (Z1q : Option Nat) (Z4t : List D) (Z10h : Int) (Z15c : Nat) (Zx2 : Nat) (Z13s : Nat) (Z13t : Option Nat) (Z16d : List D) (Z117 : Nat) (Z1bg : List D) (Z1ch : List D) (Z1oa : List D) : Option D :=
 cutK m (codeK Tg Zj.sp ⟨3,[],true,[]⟩ (inlK Tg Zj m 3) m Z1i (subc [1,1,1,1] (bodyOf Tryz.f76)) ⟨[Jk,(AV.d (D.v (.int .i64 Z10h))),(AV.sl 1 0 Z15c (some Zx2) 1),Jk,Jk,Jk,Jk,(AV.ptr 3 0),Jk,Jk,Jk,Jk,Jk,Jk,Jk,Jk,Jk,Jk,Jk,Jk,Jk,Jk,Jk,Jk,Jk,Jk,Jk,Jk,Jk,Jk,Jk,Jk,Jk,Jk,Jk,Jk,Jk,Jk,Jk,Jk,Jk,Jk,Jk,Jk,Jk,Jk,Jk,Jk,Jk,Jk,Jk,Jk,Jk,Jk,Jk,Jk,Jk,Jk,Jk,Jk,Jk,Jk,Jk,Jk,Jk,Jk,Jk,Jk,Jk,Jk,Jk,Jk,Jk,Jk,Jk,Jk,Jk,Jk,Jk,Jk,Jk,Jk,Jk,Jk,Jk,Jk,Jk,Jk,Jk,Jk],[(Blk.d 1 [(D.list Z13s Z13t Z16d)]),(Blk.d Z117 Z1bg),(Blk.d 20 Z1ch),(Blk.d 20 Z1oa)]⟩
  (contK Tg Zj.sp ⟨3,[],true,[]⟩ (inlK Tg Zj m 3) m Z1i (endK Tg Tryz.f76 (fun v L => opsK Tg Zj.sp ⟨0,[],false,[]⟩ [] (inlK Tg Zj m 4) (regOps (subc [1,1,1,0,1,0,0,1,1,0,0,1,0,0] (bodyOf Tryz.f50))) (List.drop 5 (Array.toList (regOps (subc [1,1,1,0,1,0,0,1,1,0,0,1,0,0] (bodyOf Tryz.f50))))) ⟨setSl [Jk,(AV.ptr 0 0),Jk,Jk,(AV.sl 1 0 Zq (some Zq) 1),(AV.d (D.v (.int .i64 Z13))),(AV.ptr 2 0),Jk,Jk,Jk,Jk,Jk,Jk,Jk,Jk,Jk,Jk,Jk,(AV.d (D.list Zv Zz Zy)),(AV.d (D.v (.int .i64 Z11))),(AV.d (D.v (.int .i64 Z13))),(AV.d (D.v (.bool true))),(AV.d (D.v (.int .i64 Z13))),(AV.lp Zy ((Int.toNat Z13) * 20)),(AV.d (D.agg ((List.drop ((Int.toNat Z13) * 20) Zy).take 20))),(AV.ptr 0 0),(AV.d (D.list Z1d Z1q Z4t)),(AV.d (D.v (.int .i64 Z13))),(AV.sl 1 0 Zq (some Zq) 1),Jk,Jk,Jk,Jk,Jk,Jk,Jk,Jk,Jk,Jk,Jk] (some 29) v,L⟩ (fun st => contK Tg Zj.sp ⟨0,[],false,[]⟩ (inlK Tg Zj m 4) m Z1n (endK Tg Tryz.f50 endV) [.code (subc [1,1,1,0,1,0,0,1,1,0,0,1,0,1] (bodyOf Tryz.f50)),.code (subc [1,1,1,0,1,0,0,1,1,0,0,1,1] (bodyOf Tryz.f50)),.block 1,.code (subc [1,1,1,0,1,0,0,1,1,1] (bodyOf Tryz.f50)),.loop (bm 1835026 40) 2 (subc [1,1,1,0,1,0,0] (bodyOf Tryz.f50)) n0,.block 0,.code (subc [1,1,1,1] (bodyOf Tryz.f50))] .normal st))) []))
noncomputable def Z4d (m n0 : Nat) (Zq : Nat) (Z13 : Int) (Zv : Nat) (Zz : Option Nat) (Zy : List D) (Z11 : Int) (Z1d : Nat) (Z1q : Option Nat) (Z4t : List D) (Z1p3 : Int) (Z1jl : Nat) (Z1s9 : Nat) (Z1sa : Nat) (Z1sb : Option Nat) (Z1sc : List D) (Z1sd : Nat) (Z1qn : List D) (Z1xw : List D) : Option D :=
 cutK m (codeK Tg Zj.sp ⟨3,[],true,[]⟩ (inlK Tg Zj m 3) m Z1i (subc [1,1,1,1,1] (bodyOf Tryz.f76)) ⟨[Jk,(AV.d (D.v (.int .i64 Z1p3))),(AV.sl 1 0 Z1jl (some Z1s9) 1),Jk,Jk,Jk,Jk,Jk,Jk,Jk,Jk,Jk,Jk,Jk,Jk,Jk,Jk,Jk,Jk,Jk,Jk,Jk,Jk,Jk,Jk,Jk,Jk,Jk,Jk,Jk,Jk,Jk,Jk,Jk,Jk,Jk,Jk,Jk,Jk,Jk,Jk,Jk,Jk,Jk,Jk,Jk,Jk,Jk,Jk,Jk,Jk,Jk,Jk,Jk,Jk,Jk,Jk,Jk,Jk,Jk,Jk,Jk,Jk,Jk,Jk,Jk,Jk,Jk,Jk,Jk,Jk,Jk,Jk,Jk,Jk,Jk,Jk,Jk,Jk,Jk,Jk,Jk,Jk,Jk,Jk,Jk,Jk,Jk,Jk,Jk],[(Blk.d 1 [(D.list Z1sa Z1sb Z1sc)]),(Blk.d Z1sd Z1qn),(Blk.d 20 Z1xw)]⟩
  (contK Tg Zj.sp ⟨3,[],true,[]⟩ (inlK Tg Zj m 3) m Z1i (endK Tg Tryz.f76 (fun v L => opsK Tg Zj.sp ⟨0,[],false,[]⟩ [] (inlK Tg Zj m 4) (regOps (subc [1,1,1,0,1,0,0,1,1,0,0,1,0,0] (bodyOf Tryz.f50))) (List.drop 5 (Array.toList (regOps (subc [1,1,1,0,1,0,0,1,1,0,0,1,0,0] (bodyOf Tryz.f50))))) ⟨setSl [Jk,(AV.ptr 0 0),Jk,Jk,(AV.sl 1 0 Zq (some Zq) 1),(AV.d (D.v (.int .i64 Z13))),(AV.ptr 2 0),Jk,Jk,Jk,Jk,Jk,Jk,Jk,Jk,Jk,Jk,Jk,(AV.d (D.list Zv Zz Zy)),(AV.d (D.v (.int .i64 Z11))),(AV.d (D.v (.int .i64 Z13))),(AV.d (D.v (.bool true))),(AV.d (D.v (.int .i64 Z13))),(AV.lp Zy ((Int.toNat Z13) * 20)),(AV.d (D.agg ((List.drop ((Int.toNat Z13) * 20) Zy).take 20))),(AV.ptr 0 0),(AV.d (D.list Z1d Z1q Z4t)),(AV.d (D.v (.int .i64 Z13))),(AV.sl 1 0 Zq (some Zq) 1),Jk,Jk,Jk,Jk,Jk,Jk,Jk,Jk,Jk,Jk,Jk] (some 29) v,L⟩ (fun st => contK Tg Zj.sp ⟨0,[],false,[]⟩ (inlK Tg Zj m 4) m Z1n (endK Tg Tryz.f50 endV) [.code (subc [1,1,1,0,1,0,0,1,1,0,0,1,0,1] (bodyOf Tryz.f50)),.code (subc [1,1,1,0,1,0,0,1,1,0,0,1,1] (bodyOf Tryz.f50)),.block 1,.code (subc [1,1,1,0,1,0,0,1,1,1] (bodyOf Tryz.f50)),.loop (bm 1835026 40) 2 (subc [1,1,1,0,1,0,0] (bodyOf Tryz.f50)) n0,.block 0,.code (subc [1,1,1,1] (bodyOf Tryz.f50))] .normal st))) []))
theorem Zoa (m n0 : Nat) (Zq : Nat) (Z13 : Int) (Zv : Nat) (Zz : Option Nat) (Zy : List D) (Z11 : Int) (Z1d : Nat) (Z1q : Option Nat) (Z4t : List D) (Z1p3 : Int) (Z1jl : Nat) (Z1s9 : Nat) (Z1sa : Nat) (Z1sb : Option Nat) (Z1sc : List D) (Z1sd : Nat) (Z1qn : List D) (Z1xw : List D) : Z4d m n0 Zq Z13 Zv Zz Zy Z11 Z1d Z1q Z4t Z1p3 Z1jl Z1s9 Z1sa Z1sb Z1sc Z1sd Z1qn Z1xw =
 (if 0 ≤ Z1p3 ∧ Z1p3 < (Z1jl : Int) then
 (rdI .i64 Z1qn[(0 + ((Int.toNat Z1p3) * 1))]?).bind fun x71 =>
 cond (decide (x71 > (64 : Int)))
 (some (D.tup [(D.list 0 (some 0) []),(D.v (.int .i64 (12 : Int)))]))
 ((Z93 [(D.agg Z1xw)]).bind fun d72 =>
 (rdI .i64 (some d72)).bind fun x73 =>
 cond (x73 != (0 : Int))
 (some (D.tup [(D.list 0 (some 0) []),(D.v (.int .i64 x73))]))
 (Zh5 m n0 Zq Zv Zz Zy Z11 (IntKind.wrap .i64 (Z13 + (1 : Int))) Z1sa Z1sb Z1sc Z1sd Z1qn))
 else none) := (Z1w m _).trans (by kernel_rfl)
theorem Zob (m n0 : Nat) (Zq : Nat) (Z13 : Int) (Zv : Nat) (Zz : Option Nat) (Zy : List D) (Z11 : Int) (Z1d : Nat) (Z1q : Option Nat) (Z4t : List D) (Z10h : Int) (Z15c : Nat) (Zx2 : Nat) (Z13s : Nat) (Z13t : Option Nat) (Z16d : List D) (Z117 : Nat) (Z1bg : List D) (Z1ch : List D) (Z1oa : List D) : Z35 m n0 Zq Z13 Zv Zz Zy Z11 Z1d Z1q Z4t Z10h Z15c Zx2 Z13s Z13t Z16d Z117 Z1bg Z1ch Z1oa =
 (cond (decide (Z10h > (0 : Int)))
 ((rdI .i64 Z1oa[0]?).bind fun x69 =>
 if 0 ≤ x69 ∧ x69 < (Z15c : Int) then
 (rdI .i64 Z1bg[(0 + ((Int.toNat x69) * 1))]?).bind fun x70 =>
 if 0 ≤ Z10h ∧ Z10h < (Z15c : Int) then
 if 1 = 1 ∧ (0 + ((Int.toNat Z10h) * 1)) < Z117 then
 Z4d m n0 Zq Z13 Zv Zz Zy Z11 Z1d Z1q Z4t Z10h Z15c Zx2 Z13s Z13t Z16d Z117 (List.set Z1bg (0 + ((Int.toNat Z10h) * 1)) (D.v (.int .i64 (IntKind.wrap .i64 (x70 + (1 : Int)))))) Z1ch
 else none
 else none
 else none)
 (Z4d m n0 Zq Z13 Zv Zz Zy Z11 Z1d Z1q Z4t Z10h Z15c Zx2 Z13s Z13t Z16d Z117 Z1bg Z1ch)) := (Z1w m _).trans (by kernel_rfl)
theorem Z9d (m n0 : Nat) (Zq : Nat) (Z13 : Int) (Zv : Nat) (Zz : Option Nat) (Zy : List D) (Z11 : Int) (Z1d : Nat) (Z1q : Option Nat) (Z4t : List D) (Zd7 : Int) (Zis : Nat) (Zit : Nat) (Zgz : Nat) (Zo0 : Option Nat) (Zme : List D) (Zz4 : Nat) (Z11x : List D) (Z16k : List D) (Z1cg : List D) (Z1cq : List D) : Z6t m n0 Zq Z13 Zv Zz Zy Z11 Z1d Z1q Z4t Zd7 Zis Zit Zgz Zo0 Zme Zz4 Z11x Z16k Z1cg Z1cq =
 ((rdI .i64 Z1cq[0]?).bind fun x66 =>
 (rdI .i64 Z1cg[0]?).bind fun x67 =>
 cond (x66 == x67)
 ((cellsEq [.int,.int,.int,.int,.int,.int,.int,.int,.int,.int,.int,.int,.int,.int,.int,.int,.int] ((List.drop 1 Z1cq).take 17) ((List.drop 1 Z1cg).take 17)).bind fun b68 =>
 cond b68
 (some (D.tup [(D.list 0 (some 0) []),(D.v (.int .i64 (14 : Int)))]))
 (Z35 m n0 Zq Z13 Zv Zz Zy Z11 Z1d Z1q Z4t Zd7 Zis Zit Zgz Zo0 Zme Zz4 Z11x Z16k Z1cg))
 (Z35 m n0 Zq Z13 Zv Zz Zy Z11 Z1d Z1q Z4t Zd7 Zis Zit Zgz Zo0 Zme Zz4 Z11x Z16k Z1cg)) := (Z1w m _).trans (by kernel_rfl)
theorem Zpj (m n0 : Nat) (Zq : Nat) (Z13 : Int) (Zv : Nat) (Zz : Option Nat) (Zy : List D) (Z11 : Int) (Z1d : Nat) (Z1q : Option Nat) (Z4t : List D) (Z2z : Nat) (Z4j : Option Nat) (Z3v : List D) (Z3t : Int) (Z6p : Nat) (Za0 : Nat) (Z91 : Nat) (Zph : Option Nat) (Zx1 : List D) (Z1ac : Nat) (Zx5 : List D) (Z146 : List D) (Z1ez : List D) : Z2l m n0 Zq Z13 Zv Zz Zy Z11 Z1d Z1q Z4t Z2z Z4j Z3v Z3t Z6p Za0 Z91 Zph Zx1 Z1ac Zx5 Z146 Z1ez =
 (cond (decide (Z3t > (1 : Int)))
 (if 0 ≤ (IntKind.wrap .i64 (Z3t - (1 : Int))) ∧ (IntKind.wrap .i64 (Z3t - (1 : Int))) < (Z2z : Int) then
 if (((Int.toNat (IntKind.wrap .i64 (Z3t - (1 : Int)))) * 20) + 20) ≤ (List.length Z3v) then
 if (List.length ((List.drop ((Int.toNat (IntKind.wrap .i64 (Z3t - (1 : Int)))) * 20) Z3v).take 20)) = 20 then
 (rdI .i64 ((List.drop ((Int.toNat (IntKind.wrap .i64 (Z3t - (1 : Int)))) * 20) Z3v).take 20)[0]?).bind fun x60 =>
 (rdI .i64 Z1ez[0]?).bind fun x61 =>
 cond (decide (x60 > x61))
 (some (D.tup [(D.list 0 (some 0) []),(D.v (.int .i64 (13 : Int)))]))
 ((rdI .i64 ((List.drop ((Int.toNat (IntKind.wrap .i64 (Z3t - (1 : Int)))) * 20) Z3v).take 20)[0]?).bind fun x62 =>
 (rdI .i64 Z1ez[0]?).bind fun x63 =>
 cond (x62 == x63)
 ((Z5d [(D.agg ((List.drop 1 ((List.drop ((Int.toNat (IntKind.wrap .i64 (Z3t - (1 : Int)))) * 20) Z3v).take 20)).take 17)),(D.agg ((List.drop 1 Z1ez).take 17))]).bind fun d64 =>
 (rdI .i64 (some d64)).bind fun x65 =>
 cond (decide (x65 > (0 : Int)))
 (some (D.tup [(D.list 0 (some 0) []),(D.v (.int .i64 (13 : Int)))]))
 (Z6t m n0 Zq Z13 Zv Zz Zy Z11 Z1d Z1q Z4t Z3t Z6p Za0 Z91 Zph Zx1 Z1ac Zx5 Z146 Z1ez ((List.drop ((Int.toNat (IntKind.wrap .i64 (Z3t - (1 : Int)))) * 20) Z3v).take 20)))
 (Z6t m n0 Zq Z13 Zv Zz Zy Z11 Z1d Z1q Z4t Z3t Z6p Za0 Z91 Zph Zx1 Z1ac Zx5 Z146 Z1ez ((List.drop ((Int.toNat (IntKind.wrap .i64 (Z3t - (1 : Int)))) * 20) Z3v).take 20)))
 else none
 else none
 else none)
 (Z35 m n0 Zq Z13 Zv Zz Zy Z11 Z1d Z1q Z4t Z3t Z6p Za0 Z91 Zph Zx1 Z1ac Zx5 Z146 Z1ez)) := (Z1w m _).trans (by kernel_rfl)
theorem Z1cr (m n0 : Nat) (Zq : Nat) (Zv : Nat) (Zz : Option Nat) (Zy : List D) (Z11 : Int) (Z13 : Int) (Z1d : Nat) (Z1q : Option Nat) (Z4t : List D) (Zho : Nat) (Z6b : List D) : Zh5 m (n0 + 1) Zq Zv Zz Zy Z11 Z13 Z1d Z1q Z4t Zho Z6b =
 (cond (decide (Z13 < Z11))
 (if 0 ≤ Z13 ∧ Z13 < (Zv : Int) then
 if (((Int.toNat Z13) * 20) + 20) ≤ (List.length Zy) then
 if (List.length ((List.drop ((Int.toNat Z13) * 20) Zy).take 20)) = 20 then
 if 0 ≤ Z13 ∧ Z13 < (Z1d : Int) then
 if (((Int.toNat Z13) * 20) + 20) ≤ (List.length Z4t) then
 if (List.length ((List.drop ((Int.toNat Z13) * 20) Z4t).take 20)) = 20 then
 cond (Z13 == (0 : Int))
 ((rdI .i64 ((List.drop ((Int.toNat Z13) * 20) Z4t).take 20)[0]?).bind fun x57 =>
 cond (x57 != (-1 : Int))
 (some (D.tup [(D.list 0 (some 0) []),(D.v (.int .i64 (1 : Int)))]))
 (cond (decide (Z13 > (0 : Int)))
 ((rdI .i64 ((List.drop ((Int.toNat Z13) * 20) Z4t).take 20)[0]?).bind fun x58 =>
 cond (decide (x58 < (0 : Int)))
 (some (D.tup [(D.list 0 (some 0) []),(D.v (.int .i64 (1 : Int)))]))
 ((rdI .i64 ((List.drop ((Int.toNat Z13) * 20) Z4t).take 20)[0]?).bind fun x59 =>
 cond (decide (x59 ≥ Z13))
 (some (D.tup [(D.list 0 (some 0) []),(D.v (.int .i64 (1 : Int)))]))
 (Z2l m n0 Zq Z13 Zv Zz Zy Z11 Z1d Z1q Z4t Z1d Z1q Z4t Z13 Zq Zq Z1d Z1q Z4t Zho Z6b ((List.drop ((Int.toNat Z13) * 20) Zy).take 20) ((List.drop ((Int.toNat Z13) * 20) Z4t).take 20))))
 (Z2l m n0 Zq Z13 Zv Zz Zy Z11 Z1d Z1q Z4t Z1d Z1q Z4t Z13 Zq Zq Z1d Z1q Z4t Zho Z6b ((List.drop ((Int.toNat Z13) * 20) Zy).take 20) ((List.drop ((Int.toNat Z13) * 20) Z4t).take 20))))
 (cond (decide (Z13 > (0 : Int)))
 ((rdI .i64 ((List.drop ((Int.toNat Z13) * 20) Z4t).take 20)[0]?).bind fun x74 =>
 cond (decide (x74 < (0 : Int)))
 (some (D.tup [(D.list 0 (some 0) []),(D.v (.int .i64 (1 : Int)))]))
 ((rdI .i64 ((List.drop ((Int.toNat Z13) * 20) Z4t).take 20)[0]?).bind fun x75 =>
 cond (decide (x75 ≥ Z13))
 (some (D.tup [(D.list 0 (some 0) []),(D.v (.int .i64 (1 : Int)))]))
 (Z2l m n0 Zq Z13 Zv Zz Zy Z11 Z1d Z1q Z4t Z1d Z1q Z4t Z13 Zq Zq Z1d Z1q Z4t Zho Z6b ((List.drop ((Int.toNat Z13) * 20) Zy).take 20) ((List.drop ((Int.toNat Z13) * 20) Z4t).take 20))))
 (Z2l m n0 Zq Z13 Zv Zz Zy Z11 Z1d Z1q Z4t Z1d Z1q Z4t Z13 Zq Zq Z1d Z1q Z4t Zho Z6b ((List.drop ((Int.toNat Z13) * 20) Zy).take 20) ((List.drop ((Int.toNat Z13) * 20) Z4t).take 20)))
 else none
 else none
 else none
 else none
 else none
 else none)
 (if (0 + (Zq * 1)) ≤ Zho then
 some (D.tup [(D.list Zq (some Zq) (cutL Zho Z6b 0 (Zq * 1))),zI])
 else none)) := by kernel_rfl
noncomputable def Zoc (m : Nat) (a0_0n : Nat) (a0_0c : Option Nat) (a0_0 : List D) : Option D :=
 cond (decide ((a0_0n : Int) > (65536 : Int)))
 (some (D.tup [(D.list 0 (some 0) []),(D.v (.int .i64 (3 : Int)))]))
 (if 0 ≤ (a0_0n : Int) ∧ (a0_0n : Int) ≤ (a0_0n : Int) ∧ Z2v (Int.toNat (a0_0n : Int)) 8 then
 Zh5 m m (Int.toNat (a0_0n : Int)) a0_0n a0_0c a0_0 (a0_0n : Int) (0 : Int) a0_0n a0_0c a0_0 ((Int.toNat (a0_0n : Int)) * 1) (List.flatten (List.replicate (Int.toNat (a0_0n : Int)) [zI]))
 else none)
theorem Z1f0 (m : Nat) (a0_0n : Nat) (a0_0c : Option Nat) (a0_0 : List D) : funD Tg Zj m 4 Z1n Tryz.f50 [(D.agg [(D.list a0_0n a0_0c a0_0)])] = Zoc m a0_0n a0_0c a0_0 := by kernel_rfl
theorem Z1jq : Enters Tg 50 := ⟨Tryz.f50,Tryz.func50,by kernel_rfl,by kernel_rfl⟩
theorem Z1jr {ds : List D} {d : D} (h : funD Tg Zj M 4 Z1n Tryz.f50 ds = some d) : DataSem Tg 50 ds d := Z5 (H := Zj) (SpOk.cons Z1bi (SpOk.cons Zx0 SpOk.nil)) mixed (InlOk.cons Tryz.func76 Z1oc InlOk.nil) Tryz.func50 Z1jq h
noncomputable def Z2x : List D → Option D
 | [.agg [.list a0_0n a0_0c a0_0]] => Zoc M a0_0n a0_0c a0_0
 | _ => none
theorem Zk5 : ∀ ds d,Z2x ds = some d → DataSem Tg 50 ds d := by
 intro ds d h
 unfold Z2x at h
 split at h
 ·exact Z1jr ((Z1f0 M _ _ _).trans h)
 ·cases h
def Zfr : FnH := ⟨[],[]⟩
noncomputable def Z147 : Hints := ⟨[(50,Z2x)],[],[]⟩
noncomputable def Zvk (m : Nat) (a0_0n : Nat) (a0_0c : Option Nat) (a0_0 : List D) : Option D :=
 (Z2x [(D.agg [(D.list a0_0n a0_0c a0_0)])]).bind fun d1 =>
 (rdT d1).bind fun r2 =>
 if List.length r2 = 2 then
 (rdL r2[0]?).bind fun q3 =>
 (rdI .i64 r2[1]?).bind fun x4 =>
 some (D.v (.int .i64 x4))
 else none
theorem Z1js (m : Nat) (a0_0n : Nat) (a0_0c : Option Nat) (a0_0 : List D) : funD Tg Z147 m 4 Zfr Tryz.f41 [(D.agg [(D.list a0_0n a0_0c a0_0)])] = Zvk m a0_0n a0_0c a0_0 := by kernel_rfl
theorem Z1p7 : Enters Tg 41 := ⟨Tryz.f41,Tryz.func41,by kernel_rfl,by kernel_rfl⟩
theorem Z1p8 {ds : List D} {d : D} (h : funD Tg Z147 M 4 Zfr Tryz.f41 ds = some d) : DataSem Tg 41 ds d := Z5 (H := Z147) (SpOk.cons Zk5 SpOk.nil) mixed InlOk.nil Tryz.func41 Z1p7 h
noncomputable def Z94 : List D → Option D
 | [.agg [.list a0_0n a0_0c a0_0]] => Zvk M a0_0n a0_0c a0_0
 | _ => none
theorem Z1bj : ∀ ds d,Z94 ds = some d → DataSem Tg 41 ds d := by
 intro ds d h
 unfold Z94 at h
 split at h
 ·exact Z1p8 ((Z1js M _ _ _).trans h)
 ·cases h
def Z4k : FnH := ⟨[],[]⟩
noncomputable def Zac : Hints := ⟨[],[],[]⟩
noncomputable def Z79 (m : Nat) (a0n : Nat) (a0c : Option Nat) (a0 : List D) : Option D :=
 cond ((a0n : Int) == (0 : Int))
 (some (D.list 0 (some 0) []))
 (if 0 ≤ (a0n : Int) ∧ (a0n : Int) ≤ (a0n : Int) ∧ Z2v (Int.toNat (a0n : Int)) 128 then
 if (List.length a0) = (a0n * 20) then
 if (0 + ((Int.toNat (a0n : Int)) * 20)) ≤ ((Int.toNat (a0n : Int)) * 20) ∧ (List.length a0) = (a0n * 20) then
 if (0 + ((Int.toNat (a0n : Int)) * 20)) ≤ ((Int.toNat (a0n : Int)) * 20) then
 some (D.list (Int.toNat (a0n : Int)) (some (Int.toNat (a0n : Int))) (cutL ((Int.toNat (a0n : Int)) * 20) (List.take 0 (List.flatten (List.replicate (Int.toNat (a0n : Int)) [zI,(D.v (.int .u8 (0 : Int))),zU,zU,zU,zU,zU,zU,zU,zU,zU,zU,zU,zU,zU,zU,zU,zU,(D.list 0 (some 0) []),(D.list 0 (some 0) [])])) ++ (List.take ((Nat.min a0n (Int.toNat (a0n : Int))) * 20) a0 ++ List.drop (0 + ((Nat.min a0n (Int.toNat (a0n : Int))) * 20)) (List.flatten (List.replicate (Int.toNat (a0n : Int)) [zI,(D.v (.int .u8 (0 : Int))),zU,zU,zU,zU,zU,zU,zU,zU,zU,zU,zU,zU,zU,zU,zU,zU,(D.list 0 (some 0) []),(D.list 0 (some 0) [])])))) 0 ((Int.toNat (a0n : Int)) * 20)))
 else none
 else none
 else none
 else none)
theorem Zxc (m : Nat) (a0n : Nat) (a0c : Option Nat) (a0 : List D) : funD Tg Zac m 4 Z4k Tryz.f57 [(D.list a0n a0c a0)] = Z79 m a0n a0c a0 := by kernel_rfl
theorem Z10k : Enters Tg 57 := ⟨Tryz.f57,Tryz.func57,by kernel_rfl,by kernel_rfl⟩
theorem Z10l {ds : List D} {d : D} (h : funD Tg Zac M 4 Z4k Tryz.f57 ds = some d) : DataSem Tg 57 ds d := Z5 (H := Zac) SpOk.nil mixed InlOk.nil Tryz.func57 Z10k h
noncomputable def Z4v : List D → Option D
 | [.list a0n a0c a0] => Z79 M a0n a0c a0
 | _ => none
theorem Z10m : ∀ ds d,Z4v ds = some d → DataSem Tg 57 ds d := by
 intro ds d h
 unfold Z4v at h
 split at h
 ·exact Z10l ((Zxc M _ _ _).trans h)
 ·cases h
def Zx : FnH := ⟨[(6,⟨(bm 117440660 97),[],(some 3)⟩),(15,⟨(bm 3940649673952400 97),[(11,20)],(some 5)⟩)],[(10,⟨(bm 117441172 97),[],(some 3)⟩),(19,⟨(bm 3940649673964688 97),[],(some 6)⟩),(23,⟨(bm 3940649673960592 97),[],(some 6)⟩)]⟩
noncomputable def Z1g : Hints := ⟨[(41,Z94),(53,Z2k),(57,Z4v)],[],[]⟩
noncomputable def Zk6 (m n0 : Nat) (Zq : Nat) (Zv : Nat) (Zz : Nat) (Zy : Option Nat) (Z11 : List D) (Z13 : Int) (Z1d : Int) (Z1q : Nat) (Z4t : Option Nat) (Zho : List D) (Z6b : Nat) (Zxa : List D) : Option D :=
 Z1k (bm 117440660 97) 0 3 (codeK Tg Z1g.sp ⟨0,[],false,[]⟩ (inlK Tg Z1g m 4) m Zx (subc [1,1,1,0,1,0,0] (bodyOf Tryz.f28))) n0 ⟨[Jk,Jk,(AV.ptr 0 0),Jk,(AV.ptr 1 0),Jk,Jk,(AV.sl 2 0 Zq (some Zv) 1),Jk,Jk,Jk,Jk,Jk,Jk,Jk,Jk,Jk,Jk,Jk,Jk,Jk,Jk,Jk,Jk,(AV.d (D.list Zz Zy Z11)),(AV.d (D.v (.int .i64 Z13))),(AV.d (D.v (.int .i64 Z1d))),Jk,Jk,Jk,Jk,Jk,Jk,Jk,Jk,Jk,Jk,Jk,Jk,Jk,Jk,Jk,Jk,Jk,Jk,Jk,Jk,Jk,Jk,Jk,Jk,Jk,Jk,Jk,Jk,Jk,Jk,Jk,Jk,Jk,Jk,Jk,Jk,Jk,Jk,Jk,Jk,Jk,Jk,Jk,Jk,Jk,Jk,Jk,Jk,Jk,Jk,Jk,Jk,Jk,Jk,Jk,Jk,Jk,Jk,Jk,Jk,Jk,Jk,Jk,Jk,Jk,Jk,Jk,Jk,Jk,Jk],[(Blk.d 1 [(D.list Z1q Z4t Zho)]),(Blk.d 1 [(D.list 0 (some 0) [])]),(Blk.d Z6b Zxa)]⟩
  (contK Tg Z1g.sp ⟨0,[],false,[]⟩ (inlK Tg Z1g m 4) m Zx (endK Tg Tryz.f28 endV) [.block 0,.code (subc [1,1,1,1] (bodyOf Tryz.f28))])
noncomputable def Zza (m n0 : Nat) (Z2z : Nat) (Z4j : Nat) (Z3v : Int) (Z3t : Nat) (Z6p : Option Nat) (Za0 : List D) (Z91 : Int) (Zph : Int) (Zx1 : Nat) (Z1ac : Option Nat) (Zx5 : List D) (Z146 : Nat) (Z1ez : List D) : Option D :=
 cutK m (codeK Tg Z1g.sp ⟨0,[],false,[]⟩ (inlK Tg Z1g m 4) m Zx (subc [1,1,1,0,1,0,0,1,1,0,0,1,1] (bodyOf Tryz.f28)) ⟨[Jk,Jk,(AV.ptr 0 0),Jk,(AV.ptr 1 0),Jk,Jk,(AV.sl 2 0 Z2z (some Z4j) 1),Jk,(AV.d (D.v (.int .i64 Z3v))),Jk,Jk,Jk,Jk,Jk,Jk,Jk,Jk,Jk,Jk,Jk,Jk,Jk,Jk,(AV.d (D.list Z3t Z6p Za0)),(AV.d (D.v (.int .i64 Z91))),(AV.d (D.v (.int .i64 Zph))),Jk,Jk,Jk,Jk,Jk,Jk,Jk,Jk,Jk,Jk,Jk,Jk,Jk,Jk,Jk,Jk,Jk,Jk,Jk,Jk,Jk,Jk,Jk,Jk,Jk,Jk,Jk,Jk,Jk,Jk,Jk,Jk,Jk,Jk,Jk,Jk,Jk,Jk,Jk,Jk,Jk,Jk,Jk,Jk,Jk,Jk,Jk,Jk,Jk,Jk,Jk,Jk,Jk,Jk,Jk,Jk,Jk,Jk,Jk,Jk,Jk,Jk,Jk,Jk,Jk,Jk,Jk,Jk,Jk,Jk],[(Blk.d 1 [(D.list Zx1 Z1ac Zx5)]),(Blk.d 1 [(D.list 0 (some 0) [])]),(Blk.d Z146 Z1ez)]⟩
  (contK Tg Z1g.sp ⟨0,[],false,[]⟩ (inlK Tg Z1g m 4) m Zx (endK Tg Tryz.f28 endV) [.block 1,.code (subc [1,1,1,0,1,0,0,1,1,1] (bodyOf Tryz.f28)),.loop (bm 117440660 97) 3 (subc [1,1,1,0,1,0,0] (bodyOf Tryz.f28)) n0,.block 0,.code (subc [1,1,1,1] (bodyOf Tryz.f28))]))
theorem Z1ag (m n0 : Nat) (Z2z : Nat) (Z4j : Nat) (Z3v : Int) (Z3t : Nat) (Z6p : Option Nat) (Za0 : List D) (Z91 : Int) (Zph : Int) (Zx1 : Nat) (Z1ac : Option Nat) (Zx5 : List D) (Z146 : Nat) (Z1ez : List D) : Zza m n0 Z2z Z4j Z3v Z3t Z6p Za0 Z91 Zph Zx1 Z1ac Zx5 Z146 Z1ez =
 (if 0 ≤ Z3v ∧ Z3v < (Z2z : Int) then
 if 1 = 1 ∧ (0 + ((Int.toNat Z3v) * 1)) < Z146 then
 Zk6 m n0 Z2z Z4j Z3t Z6p Za0 Z91 (IntKind.wrap .i64 (Zph + (1 : Int))) Zx1 Z1ac Zx5 Z146 (List.set Z1ez (0 + ((Int.toNat Z3v) * 1)) (D.v (.bool true)))
 else none
 else none) := (Z1w m _).trans (by kernel_rfl)
noncomputable def Z67 (m n0 : Nat) (Zf5 : Nat) (Zav : Nat) (Zic : Nat) (Zug : Nat) (Zn0 : Nat) (Zq7 : Nat) (Zpc : Option Nat) (Zh1 : List D) (Zrj : Int) (Zpi : Int) (Zj6 : Nat) (Zh4 : Option Nat) (Z8t : List D) (Zj7 : Nat) (Z16g : List D) (Z1ad : Nat) (Z1ae : List D) (Z123 : Nat) (Z18a : List D) : Option D :=
 Z1k (bm 3940649673952400 97) 0 5 (codeK Tg Z1g.sp ⟨0,[],false,[]⟩ (inlK Tg Z1g m 4) m Zx (subc [1,1,1,1,1,1,0,1,0,0] (bodyOf Tryz.f28))) n0 ⟨[Jk,Jk,Jk,Jk,(AV.ptr 1 0),Jk,Jk,(AV.sl 2 0 Zf5 (some Zav) 1),Jk,Jk,(AV.sl 3 0 Zic (some Zug) 1),(AV.sl 4 0 Zn0 none 20),Jk,Jk,Jk,Jk,Jk,Jk,Jk,Jk,Jk,Jk,Jk,Jk,Jk,Jk,Jk,Jk,Jk,Jk,Jk,Jk,Jk,Jk,Jk,Jk,Jk,Jk,Jk,Jk,Jk,Jk,Jk,Jk,Jk,Jk,Jk,Jk,Jk,(AV.d (D.list Zq7 Zpc Zh1)),(AV.d (D.v (.int .i64 Zrj))),(AV.d (D.v (.int .i64 Zpi))),Jk,Jk,Jk,Jk,Jk,Jk,Jk,Jk,Jk,Jk,Jk,Jk,Jk,Jk,Jk,Jk,Jk,Jk,Jk,Jk,Jk,Jk,Jk,Jk,Jk,Jk,Jk,Jk,Jk,Jk,Jk,Jk,Jk,Jk,Jk,Jk,Jk,Jk,Jk,Jk,Jk,Jk,Jk,Jk,Jk],[(Blk.d 1 [(D.list Zj6 Zh4 Z8t)]),(Blk.d 1 [(D.list 0 (some 0) [])]),(Blk.d Zj7 Z16g),(Blk.d Z1ad Z1ae),(Blk.d Z123 Z18a)]⟩
  (contK Tg Z1g.sp ⟨0,[],false,[]⟩ (inlK Tg Z1g m 4) m Zx (endK Tg Tryz.f28 endV) [.block 2,.code (subc [1,1,1,1,1,1,1] (bodyOf Tryz.f28))])
noncomputable def Zda (m n0 : Nat) (Zd7 : Nat) (Zis : Nat) (Zit : Nat) (Zgz : Nat) (Zo0 : Nat) (Zme : Int) (Zz4 : Nat) (Z11x : Option Nat) (Z16k : List D) (Z1cg : Int) (Z1cq : Int) (Z1sk : Nat) (Z206 : Option Nat) (Z207 : List D) (Z208 : Nat) (Z209 : List D) (Z1yu : Nat) (Z1yv : List D) (Z20a : Nat) (Z20b : List D) (Z226 : List D) : Option D :=
 cutK m (codeK Tg Z1g.sp ⟨0,[],false,[]⟩ (inlK Tg Z1g m 4) m Zx (subc [1,1,1,1,1,1,0,1,0,0,1,1,0,0,1,1] (bodyOf Tryz.f28)) ⟨[Jk,Jk,Jk,Jk,(AV.ptr 1 0),Jk,Jk,(AV.sl 2 0 Zd7 (some Zis) 1),Jk,Jk,(AV.sl 3 0 Zit (some Zgz) 1),(AV.sl 4 0 Zo0 none 20),(AV.d (D.v (.int .i64 Zme))),(AV.ptr 5 0),Jk,Jk,Jk,Jk,Jk,Jk,Jk,Jk,Jk,Jk,Jk,Jk,Jk,Jk,Jk,Jk,Jk,Jk,Jk,Jk,Jk,Jk,Jk,Jk,Jk,Jk,Jk,Jk,Jk,Jk,Jk,Jk,Jk,Jk,Jk,(AV.d (D.list Zz4 Z11x Z16k)),(AV.d (D.v (.int .i64 Z1cg))),(AV.d (D.v (.int .i64 Z1cq))),Jk,Jk,Jk,Jk,Jk,Jk,Jk,Jk,Jk,Jk,Jk,Jk,Jk,Jk,Jk,Jk,Jk,Jk,Jk,Jk,Jk,Jk,Jk,Jk,Jk,Jk,Jk,Jk,Jk,Jk,Jk,Jk,Jk,Jk,Jk,Jk,Jk,Jk,Jk,Jk,Jk,Jk,Jk,Jk,Jk],[(Blk.d 1 [(D.list Z1sk Z206 Z207)]),(Blk.d 1 [(D.list 0 (some 0) [])]),(Blk.d Z208 Z209),(Blk.d Z1yu Z1yv),(Blk.d Z20a Z20b),(Blk.d 20 Z226)]⟩
  (contK Tg Z1g.sp ⟨0,[],false,[]⟩ (inlK Tg Z1g m 4) m Zx (endK Tg Tryz.f28 endV) [.block 3,.code (subc [1,1,1,1,1,1,0,1,0,0,1,1,1] (bodyOf Tryz.f28)),.loop (bm 3940649673952400 97) 5 (subc [1,1,1,1,1,1,0,1,0,0] (bodyOf Tryz.f28)) n0,.block 2,.code (subc [1,1,1,1,1,1,1] (bodyOf Tryz.f28))]))
noncomputable def Zdb (m n0 : Nat) (Z10h : Nat) (Z15c : Nat) (Zx2 : Nat) (Z13s : Nat) (Z13t : Nat) (Z16d : Nat) (Z117 : Option Nat) (Z1bg : List D) (Z1ch : Int) (Z1oa : Int) (Z1p9 : Nat) (Z1pa : Option Nat) (Z1pb : List D) (Z1pc : Nat) (Z1sl : List D) (Z1pd : Nat) (Z227 : List D) (Z228 : Nat) (Z229 : List D) (Z1yw : List D) : Option D :=
 cutK m (codeK Tg Z1g.sp ⟨0,[],false,[]⟩ (inlK Tg Z1g m 4) m Zx (subc [1,1,1,1,1,1,0,1,0,0,1,1,0,0,1,1,1,1,1] (bodyOf Tryz.f28)) ⟨[Jk,Jk,Jk,Jk,(AV.ptr 1 0),Jk,Jk,(AV.sl 2 0 Z10h (some Z15c) 1),Jk,Jk,(AV.sl 3 0 Zx2 (some Z13s) 1),(AV.sl 4 0 Z13t none 20),Jk,(AV.ptr 5 0),Jk,Jk,Jk,Jk,Jk,Jk,Jk,Jk,Jk,Jk,Jk,Jk,Jk,Jk,Jk,Jk,Jk,Jk,Jk,Jk,Jk,Jk,Jk,Jk,Jk,Jk,Jk,Jk,Jk,Jk,Jk,Jk,Jk,Jk,Jk,(AV.d (D.list Z16d Z117 Z1bg)),(AV.d (D.v (.int .i64 Z1ch))),(AV.d (D.v (.int .i64 Z1oa))),Jk,Jk,Jk,Jk,Jk,Jk,Jk,Jk,Jk,Jk,Jk,Jk,Jk,Jk,Jk,Jk,Jk,Jk,Jk,Jk,Jk,Jk,Jk,Jk,Jk,Jk,Jk,Jk,Jk,Jk,Jk,Jk,Jk,Jk,Jk,Jk,Jk,Jk,Jk,Jk,Jk,Jk,Jk,Jk,Jk],[(Blk.d 1 [(D.list Z1p9 Z1pa Z1pb)]),(Blk.d 1 [(D.list 0 (some 0) [])]),(Blk.d Z1pc Z1sl),(Blk.d Z1pd Z227),(Blk.d Z228 Z229),(Blk.d 20 Z1yw)]⟩
  (contK Tg Z1g.sp ⟨0,[],false,[]⟩ (inlK Tg Z1g m 4) m Zx (endK Tg Tryz.f28 endV) [.block 3,.code (subc [1,1,1,1,1,1,0,1,0,0,1,1,1] (bodyOf Tryz.f28)),.loop (bm 3940649673952400 97) 5 (subc [1,1,1,1,1,1,0,1,0,0] (bodyOf Tryz.f28)) n0,.block 2,.code (subc [1,1,1,1,1,1,1] (bodyOf Tryz.f28))]))
theorem Z1ah (m n0 : Nat) (Z10h : Nat) (Z15c : Nat) (Zx2 : Nat) (Z13s : Nat) (Z13t : Nat) (Z16d : Nat) (Z117 : Option Nat) (Z1bg : List D) (Z1ch : Int) (Z1oa : Int) (Z1p9 : Nat) (Z1pa : Option Nat) (Z1pb : List D) (Z1pc : Nat) (Z1sl : List D) (Z1pd : Nat) (Z227 : List D) (Z228 : Nat) (Z229 : List D) (Z1yw : List D) : Zdb m n0 Z10h Z15c Zx2 Z13s Z13t Z16d Z117 Z1bg Z1ch Z1oa Z1p9 Z1pa Z1pb Z1pc Z1sl Z1pd Z227 Z228 Z229 Z1yw =
 (if (List.length Z1yw) = 20 then
 if ownB ⟨0,[],false,[]⟩ 4 = true ∧ Z228 = (Z13t * 20) ∧ Z2v (Z13t + 1) 128 ∧ (List.length Z1yw) = 20 then
 Z67 m n0 Z10h Z15c Zx2 Z13s (Z13t + 1) Z16d Z117 Z1bg Z1ch (IntKind.wrap .i64 (Z1oa + (1 : Int))) Z1p9 Z1pa Z1pb Z1pc Z1sl Z1pd Z227 ((Z13t + 1) * 20) (Z229 ++ Z1yw)
 else none
 else none) := (Z1w m _).trans (by kernel_rfl)
theorem Z1ai (m n0 : Nat) (Zd7 : Nat) (Zis : Nat) (Zit : Nat) (Zgz : Nat) (Zo0 : Nat) (Zme : Int) (Zz4 : Nat) (Z11x : Option Nat) (Z16k : List D) (Z1cg : Int) (Z1cq : Int) (Z1sk : Nat) (Z206 : Option Nat) (Z207 : List D) (Z208 : Nat) (Z209 : List D) (Z1yu : Nat) (Z1yv : List D) (Z20a : Nat) (Z20b : List D) (Z226 : List D) : Zda m n0 Zd7 Zis Zit Zgz Zo0 Zme Zz4 Z11x Z16k Z1cg Z1cq Z1sk Z206 Z207 Z208 Z209 Z1yu Z1yv Z20a Z20b Z226 =
 (if 0 ≤ Zme ∧ Zme < (Zit : Int) then
 if 1 = 1 ∧ (0 + ((Int.toNat Zme) * 1)) < Z1yu then
 (Z2k [(D.agg Z226)]).bind fun d21 =>
 (rdA (some d21)).bind fun c22 =>
 if (List.length c22) = 20 then
 cond (decide (Zme > (0 : Int)))
 ((rdI .i64 c22[0]?).bind fun x23 =>
 if 0 ≤ x23 ∧ x23 < (Zit : Int) then
 (rdI .i64 (List.set Z1yv (0 + ((Int.toNat Zme) * 1)) (D.v (.int .i64 (Zo0 : Int))))[(0 + ((Int.toNat x23) * 1))]?).bind fun x24 =>
 Zdb m n0 Zd7 Zis Zit Zgz Zo0 Zz4 Z11x Z16k Z1cg Z1cq Z1sk Z206 Z207 Z208 Z209 Z1yu (List.set Z1yv (0 + ((Int.toNat Zme) * 1)) (D.v (.int .i64 (Zo0 : Int)))) Z20a Z20b (List.set c22 0 (D.v (.int .i64 x24)))
 else none)
 (Zdb m n0 Zd7 Zis Zit Zgz Zo0 Zz4 Z11x Z16k Z1cg Z1cq Z1sk Z206 Z207 Z208 Z209 Z1yu (List.set Z1yv (0 + ((Int.toNat Zme) * 1)) (D.v (.int .i64 (Zo0 : Int)))) Z20a Z20b c22)
 else none
 else none
 else none) := (Z1w m _).trans (by kernel_rfl)
theorem Z1cs (m n0 : Nat) (Zf5 : Nat) (Zav : Nat) (Zic : Nat) (Zug : Nat) (Zn0 : Nat) (Zq7 : Nat) (Zpc : Option Nat) (Zh1 : List D) (Zrj : Int) (Zpi : Int) (Zj6 : Nat) (Zh4 : Option Nat) (Z8t : List D) (Zj7 : Nat) (Z16g : List D) (Z1ad : Nat) (Z1ae : List D) (Z123 : Nat) (Z18a : List D) : Z67 m (n0 + 1) Zf5 Zav Zic Zug Zn0 Zq7 Zpc Zh1 Zrj Zpi Zj6 Zh4 Z8t Zj7 Z16g Z1ad Z1ae Z123 Z18a =
 (cond (decide (Zpi < Zrj))
 (if 0 ≤ Zpi ∧ Zpi < (Zq7 : Int) then
 if (((Int.toNat Zpi) * 20) + 20) ≤ (List.length Zh1) then
 if (List.length ((List.drop ((Int.toNat Zpi) * 20) Zh1).take 20)) = 20 then
 if 0 ≤ Zpi ∧ Zpi < (Zf5 : Int) then
 (rdB Z16g[(0 + ((Int.toNat Zpi) * 1))]?).bind fun b18 =>
 cond b18
 (if 0 ≤ Zpi ∧ Zpi < (Zf5 : Int) then
 if 1 = 1 ∧ (0 + ((Int.toNat Zpi) * 1)) < Zj7 then
 Z67 m n0 Zf5 Zav Zic Zug Zn0 Zq7 Zpc Zh1 Zrj (IntKind.wrap .i64 (Zpi + (1 : Int))) Zj6 Zh4 Z8t Zj7 (List.set Z16g (0 + ((Int.toNat Zpi) * 1)) (D.v (.bool true))) Z1ad Z1ae Z123 Z18a
 else none
 else none)
 (cond (decide (Zpi > (0 : Int)))
 ((rdI .i64 ((List.drop ((Int.toNat Zpi) * 20) Zh1).take 20)[0]?).bind fun x19 =>
 if 0 ≤ x19 ∧ x19 < (Zf5 : Int) then
 (rdB Z16g[(0 + ((Int.toNat x19) * 1))]?).bind fun b20 =>
 cond b20
 (if 0 ≤ Zpi ∧ Zpi < (Zf5 : Int) then
 if 1 = 1 ∧ (0 + ((Int.toNat Zpi) * 1)) < Zj7 then
 Z67 m n0 Zf5 Zav Zic Zug Zn0 Zq7 Zpc Zh1 Zrj (IntKind.wrap .i64 (Zpi + (1 : Int))) Zj6 Zh4 Z8t Zj7 (List.set Z16g (0 + ((Int.toNat Zpi) * 1)) (D.v (.bool true))) Z1ad Z1ae Z123 Z18a
 else none
 else none)
 (Zda m n0 Zf5 Zav Zic Zug Zn0 Zpi Zq7 Zpc Zh1 Zrj Zpi Zj6 Zh4 Z8t Zj7 Z16g Z1ad Z1ae Z123 Z18a ((List.drop ((Int.toNat Zpi) * 20) Zh1).take 20))
 else none)
 (Zda m n0 Zf5 Zav Zic Zug Zn0 Zpi Zq7 Zpc Zh1 Zrj Zpi Zj6 Zh4 Z8t Zj7 Z16g Z1ad Z1ae Z123 Z18a ((List.drop ((Int.toNat Zpi) * 20) Zh1).take 20)))
 else none
 else none
 else none
 else none)
 (if (0 + (Zn0 * 20)) ≤ Z123 then
 (Z4v [(D.list Zn0 none (cutL Z123 Z18a 0 (Zn0 * 20)))]).bind fun d25 =>
 (rdL (some d25)).bind fun q26 =>
 if (0 + (Zn0 * 20)) ≤ Z123 then
 if (0 + (Zn0 * 20)) ≤ Z123 then
 some (D.tup [(D.agg [(D.list q26.n q26.cap q26.cs)]),zI])
 else none
 else none
 else none)) := by kernel_rfl
theorem Z1f1 (m n0 : Nat) (Zq : Nat) (Zv : Nat) (Zz : Nat) (Zy : Option Nat) (Z11 : List D) (Z13 : Int) (Z1d : Int) (Z1q : Nat) (Z4t : Option Nat) (Zho : List D) (Z6b : Nat) (Zxa : List D) : Zk6 m (n0 + 1) Zq Zv Zz Zy Z11 Z13 Z1d Z1q Z4t Zho Z6b Zxa =
 (cond (decide (Z1d < Z13))
 (if 0 ≤ Z1d ∧ Z1d < (Zz : Int) then
 (rdI .i64 Z11[((Int.toNat Z1d) * 1)]?).bind fun x5 =>
 cond (decide (x5 < (0 : Int)))
 (some (D.tup [(D.agg [(D.list 0 (some 0) [])]),(D.v (.int .i64 (19 : Int)))]))
 (cond (decide (x5 ≥ (Z1q : Int)))
 (some (D.tup [(D.agg [(D.list 0 (some 0) [])]),(D.v (.int .i64 (19 : Int)))]))
 (Zza m n0 Zq Zv x5 Zz Zy Z11 Z13 Z1d Z1q Z4t Zho Z6b Zxa))
 else none)
 (if 0 ≤ (Z1q : Int) ∧ (Z1q : Int) ≤ (Z1q : Int) ∧ Z2v (Int.toNat (Z1q : Int)) 8 then
 Z67 m m Zq Zv (Int.toNat (Z1q : Int)) (Int.toNat (Z1q : Int)) 0 Z1q Z4t Zho (Z1q : Int) (0 : Int) Z1q Z4t Zho Z6b Zxa ((Int.toNat (Z1q : Int)) * 1) (List.flatten (List.replicate (Int.toNat (Z1q : Int)) [zI])) 0 []
 else none)) := by kernel_rfl
noncomputable def Zrm (m : Nat) (a0_0n : Nat) (a0_0c : Option Nat) (a0_0 : List D) (a1n : Nat) (a1c : Option Nat) (a1 : List D) : Option D :=
 (Z94 [(D.agg [(D.list a0_0n a0_0c a0_0)])]).bind fun d1 =>
 (rdI .i64 (some d1)).bind fun x2 =>
 cond (x2 != (0 : Int))
 (some (D.tup [(D.agg [(D.list 0 (some 0) [])]),(D.v (.int .i64 x2))]))
 (if 0 ≤ (a0_0n : Int) ∧ (a0_0n : Int) ≤ (a0_0n : Int) ∧ Z2v (Int.toNat (a0_0n : Int)) 1 then
 Zk6 m m (Int.toNat (a0_0n : Int)) (Int.toNat (a0_0n : Int)) a1n a1c a1 (a1n : Int) (0 : Int) a0_0n a0_0c a0_0 ((Int.toNat (a0_0n : Int)) * 1) (List.flatten (List.replicate (Int.toNat (a0_0n : Int)) [(D.v (.bool false))]))
 else none)
theorem Z1h9 (m : Nat) (a0_0n : Nat) (a0_0c : Option Nat) (a0_0 : List D) (a1n : Nat) (a1c : Option Nat) (a1 : List D) : funD Tg Z1g m 4 Zx Tryz.f28 [(D.agg [(D.list a0_0n a0_0c a0_0)]),(D.list a1n a1c a1)] = Zrm m a0_0n a0_0c a0_0 a1n a1c a1 := by kernel_rfl
theorem Z1mq : Enters Tg 28 := ⟨Tryz.f28,Tryz.func28,by kernel_rfl,by kernel_rfl⟩
theorem Z1mr {ds : List D} {d : D} (h : funD Tg Z1g M 4 Zx Tryz.f28 ds = some d) : DataSem Tg 28 ds d := Z5 (H := Z1g) (SpOk.cons Z1bj (SpOk.cons Zxb (SpOk.cons Z10m SpOk.nil))) mixed InlOk.nil Tryz.func28 Z1mq h
noncomputable def Z21 : List D → Option D
 | [.agg [.list a0_0n a0_0c a0_0],.list a1n a1c a1] => Zrm M a0_0n a0_0c a0_0 a1n a1c a1
 | _ => none
theorem Z18c : ∀ ds d,Z21 ds = some d → DataSem Tg 28 ds d := by
 intro ds d h
 unfold Z21 at h
 split at h
 ·exact Z1mr ((Z1h9 M _ _ _ _ _ _).trans h)
 ·cases h
end Go.Ev