/- Functions of the given program in plain form,printed: each with the proof that it is what the evaluator comes to,and that the program function returns what it says. No conditions. -/
import Derived.Test.YtnghcoghbbapgaaGreatDoorEzG7
set_option linter.unusedVariables false
set_option maxRecDepth 100000
namespace Go.Ev
open Go Go.Proofs
def Z5j : FnH := ⟨[(10,⟨(bm 234881024 37),[],(some 0)⟩)],[]⟩
noncomputable def Zbg : Hints := ⟨[(58,Z7a),(77,Zbd),(78,Z7u)],[],[]⟩
noncomputable def Zk4 (m n0 : Nat) (Zq : Nat) (Zv : Option Nat) (Zz : List D) (Zy : Int) (Z11 : Int) : Option D :=
 Z1k (bm 234881024 37) 0 0 (codeK Tg Zbg.sp ⟨0,[],false,[]⟩ (inlK Tg Zbg m 4) m Z5j (subc [1,1,1,1,0,1,0,0] (bodyOf Tryz.f51))) n0 ⟨[Jk,Jk,Jk,Jk,Jk,Jk,Jk,Jk,Jk,Jk,Jk,Jk,Jk,Jk,Jk,Jk,Jk,Jk,Jk,Jk,Jk,Jk,Jk,Jk,Jk,(AV.d (D.list Zq Zv Zz)),(AV.d (D.v (.int .i64 Zy))),(AV.d (D.v (.int .i64 Z11))),Jk,Jk,Jk,Jk,Jk,Jk,Jk,Jk,Jk],[]⟩
  (contK Tg Zbg.sp ⟨0,[],false,[]⟩ (inlK Tg Zbg m 4) m Z5j (endK Tg Tryz.f51 endV) [.block 0,.code (subc [1,1,1,1,1] (bodyOf Tryz.f51))])
theorem Z1ey (m n0 : Nat) (Zq : Nat) (Zv : Option Nat) (Zz : List D) (Zy : Int) (Z11 : Int) : Zk4 m (n0 + 1) Zq Zv Zz Zy Z11 =
 (cond (decide (Z11 < Zy))
 (if 0 ≤ Z11 ∧ Z11 < (Zq : Int) then
 if (((Int.toNat Z11) * 27) + 27) ≤ (List.length Zz) then
 if (List.length ((List.drop ((Int.toNat Z11) * 27) Zz).take 27)) = 27 then
 (Z7u [(D.agg ((List.drop ((Int.toNat Z11) * 27) Zz).take 27))]).bind fun d12 =>
 (rdI .i64 (some d12)).bind fun x13 =>
 cond (x13 != (0 : Int))
 (some (D.v (.int .i64 x13)))
 (Zk4 m n0 Zq Zv Zz Zy (IntKind.wrap .i64 (Z11 + (1 : Int))))
 else none
 else none
 else none)
 (some zI)) := by kernel_rfl
noncomputable def Zvj (m : Nat) (a0 : List D) : Option D :=
 if (List.length a0) = 20 then
 (Zbd [(D.agg ((List.drop 1 a0).take 17))]).bind fun d1 =>
 (rdI .i64 (some d1)).bind fun x2 =>
 cond (x2 != (0 : Int))
 (some (D.v (.int .i64 x2)))
 ((rdL a0[18]?).bind fun q3 =>
 (Z7a [(D.list q3.n q3.cap q3.cs)]).bind fun d4 =>
 (rdI .i64 (some d4)).bind fun x5 =>
 cond (x5 != (0 : Int))
 (some (D.v (.int .i64 x5)))
 ((rdL a0[19]?).bind fun q6 =>
 cond (decide ((q6.n : Int) > (8 : Int)))
 (some (D.v (.int .i64 (3 : Int))))
 ((rdL a0[19]?).bind fun q7 =>
 Zk4 m m q7.n q7.cap q7.cs (q7.n : Int) (0 : Int))))
 else none
theorem Z1jp (m : Nat) (a0 : List D) : funD Tg Zbg m 4 Z5j Tryz.f51 [(D.agg a0)] = Zvj m a0 := by kernel_rfl
theorem Z1p5 : Enters Tg 51 := ⟨Tryz.f51,Tryz.func51,by kernel_rfl,by kernel_rfl⟩
theorem Z1p6 {ds : List D} {d : D} (h : funD Tg Zbg M 4 Z5j Tryz.f51 ds = some d) : DataSem Tg 51 ds d := Z5 (H := Zbg) (SpOk.cons Z15a (SpOk.cons Z1ek (SpOk.cons Z1cb SpOk.nil))) mixed InlOk.nil Tryz.func51 Z1p5 h
noncomputable def Z93 : List D → Option D
 | [.agg a0] => Zvj M a0
 | _ => none
theorem Z1bi : ∀ ds d,Z93 ds = some d → DataSem Tg 51 ds d := by
 intro ds d h
 unfold Z93 at h
 split at h
 ·exact Z1p6 ((Z1jp M _).trans h)
 ·cases h
def Z1n : FnH := ⟨[(5,⟨(bm 1835026 40),[],(some 2)⟩)],[]⟩
def Z1i : FnH := ⟨[],[(4,⟨(bm 135 90),[],(some 1)⟩),(8,⟨(bm 390 90),[],(some 2)⟩),(10,⟨(bm 134 90),[],(some 1)⟩),(12,⟨(bm 6 90),[],(some 0)⟩)]⟩
noncomputable def Zj : Hints := ⟨[(51,Z93),(52,Z5d)],[(76,Tryz.f76,Z1i)],[]⟩
noncomputable def Zh5 (m n0 : Nat) (Zq : Nat) (Zv : Nat) (Zz : Option Nat) (Zy : List D) (Z11 : Int) (Z13 : Int) (Z1d : Nat) (Z1q : Option Nat) (Z4t : List D) (Zho : Nat) (Z6b : List D) : Option D :=
 Z1k (bm 1835026 40) 0 2 (codeK Tg Zj.sp ⟨0,[],false,[]⟩ (inlK Tg Zj m 4) m Z1n (subc [1,1,1,0,1,0,0] (bodyOf Tryz.f50))) n0 ⟨[Jk,(AV.ptr 0 0),Jk,Jk,(AV.sl 1 0 Zq (some Zq) 1),Jk,Jk,Jk,Jk,Jk,Jk,Jk,Jk,Jk,Jk,Jk,Jk,Jk,(AV.d (D.list Zv Zz Zy)),(AV.d (D.v (.int .i64 Z11))),(AV.d (D.v (.int .i64 Z13))),Jk,Jk,Jk,Jk,Jk,Jk,Jk,Jk,Jk,Jk,Jk,Jk,Jk,Jk,Jk,Jk,Jk,Jk,Jk],[(Blk.d 1 [(D.list Z1d Z1q Z4t)]),(Blk.d Zho Z6b)]⟩
  (contK Tg Zj.sp ⟨0,[],false,[]⟩ (inlK Tg Zj m 4) m Z1n (endK Tg Tryz.f50 endV) [.block 0,.code (subc [1,1,1,1] (bodyOf Tryz.f50))])
noncomputable def Z2l (m n0 : Nat) (Zq : Nat) (Z13 : Int) (Zv : Nat) (Zz : Option Nat) (Zy : List D) (Z11 : Int) (Z1d : Nat) (Z1q : Option Nat) (Z4t : List D) (Z2z : Nat) (Z4j : Option Nat) (Z3v : List D) (Z3t : Int) (Z6p : Nat) (Za0 : Nat) (Z91 : Nat) (Zph : Option Nat) (Zx1 : List D) (Z1ac : Nat) (Zx5 : List D) (Z146 : List D) (Z1ez : List D) : Option D :=
 cutK m (codeK Tg Zj.sp ⟨3,[],true,[]⟩ (inlK Tg Zj m 3) m Z1i (subc [1,1,1] (bodyOf Tryz.f76)) ⟨[(AV.d (D.list Z2z Z4j Z3v)),(AV.d (D.v (.int .i64 Z3t))),(AV.sl 1 0 Z6p (some Za0) 1),Jk,Jk,Jk,Jk,(AV.ptr 3 0),Jk,Jk,Jk,Jk,Jk,Jk,Jk,Jk,Jk,Jk,Jk,Jk,Jk,Jk,Jk,Jk,Jk,Jk,Jk,Jk,Jk,Jk,Jk,Jk,Jk,Jk,Jk,Jk,Jk,Jk,Jk,Jk,Jk,Jk,Jk,Jk,Jk,Jk,Jk,Jk,Jk,Jk,Jk,Jk,Jk,Jk,Jk,Jk,Jk,Jk,Jk,Jk,Jk,Jk,Jk,Jk,Jk,Jk,Jk,Jk,Jk,Jk,Jk,Jk,Jk,Jk,Jk,Jk,Jk,Jk,Jk,Jk,Jk,Jk,Jk,Jk,Jk,Jk,Jk,Jk,Jk,Jk],[(Blk.d 1 [(D.list Z91 Zph Zx1)]),(Blk.d Z1ac Zx5),(Blk.d 20 Z146),(Blk.d 20 Z1ez)]⟩
  (contK Tg Zj.sp ⟨3,[],true,[]⟩ (inlK Tg Zj m 3) m Z1i (endK Tg Tryz.f76 (fun v L => opsK Tg Zj.sp ⟨0,[],false,[]⟩ [] (inlK Tg Zj m 4) (regOps (subc [1,1,1,0,1,0,0,1,1,0,0,1,0,0] (bodyOf Tryz.f50))) (List.drop 5 (Array.toList (regOps (subc [1,1,1,0,1,0,0,1,1,0,0,1,0,0] (bodyOf Tryz.f50))))) ⟨setSl [Jk,(AV.ptr 0 0),Jk,Jk,(AV.sl 1 0 Zq (some Zq) 1),(AV.d (D.v (.int .i64 Z13))),(AV.ptr 2 0),Jk,Jk,Jk,Jk,Jk,Jk,Jk,Jk,Jk,Jk,Jk,(AV.d (D.list Zv Zz Zy)),(AV.d (D.v (.int .i64 Z11))),(AV.d (D.v (.int .i64 Z13))),(AV.d (D.v (.bool true))),(AV.d (D.v (.int .i64 Z13))),(AV.lp Zy ((Int.toNat Z13) * 20)),(AV.d (D.agg ((List.drop ((Int.toNat Z13) * 20) Zy).take 20))),(AV.ptr 0 0),(AV.d (D.list Z1d Z1q Z4t)),(AV.d (D.v (.int .i64 Z13))),(AV.sl 1 0 Zq (some Zq) 1),Jk,Jk,Jk,Jk,Jk,Jk,Jk,Jk,Jk,Jk,Jk] (some 29) v,L⟩ (fun st => contK Tg Zj.sp ⟨0,[],false,[]⟩ (inlK Tg Zj m 4) m Z1n (endK Tg Tryz.f50 endV) [.code (subc [1,1,1,0,1,0,0,1,1,0,0,1,0,1] (bodyOf Tryz.f50)),.code (subc [1,1,1,0,1,0,0,1,1,0,0,1,1] (bodyOf Tryz.f50)),.block 1,.code (subc [1,1,1,0,1,0,0,1,1,1] (bodyOf Tryz.f50)),.loop (bm 1835026 40) 2 (subc [1,1,1,0,1,0,0] (bodyOf Tryz.f50)) n0,.block 0,.code (subc [1,1,1,1] (bodyOf Tryz.f50))] .normal st))) []))
noncomputable def Z6t (m n0 : Nat) (Zq : Nat) (Z13 : Int) (Zv : Nat) (Zz : Option Nat) (Zy : List D) (Z11 : Int) (Z1d : Nat) (Z1q : Option Nat) (Z4t : List D) (Zd7 : Int) (Zis : Nat) (Zit : Nat) (Zgz : Nat) (Zo0 : Option Nat) (Zme : List D) (Zz4 : Nat) (Z11x : List D) (Z16k : List D) (Z1cg : List D) (Z1cq : List D) : Option D :=
 cutK m (codeK Tg Zj.sp ⟨3,[],true,[]⟩ (inlK Tg Zj m 3) m Z1i (subc [1,1,1,0,1,0,1,1] (bodyOf Tryz.f76)) ⟨[Jk,(AV.d (D.v (.int .i64 Zd7))),(AV.sl 1 0 Zis (some Zit) 1),Jk,Jk,Jk,Jk,(AV.ptr 3 0),(AV.ptr 4 0),Jk,Jk,Jk,Jk,Jk,Jk,Jk,Jk,Jk,Jk,Jk,Jk,Jk,Jk,Jk,Jk,Jk,Jk,Jk,Jk,Jk,Jk,Jk,Jk,Jk,Jk,Jk,Jk,Jk,Jk,Jk,Jk,Jk,Jk,Jk,Jk,Jk,Jk,Jk,Jk,Jk,Jk,Jk,Jk,Jk,Jk,Jk,Jk,Jk,Jk,Jk,Jk,Jk,Jk,Jk,Jk,Jk,Jk,Jk,Jk,Jk,Jk,Jk,Jk,Jk,Jk,Jk,Jk,Jk,Jk,Jk,Jk,Jk,Jk,Jk,Jk,Jk,Jk,Jk,Jk,Jk],[(Blk.d 1 [(D.list Zgz Zo0 Zme)]),(Blk.d Zz4 Z11x),(Blk.d 20 Z16k),(Blk.d 20 Z1cg),(Blk.d 20 Z1cq)]⟩
  (contK Tg Zj.sp ⟨3,[],true,[]⟩ (inlK Tg Zj m 3) m Z1i (endK Tg Tryz.f76 (fun v L => opsK Tg Zj.sp ⟨0,[],false,[]⟩ [] (inlK Tg Zj m 4) (regOps (subc [1,1,1,0,1,0,0,1,1,0,0,1,0,0] (bodyOf Tryz.f50))) (List.drop 5 (Array.toList (regOps (subc [1,1,1,0,1,0,0,1,1,0,0,1,0,0] (bodyOf Tryz.f50))))) ⟨setSl [Jk,(AV.ptr 0 0),Jk,Jk,(AV.sl 1 0 Zq (some Zq) 1),(AV.d (D.v (.int .i64 Z13))),(AV.ptr 2 0),Jk,Jk,Jk,Jk,Jk,Jk,Jk,Jk,Jk,Jk,Jk,(AV.d (D.list Zv Zz Zy)),(AV.d (D.v (.int .i64 Z11))),(AV.d (D.v (.int .i64 Z13))),(AV.d (D.v (.bool true))),(AV.d (D.v (.int .i64 Z13))),(AV.lp Zy ((Int.toNat Z13) * 20)),(AV.d (D.agg ((List.drop ((Int.toNat Z13) * 20) Zy).take 20))),(AV.ptr 0 0),(AV.d (D.list Z1d Z1q Z4t)),(AV.d (D.v (.int .i64 Z13))),(AV.sl 1 0 Zq (some Zq) 1),Jk,Jk,Jk,Jk,Jk,Jk,Jk,Jk,Jk,Jk,Jk] (some 29) v,L⟩ (fun st => contK Tg Zj.sp ⟨0,[],false,[]⟩ (inlK Tg Zj m 4) m Z1n (endK Tg Tryz.f50 endV) [.code (subc [1,1,1,0,1,0,0,1,1,0,0,1,0,1] (bodyOf Tryz.f50)),.code (subc [1,1,1,0,1,0,0,1,1,0,0,1,1] (bodyOf Tryz.f50)),.block 1,.code (subc [1,1,1,0,1,0,0,1,1,1] (bodyOf Tryz.f50)),.loop (bm 1835026 40) 2 (subc [1,1,1,0,1,0,0] (bodyOf Tryz.f50)) n0,.block 0,.code (subc [1,1,1,1] (bodyOf Tryz.f50))] .normal st))) [.code (subc [1,1,1,1] (bodyOf Tryz.f76))]))
noncomputable def Z35 (m n0 : Nat) (Zq : Nat) (Z13 : Int) (Zv : Nat) (Zz : Option Nat) (Zy : List D) (Z11 : Int) (Z1d : Nat) (Z1q : Option Nat) (Z4t : List D) (Z10h : Int) (Z15c : Nat) (Zx2 : Nat) (Z13s : Nat) (Z13t : Option Nat) (Z16d : List D) (Z117 : Nat) (Z1bg : List D) (Z1ch : List D) (Z1oa : List D) : Option D :=
 cutK m (codeK Tg Zj.sp ⟨3,[],true,[]⟩ (inlK Tg Zj m 3) m Z1i (subc [1,1,1,1] (bodyOf Tryz.f76)) ⟨[Jk,(AV.d (D.v (.int .i64 Z10h))),(AV.sl 1 0 Z15c (some Zx2) 1),Jk,Jk,Jk,Jk,(AV.ptr 3 0),Jk,Jk,Jk,Jk,Jk,Jk,Jk,Jk,Jk,Jk,Jk,Jk,Jk,Jk,Jk,Jk,Jk,Jk,Jk,Jk,Jk,Jk,Jk,Jk,Jk,Jk,Jk,Jk,Jk,Jk,Jk,Jk,Jk,Jk,Jk,Jk,Jk,Jk,Jk,Jk,Jk,Jk,Jk,Jk,Jk,Jk,Jk,Jk,Jk,Jk,Jk,Jk,Jk,Jk,Jk,Jk,Jk,Jk,Jk,Jk,Jk,Jk,Jk,Jk,Jk,Jk,Jk,Jk,Jk,Jk,Jk,Jk,Jk,Jk,Jk,Jk,Jk,Jk,Jk,Jk,Jk,Jk],[(Blk.d 1 [(D.list Z13s Z13t Z16d)]),(Blk.d Z117 Z1bg),(Blk.d 20 Z1ch),(Blk.d 20 Z1oa)]⟩
  (contK Tg Zj.sp ⟨3,[],true,[]⟩ (inlK Tg Zj m 3) m Z1i (endK Tg Tryz.f76 (fun v L => opsK Tg Zj.sp ⟨0,[],false,[]⟩ [] (inlK Tg Zj m 4) (regOps (subc [1,1,1,0,1,0,0,1,1,0,0,1,0,0] (bodyOf Tryz.f50))) (List.drop 5 (Array.toList (regOps (subc [1,1,1,0,1,0,0,1,1,0,0,1,0,0] (bodyOf Tryz.f50))))) ⟨setSl [Jk,(AV.ptr 0 0),Jk,Jk,(AV.sl 1 0 Zq (some Zq) 1),(AV.d (D.v (.int .i64 Z13))),(AV.ptr 2 0),Jk,Jk,Jk,Jk,Jk,Jk,Jk,Jk,Jk,Jk,Jk,(AV.d (D.list Zv Zz Zy)),(AV.d (D.v (.int .i64 Z11))),(AV.d (D.v (.int .i64 Z13))),(AV.d (D.v (.bool true))),(AV.d (D.v (.int .i64 Z13))),(AV.lp Zy ((Int.toNat Z13) * 20)),(AV.d (D.agg ((List.drop ((Int.toNat Z13) * 20) Zy).take 20))),(AV.ptr 0 0),(AV.d (D.list Z1d Z1q Z4t)),(AV.d (D.v (.int .i64 Z13))),(AV.sl 1 0 Zq (some Zq) 1),Jk,Jk,Jk,Jk,Jk,Jk,Jk,Jk,Jk,Jk,Jk] (some 29) v,L⟩ (fun st => contK Tg Zj.sp ⟨0,[],false,[]⟩ (inlK Tg Zj m 4) m Z1n (endK Tg Tryz.f50 endV) [.code (subc [1,1,1,0,1,0,0,1,1,0,0,1,0,1] (bodyOf Tryz.f50)),.code (subc [1,1,1,0,1,0,0,1,1,0,0,1,1] (bodyOf Tryz.f50)),.block 1,.code (subc [1,1,1,0,1,0,0,1,1,1] (bodyOf Tryz.f50)),.loop (bm 1835026 40) 2 (subc [1,1,1,0,1,0,0] (bodyOf Tryz.f50)) n0,.block 0,.code (subc [1,1,1,1] (bodyOf Tryz.f50))] .normal st))) []))
noncomputable def Z4d (m n0 : Nat) (Zq : Nat) (Z13 : Int) (Zv : Nat) (Zz : Option Nat) (Zy : List D) (Z11 : Int) (Z1d : Nat) (Z1q : Option Nat) (Z4t : List D) (Z1p3 : Int) (Z1jl : Nat) (Z1s9 : Nat) (Z1sa : Nat) (Z1sb : Option Nat) (Z1sc : List D) (Z1sd : Nat) (Z1qn : List D) (Z1xw : List D) : Option D :=
 cutK m (codeK Tg Zj.sp ⟨3,[],true,[]⟩ (inlK Tg Zj m 3) m Z1i (subc [1,1,1,1,1] (bodyOf Tryz.f76)) ⟨[Jk,(AV.d (D.v (.int .i64 Z1p3))),(AV.sl 1 0 Z1jl (some Z1s9) 1),Jk,Jk,Jk,Jk,Jk,Jk,Jk,Jk,Jk,Jk,Jk,Jk,Jk,Jk,Jk,Jk,Jk,Jk,Jk,Jk,Jk,Jk,Jk,Jk,Jk,Jk,Jk,Jk,Jk,Jk,Jk,Jk,Jk,Jk,Jk,Jk,Jk,Jk,Jk,Jk,Jk,Jk,Jk,Jk,Jk,Jk,Jk,Jk,Jk,Jk,Jk,Jk,Jk,Jk,Jk,Jk,Jk,Jk,Jk,Jk,Jk,Jk,Jk,Jk,Jk,Jk,Jk,Jk,Jk,Jk,Jk,Jk,Jk,Jk,Jk,Jk,Jk,Jk,Jk,Jk,Jk,Jk,Jk,Jk,Jk,Jk,Jk],[(Blk.d 1 [(D.list Z1sa Z1sb Z1sc)]),(Blk.d Z1sd Z1qn),(Blk.d 20 Z1xw)]⟩
  (contK Tg Zj.sp ⟨3,[],true,[]⟩ (inlK Tg Zj m 3) m Z1i (endK Tg Tryz.f76 (fun v L => opsK Tg Zj.sp ⟨0,[],false,[]⟩ [] (inlK Tg Zj m 4) (regOps (subc [1,1,1,0,1,0,0,1,1,0,0,1,0,0] (bodyOf Tryz.f50))) (List.drop 5 (Array.toList (regOps (subc [1,1,1,0,1,0,0,1,1,0,0,1,0,0] (bodyOf Tryz.f50))))) ⟨setSl [Jk,(AV.ptr 0 0),Jk,Jk,(AV.sl 1 0 Zq (some Zq) 1),(AV.d (D.v (.int .i64 Z13))),(AV.ptr 2 0),Jk,Jk,Jk,Jk,Jk,Jk,Jk,Jk,Jk,Jk,Jk,(AV.d (D.list Zv Zz Zy)),(AV.d (D.v (.int .i64 Z11))),(AV.d (D.v (.int .i64 Z13))),(AV.d (D.v (.bool true))),(AV.d (D.v (.int .i64 Z13))),(AV.lp Zy ((Int.toNat Z13) * 20)),(AV.d (D.agg ((List.drop ((Int.toNat Z13) * 20) Zy).take 20))),(AV.ptr 0 0),(AV.d (D.list Z1d Z1q Z4t)),(AV.d (D.v (.int .i64 Z13))),(AV.sl 1 0 Zq (some Zq) 1),Jk,Jk,Jk,Jk,Jk,Jk,Jk,Jk,Jk,Jk,Jk] (some 29) v,L⟩ (fun st => contK Tg Zj.sp ⟨0,[],false,[]⟩ (inlK Tg Zj m 4) m Z1n (endK Tg Tryz.f50 endV) [.code (subc [1,1,1,0,1,0,0,1,1,0,0,1,0,1] (bodyOf Tryz.f50)),.code (subc [1,1,1,0,1,0,0,1,1,0,0,1,1] (bodyOf Tryz.f50)),.block 1,.code (subc [1,1,1,0,1,0,0,1,1,1] (bodyOf Tryz.f50)),.loop (bm 1835026 40) 2 (subc [1,1,1,0,1,0,0] (bodyOf Tryz.f50)) n0,.block 0,.code (subc [1,1,1,1] (bodyOf Tryz.f50))] .normal st))) []))
theorem Zoa (m n0 : Nat) (Zq : Nat) (Z13 : Int) (Zv : Nat) (Zz : Option Nat) (Zy : List D) (Z11 : Int) (Z1d : Nat) (Z1q : Option Nat) (Z4t : List D) (Z1p3 : Int) (Z1jl : Nat) (Z1s9 : Nat) (Z1sa : Nat) (Z1sb : Option Nat) (Z1sc : List D) (Z1sd : Nat) (Z1qn : List D) (Z1xw : List D) : Z4d m n0 Zq Z13 Zv Zz Zy Z11 Z1d Z1q Z4t Z1p3 Z1jl Z1s9 Z1sa Z1sb Z1sc Z1sd Z1qn Z1xw =
 (if 0 ≤ Z1p3 ∧ Z1p3 < (Z1jl : Int) then
 (rdI .i64 Z1qn[(0 + ((Int.toNat Z1p3) * 1))]?).bind fun x71 =>
 cond (decide (x71 > (64 : Int)))
 (some (D.tup [(D.list 0 (some 0) []),(D.v (.int .i64 (12 : Int)))]))
 ((Z93 [(D.agg Z1xw)]).bind fun d72 =>
 (rdI .i64 (some d72)).bind fun x73 =>
 cond (x73 != (0 : Int))
 (some (D.tup [(D.list 0 (some 0) []),(D.v (.int .i64 x73))]))
 (Zh5 m n0 Zq Zv Zz Zy Z11 (IntKind.wrap .i64 (Z13 + (1 : Int))) Z1sa Z1sb Z1sc Z1sd Z1qn))
 else none) := (Z1w m _).trans (by kernel_rfl)
theorem Zob (m n0 : Nat) (Zq : Nat) (Z13 : Int) (Zv : Nat) (Zz : Option Nat) (Zy : List D) (Z11 : Int) (Z1d : Nat) (Z1q : Option Nat) (Z4t : List D) (Z10h : Int) (Z15c : Nat) (Zx2 : Nat) (Z13s : Nat) (Z13t : Option Nat) (Z16d : List D) (Z117 : Nat) (Z1bg : List D) (Z1ch : List D) (Z1oa : List D) : Z35 m n0 Zq Z13 Zv Zz Zy Z11 Z1d Z1q Z4t Z10h Z15c Zx2 Z13s Z13t Z16d Z117 Z1bg Z1ch Z1oa =
 (cond (decide (Z10h > (0 : Int)))
 ((rdI .i64 Z1oa[0]?).bind fun x69 =>
 if 0 ≤ x69 ∧ x69 < (Z15c : Int) then
 (rdI .i64 Z1bg[(0 + ((Int.toNat x69) * 1))]?).bind fun x70 =>
 if 0 ≤ Z10h ∧ Z10h < (Z15c : Int) then
 if 1 = 1 ∧ (0 + ((Int.toNat Z10h) * 1)) < Z117 then
 Z4d m n0 Zq Z13 Zv Zz Zy Z11 Z1d Z1q Z4t Z10h Z15c Zx2 Z13s Z13t Z16d Z117 (List.set Z1bg (0 + ((Int.toNat Z10h) * 1)) (D.v (.int .i64 (IntKind.wrap .i64 (x70 + (1 : Int)))))) Z1ch
 else none
 else none
 else none)
 (Z4d m n0 Zq Z13 Zv Zz Zy Z11 Z1d Z1q Z4t Z10h Z15c Zx2 Z13s Z13t Z16d Z117 Z1bg Z1ch)) := (Z1w m _).trans (by kernel_rfl)
theorem Z9d (m n0 : Nat) (Zq : Nat) (Z13 : Int) (Zv : Nat) (Zz : Option Nat) (Zy : List D) (Z11 : Int) (Z1d : Nat) (Z1q : Option Nat) (Z4t : List D) (Zd7 : Int) (Zis : Nat) (Zit : Nat) (Zgz : Nat) (Zo0 : Option Nat) (Zme : List D) (Zz4 : Nat) (Z11x : List D) (Z16k : List D) (Z1cg : List D) (Z1cq : List D) : Z6t m n0 Zq Z13 Zv Zz Zy Z11 Z1d Z1q Z4t Zd7 Zis Zit Zgz Zo0 Zme Zz4 Z11x Z16k Z1cg Z1cq =
 ((rdI .i64 Z1cq[0]?).bind fun x66 =>
 (rdI .i64 Z1cg[0]?).bind fun x67 =>
 cond (x66 == x67)
 ((cellsEq [.int,.int,.int,.int,.int,.int,.int,.int,.int,.int,.int,.int,.int,.int,.int,.int,.int] ((List.drop 1 Z1cq).take 17) ((List.drop 1 Z1cg).take 17)).bind fun b68 =>
 cond b68
 (some (D.tup [(D.list 0 (some 0) []),(D.v (.int .i64 (14 : Int)))]))
 (Z35 m n0 Zq Z13 Zv Zz Zy Z11 Z1d Z1q Z4t Zd7 Zis Zit Zgz Zo0 Zme Zz4 Z11x Z16k Z1cg))
 (Z35 m n0 Zq Z13 Zv Zz Zy Z11 Z1d Z1q Z4t Zd7 Zis Zit Zgz Zo0 Zme Zz4 Z11x Z16k Z1cg)) := (Z1w m _).trans (by kernel_rfl)
theorem Zpj (m n0 : Nat) (Zq : Nat) (Z13 : Int) (Zv : Nat) (Zz : Option Nat) (Zy : List D) (Z11 : Int) (Z1d : Nat) (Z1q : Option Nat) (Z4t : List D) (Z2z : Nat) (Z4j : Option Nat) (Z3v : List D) (Z3t : Int) (Z6p : Nat) (Za0 : Nat) (Z91 : Nat) (Zph : Option Nat) (Zx1 : List D) (Z1ac : Nat) (Zx5 : List D) (Z146 : List D) (Z1ez : List D) : Z2l m n0 Zq Z13 Zv Zz Zy Z11 Z1d Z1q Z4t Z2z Z4j Z3v Z3t Z6p Za0 Z91 Zph Zx1 Z1ac Zx5 Z146 Z1ez =
 (cond (decide (Z3t > (1 : Int)))
 (if 0 ≤ (IntKind.wrap .i64 (Z3t - (1 : Int))) ∧ (IntKind.wrap .i64 (Z3t - (1 : Int))) < (Z2z : Int) then
 if (((Int.toNat (IntKind.wrap .i64 (Z3t - (1 : Int)))) * 20) + 20) ≤ (List.length Z3v) then
 if (List.length ((List.drop ((Int.toNat (IntKind.wrap .i64 (Z3t - (1 : Int)))) * 20) Z3v).take 20)) = 20 then
 (rdI .i64 ((List.drop ((Int.toNat (IntKind.wrap .i64 (Z3t - (1 : Int)))) * 20) Z3v).take 20)[0]?).bind fun x60 =>
 (rdI .i64 Z1ez[0]?).bind fun x61 =>
 cond (decide (x60 > x61))
 (some (D.tup [(D.list 0 (some 0) []),(D.v (.int .i64 (13 : Int)))]))
 ((rdI .i64 ((List.drop ((Int.toNat (IntKind.wrap .i64 (Z3t - (1 : Int)))) * 20) Z3v).take 20)[0]?).bind fun x62 =>
 (rdI .i64 Z1ez[0]?).bind fun x63 =>
 cond (x62 == x63)
 ((Z5d [(D.agg ((List.drop 1 ((List.drop ((Int.toNat (IntKind.wrap .i64 (Z3t - (1 : Int)))) * 20) Z3v).take 20)).take 17)),(D.agg ((List.drop 1 Z1ez).take 17))]).bind fun d64 =>
 (rdI .i64 (some d64)).bind fun x65 =>
 cond (decide (x65 > (0 : Int)))
 (some (D.tup [(D.list 0 (some 0) []),(D.v (.int .i64 (13 : Int)))]))
 (Z6t m n0 Zq Z13 Zv Zz Zy Z11 Z1d Z1q Z4t Z3t Z6p Za0 Z91 Zph Zx1 Z1ac Zx5 Z146 Z1ez ((List.drop ((Int.toNat (IntKind.wrap .i64 (Z3t - (1 : Int)))) * 20) Z3v).take 20)))
 (Z6t m n0 Zq Z13 Zv Zz Zy Z11 Z1d Z1q Z4t Z3t Z6p Za0 Z91 Zph Zx1 Z1ac Zx5 Z146 Z1ez ((List.drop ((Int.toNat (IntKind.wrap .i64 (Z3t - (1 : Int)))) * 20) Z3v).take 20)))
 else none
 else none
 else none)
 (Z35 m n0 Zq Z13 Zv Zz Zy Z11 Z1d Z1q Z4t Z3t Z6p Za0 Z91 Zph Zx1 Z1ac Zx5 Z146 Z1ez)) := (Z1w m _).trans (by kernel_rfl)
theorem Z1cr (m n0 : Nat) (Zq : Nat) (Zv : Nat) (Zz : Option Nat) (Zy : List D) (Z11 : Int) (Z13 : Int) (Z1d : Nat) (Z1q : Option Nat) (Z4t : List D) (Zho : Nat) (Z6b : List D) : Zh5 m (n0 + 1) Zq Zv Zz Zy Z11 Z13 Z1d Z1q Z4t Zho Z6b =
 (cond (decide (Z13 < Z11))
 (if 0 ≤ Z13 ∧ Z13 < (Zv : Int) then
 if (((Int.toNat Z13) * 20) + 20) ≤ (List.length Zy) then
 if (List.length ((List.drop ((Int.toNat Z13) * 20) Zy).take 20)) = 20 then
 if 0 ≤ Z13 ∧ Z13 < (Z1d : Int) then
 if (((Int.toNat Z13) * 20) + 20) ≤ (List.length Z4t) then
 if (List.length ((List.drop ((Int.toNat Z13) * 20) Z4t).take 20)) = 20 then
 cond (Z13 == (0 : Int))
 ((rdI .i64 ((List.drop ((Int.toNat Z13) * 20) Z4t).take 20)[0]?).bind fun x57 =>
 cond (x57 != (-1 : Int))
 (some (D.tup [(D.list 0 (some 0) []),(D.v (.int .i64 (1 : Int)))]))
 (cond (decide (Z13 > (0 : Int)))
 ((rdI .i64 ((List.drop ((Int.toNat Z13) * 20) Z4t).take 20)[0]?).bind fun x58 =>
 cond (decide (x58 < (0 : Int)))
 (some (D.tup [(D.list 0 (some 0) []),(D.v (.int .i64 (1 : Int)))]))
 ((rdI .i64 ((List.drop ((Int.toNat Z13) * 20) Z4t).take 20)[0]?).bind fun x59 =>
 cond (decide (x59 ≥ Z13))
 (some (D.tup [(D.list 0 (some 0) []),(D.v (.int .i64 (1 : Int)))]))
 (Z2l m n0 Zq Z13 Zv Zz Zy Z11 Z1d Z1q Z4t Z1d Z1q Z4t Z13 Zq Zq Z1d Z1q Z4t Zho Z6b ((List.drop ((Int.toNat Z13) * 20) Zy).take 20) ((List.drop ((Int.toNat Z13) * 20) Z4t).take 20))))
 (Z2l m n0 Zq Z13 Zv Zz Zy Z11 Z1d Z1q Z4t Z1d Z1q Z4t Z13 Zq Zq Z1d Z1q Z4t Zho Z6b ((List.drop ((Int.toNat Z13) * 20) Zy).take 20) ((List.drop ((Int.toNat Z13) * 20) Z4t).take 20))))
 (cond (decide (Z13 > (0 : Int)))
 ((rdI .i64 ((List.drop ((Int.toNat Z13) * 20) Z4t).take 20)[0]?).bind fun x74 =>
 cond (decide (x74 < (0 : Int)))
 (some (D.tup [(D.list 0 (some 0) []),(D.v (.int .i64 (1 : Int)))]))
 ((rdI .i64 ((List.drop ((Int.toNat Z13) * 20) Z4t).take 20)[0]?).bind fun x75 =>
 cond (decide (x75 ≥ Z13))
 (some (D.tup [(D.list 0 (some 0) []),(D.v (.int .i64 (1 : Int)))]))
 (Z2l m n0 Zq Z13 Zv Zz Zy Z11 Z1d Z1q Z4t Z1d Z1q Z4t Z13 Zq Zq Z1d Z1q Z4t Zho Z6b ((List.drop ((Int.toNat Z13) * 20) Zy).take 20) ((List.drop ((Int.toNat Z13) * 20) Z4t).take 20))))
 (Z2l m n0 Zq Z13 Zv Zz Zy Z11 Z1d Z1q Z4t Z1d Z1q Z4t Z13 Zq Zq Z1d Z1q Z4t Zho Z6b ((List.drop ((Int.toNat Z13) * 20) Zy).take 20) ((List.drop ((Int.toNat Z13) * 20) Z4t).take 20)))
 else none
 else none
 else none
 else none
 else none
 else none)
 (if (0 + (Zq * 1)) ≤ Zho then
 some (D.tup [(D.list Zq (some Zq) (cutL Zho Z6b 0 (Zq * 1))),zI])
 else none)) := by kernel_rfl
noncomputable def Zoc (m : Nat) (a0_0n : Nat) (a0_0c : Option Nat) (a0_0 : List D) : Option D :=
 cond (decide ((a0_0n : Int) > (65536 : Int)))
 (some (D.tup [(D.list 0 (some 0) []),(D.v (.int .i64 (3 : Int)))]))
 (if 0 ≤ (a0_0n : Int) ∧ (a0_0n : Int) ≤ (a0_0n : Int) ∧ Z2v (Int.toNat (a0_0n : Int)) 8 then
 Zh5 m m (Int.toNat (a0_0n : Int)) a0_0n a0_0c a0_0 (a0_0n : Int) (0 : Int) a0_0n a0_0c a0_0 ((Int.toNat (a0_0n : Int)) * 1) (List.flatten (List.replicate (Int.toNat (a0_0n : Int)) [zI]))
 else none)
theorem Z1f0 (m : Nat) (a0_0n : Nat) (a0_0c : Option Nat) (a0_0 : List D) : funD Tg Zj m 4 Z1n Tryz.f50 [(D.agg [(D.list a0_0n a0_0c a0_0)])] = Zoc m a0_0n a0_0c a0_0 := by kernel_rfl
theorem Z1jq : Enters Tg 50 := ⟨Tryz.f50,Tryz.func50,by kernel_rfl,by kernel_rfl⟩
theorem Z1jr {ds : List D} {d : D} (h : funD Tg Zj M 4 Z1n Tryz.f50 ds = some d) : DataSem Tg 50 ds d := Z5 (H := Zj) (SpOk.cons Z1bi (SpOk.cons Zx0 SpOk.nil)) mixed (InlOk.cons Tryz.func76 Z1oc InlOk.nil) Tryz.func50 Z1jq h
noncomputable def Z2x : List D → Option D
 | [.agg [.list a0_0n a0_0c a0_0]] => Zoc M a0_0n a0_0c a0_0
 | _ => none
theorem Zk5 : ∀ ds d,Z2x ds = some d → DataSem Tg 50 ds d := by
 intro ds d h
 unfold Z2x at h
 split at h
 ·exact Z1jr ((Z1f0 M _ _ _).trans h)
 ·cases h
def Zfr : FnH := ⟨[],[]⟩
noncomputable def Z147 : Hints := ⟨[(50,Z2x)],[],[]⟩
noncomputable def Zvk (m : Nat) (a0_0n : Nat) (a0_0c : Option Nat) (a0_0 : List D) : Option D :=
 (Z2x [(D.agg [(D.list a0_0n a0_0c a0_0)])]).bind fun d1 =>
 (rdT d1).bind fun r2 =>
 if List.length r2 = 2 then
 (rdL r2[0]?).bind fun q3 =>
 (rdI .i64 r2[1]?).bind fun x4 =>
 some (D.v (.int .i64 x4))
 else none
theorem Z1js (m : Nat) (a0_0n : Nat) (a0_0c : Option Nat) (a0_0 : List D) : funD Tg Z147 m 4 Zfr Tryz.f41 [(D.agg [(D.list a0_0n a0_0c a0_0)])] = Zvk m a0_0n a0_0c a0_0 := by kernel_rfl
theorem Z1p7 : Enters Tg 41 := ⟨Tryz.f41,Tryz.func41,by kernel_rfl,by kernel_rfl⟩
theorem Z1p8 {ds : List D} {d : D} (h : funD Tg Z147 M 4 Zfr Tryz.f41 ds = some d) : DataSem Tg 41 ds d := Z5 (H := Z147) (SpOk.cons Zk5 SpOk.nil) mixed InlOk.nil Tryz.func41 Z1p7 h
noncomputable def Z94 : List D → Option D
 | [.agg [.list a0_0n a0_0c a0_0]] => Zvk M a0_0n a0_0c a0_0
 | _ => none
theorem Z1bj : ∀ ds d,Z94 ds = some d → DataSem Tg 41 ds d := by
 intro ds d h
 unfold Z94 at h
 split at h
 ·exact Z1p8 ((Z1js M _ _ _).trans h)
 ·cases h
end Go.Ev