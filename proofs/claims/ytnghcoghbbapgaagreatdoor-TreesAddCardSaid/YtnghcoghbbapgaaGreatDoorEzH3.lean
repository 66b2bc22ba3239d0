/- Functions of the given program in plain form,printed: each with the proof that it is what the evaluator comes to,and that the program function returns what it says. No conditions. -/
import Derived.Test.YtnghcoghbbapgaaGreatDoorEzH2
set_option linter.unusedVariables false
set_option maxRecDepth 100000
namespace Go.Ev
open Go Go.Proofs
def Zd : FnH := ⟨[(19,⟨(bm 2166395068749415481073475612 171),[],(some 3)⟩),(26,⟨(bm 2993155353256071153049593106647191246507372225568796 172),[],(some 4)⟩)],[(7,⟨(bm 668 171),[],(some 3)⟩),(14,⟨(bm 28 171),[],(some 3)⟩),(30,⟨(bm 2381976568446569244243622252022377816092 171),[],(some 7)⟩),(33,⟨(bm 2381976568446569244243622252022377816092 171),[],(some 7)⟩),(37,⟨(bm 73744 171),[],(some 6)⟩)]⟩
noncomputable def Zo : Hints := ⟨[(47,Z95),(50,Z2x),(51,Z93),(52,Z5d),(53,Z2k)],[],[]⟩
noncomputable def Z1bz (m : Nat) (Z2z : Nat) (Z4j : Option Nat) (Z3v : List D) (Z3t : Bool) (Z6p : Nat) (Za0 : Option Nat) (Z91 : List D) (Zph : List D) : Option D :=
 cutK m (codeK Tg Zo.sp ⟨0,[],false,[]⟩ (inlK Tg Zo m 4) m Zd (subc [1,1,1,1,1] (bodyOf Tryz.f25)) ⟨[Jk,Jk,(AV.ptr 0 0),(AV.ptr 1 0),(AV.ptr 2 0),Jk,Jk,(AV.d (D.list Z2z Z4j Z3v)),Jk,(AV.d (D.v (.bool Z3t))),Jk,Jk,Jk,Jk,Jk,Jk,Jk,Jk,Jk,Jk,Jk,Jk,Jk,Jk,Jk,Jk,Jk,Jk,Jk,Jk,Jk,Jk,Jk,Jk,Jk,Jk,Jk,Jk,Jk,Jk,Jk,Jk,Jk,Jk,Jk,Jk,Jk,Jk,Jk,Jk,Jk,Jk,Jk,Jk,Jk,Jk,Jk,Jk,Jk,Jk,Jk,Jk,Jk,Jk,Jk,Jk,Jk,Jk,Jk,Jk,Jk,Jk,Jk,Jk,Jk,Jk,Jk,Jk,Jk,Jk,Jk,Jk,Jk,Jk,Jk,Jk,Jk,Jk,Jk,Jk,Jk,Jk,Jk,Jk,Jk,Jk,Jk,Jk,Jk,Jk,Jk,Jk,Jk,Jk,Jk,Jk,Jk,Jk,Jk,Jk,Jk,Jk,Jk,Jk,Jk,Jk,Jk,Jk,Jk,Jk,Jk,Jk,Jk,Jk,Jk,Jk,Jk,Jk,Jk,Jk,Jk,Jk,Jk,Jk,Jk,Jk,Jk,Jk,Jk,Jk,Jk,Jk,Jk,Jk,Jk,Jk,Jk,Jk,Jk,Jk,Jk,Jk,Jk,Jk,Jk,Jk,Jk,Jk,Jk,Jk,Jk,Jk,Jk,Jk,Jk,Jk,Jk,Jk,Jk,Jk,Jk],[(Blk.d 1 [(D.list Z6p Za0 Z91)]),(Blk.d 20 Zph),(Blk.d 1 [(D.list 0 (some 0) [])])]⟩
  (contK Tg Zo.sp ⟨0,[],false,[]⟩ (inlK Tg Zo m 4) m Zd (endK Tg Tryz.f25 endV) []))
noncomputable def Zgf (m : Nat) (Zd7 : Nat) (Zis : Option Nat) (Zit : List D) (Zgz : List D) : Option D :=
 cutK m (codeK Tg Zo.sp ⟨0,[],false,[]⟩ (inlK Tg Zo m 4) m Zd (subc [1,1,1,1,1,1,1,1] (bodyOf Tryz.f25)) ⟨[Jk,Jk,(AV.ptr 0 0),(AV.ptr 1 0),(AV.ptr 2 0),Jk,Jk,Jk,Jk,Jk,Jk,Jk,Jk,Jk,Jk,Jk,Jk,Jk,Jk,Jk,Jk,Jk,Jk,Jk,Jk,Jk,Jk,Jk,Jk,Jk,Jk,Jk,Jk,Jk,Jk,Jk,Jk,Jk,Jk,Jk,Jk,Jk,Jk,Jk,Jk,Jk,Jk,Jk,Jk,Jk,Jk,Jk,Jk,Jk,Jk,Jk,Jk,Jk,Jk,Jk,Jk,Jk,Jk,Jk,Jk,Jk,Jk,Jk,Jk,Jk,Jk,Jk,Jk,Jk,Jk,Jk,Jk,Jk,Jk,Jk,Jk,Jk,Jk,Jk,Jk,Jk,Jk,Jk,Jk,Jk,Jk,Jk,Jk,Jk,Jk,Jk,Jk,Jk,Jk,Jk,Jk,Jk,Jk,Jk,Jk,Jk,Jk,Jk,Jk,Jk,Jk,Jk,Jk,Jk,Jk,Jk,Jk,Jk,Jk,Jk,Jk,Jk,Jk,Jk,Jk,Jk,Jk,Jk,Jk,Jk,Jk,Jk,Jk,Jk,Jk,Jk,Jk,Jk,Jk,Jk,Jk,Jk,Jk,Jk,Jk,Jk,Jk,Jk,Jk,Jk,Jk,Jk,Jk,Jk,Jk,Jk,Jk,Jk,Jk,Jk,Jk,Jk,Jk,Jk,Jk,Jk,Jk,Jk,Jk,Jk,Jk],[(Blk.d 1 [(D.list Zd7 Zis Zit)]),(Blk.d 20 Zgz),(Blk.d 1 [(D.list 0 (some 0) [])])]⟩
  (contK Tg Zo.sp ⟨0,[],false,[]⟩ (inlK Tg Zo m 4) m Zd (endK Tg Tryz.f25 endV) []))
noncomputable def Z5b (m n0 : Nat) (Zq : Int) (Zv : Nat) (Zz : Option Nat) (Zy : List D) (Z11 : Int) (Z13 : Int) (Z1d : List D) : Option D :=
 Z1k (bm 2166395068749415481073475612 171) 0 3 (codeK Tg Zo.sp ⟨0,[],false,[]⟩ (inlK Tg Zo m 4) m Zd (subc [1,1,1,1,1,1,1,1,1,1,0,1,0,0] (bodyOf Tryz.f25))) n0 ⟨[Jk,Jk,(AV.ptr 0 0),(AV.ptr 1 0),(AV.ptr 2 0),Jk,Jk,Jk,Jk,Jk,Jk,Jk,Jk,(AV.d (D.v (.int .i64 Zq))),Jk,Jk,Jk,Jk,Jk,Jk,Jk,Jk,Jk,Jk,Jk,Jk,Jk,Jk,Jk,Jk,Jk,Jk,Jk,Jk,Jk,Jk,Jk,Jk,Jk,Jk,Jk,Jk,Jk,Jk,Jk,Jk,Jk,Jk,Jk,Jk,Jk,Jk,Jk,Jk,Jk,Jk,Jk,Jk,Jk,Jk,Jk,Jk,Jk,Jk,Jk,Jk,Jk,Jk,Jk,Jk,Jk,Jk,Jk,Jk,Jk,Jk,Jk,Jk,Jk,Jk,Jk,Jk,Jk,Jk,Jk,Jk,Jk,Jk,(AV.d (D.list Zv Zz Zy)),(AV.d (D.v (.int .i64 Z11))),(AV.d (D.v (.int .i64 Z13))),Jk,Jk,Jk,Jk,Jk,Jk,Jk,Jk,Jk,Jk,Jk,Jk,Jk,Jk,Jk,Jk,Jk,Jk,Jk,Jk,Jk,Jk,Jk,Jk,Jk,Jk,Jk,Jk,Jk,Jk,Jk,Jk,Jk,Jk,Jk,Jk,Jk,Jk,Jk,Jk,Jk,Jk,Jk,Jk,Jk,Jk,Jk,Jk,Jk,Jk,Jk,Jk,Jk,Jk,Jk,Jk,Jk,Jk,Jk,Jk,Jk,Jk,Jk,Jk,Jk,Jk,Jk,Jk,Jk,Jk,Jk,Jk,Jk,Jk,Jk,Jk,Jk,Jk,Jk,Jk],[(Blk.d 1 [(D.list Zv Zz Zy)]),(Blk.d 20 Z1d),(Blk.d 1 [(D.list 0 (some 0) [])])]⟩
  (contK Tg Zo.sp ⟨0,[],false,[]⟩ (inlK Tg Zo m 4) m Zd (endK Tg Tryz.f25 endV) [.block 0,.code (subc [1,1,1,1,1,1,1,1,1,1,1] (bodyOf Tryz.f25))])
noncomputable def Zcj (m n0 : Nat) (Zf5 : Int) (Zav : Nat) (Zic : Nat) (Zug : Nat) (Zn0 : Option Nat) (Zq7 : List D) (Zpc : Int) (Zh1 : Int) (Zrj : Nat) (Zpi : Option Nat) (Zj6 : List D) (Zh4 : List D) (Z8t : Nat) (Zj7 : List D) : Option D :=
 Z1k (bm 2993155353256071153049593106647191246507372225568796 172) 0 4 (codeK Tg Zo.sp ⟨0,[],false,[]⟩ (inlK Tg Zo m 4) m Zd (subc [1,1,1,1,1,1,1,1,1,1,1,1,0,1,0,0] (bodyOf Tryz.f25))) n0 ⟨[Jk,Jk,(AV.ptr 0 0),(AV.ptr 1 0),(AV.ptr 2 0),Jk,Jk,Jk,Jk,Jk,Jk,Jk,Jk,(AV.d (D.v (.int .i64 Zf5))),Jk,Jk,(AV.sl 3 0 Zav (some Zic) 20),Jk,Jk,Jk,Jk,Jk,Jk,Jk,Jk,Jk,Jk,Jk,Jk,Jk,Jk,Jk,Jk,Jk,Jk,Jk,Jk,Jk,Jk,Jk,Jk,Jk,Jk,Jk,Jk,Jk,Jk,Jk,Jk,Jk,Jk,Jk,Jk,Jk,Jk,Jk,Jk,Jk,Jk,Jk,Jk,Jk,Jk,Jk,Jk,Jk,Jk,Jk,Jk,Jk,Jk,Jk,Jk,Jk,Jk,Jk,Jk,Jk,Jk,Jk,Jk,Jk,Jk,Jk,Jk,Jk,Jk,Jk,Jk,Jk,Jk,Jk,Jk,Jk,Jk,Jk,Jk,Jk,Jk,Jk,Jk,Jk,Jk,Jk,Jk,Jk,Jk,Jk,Jk,Jk,Jk,Jk,Jk,Jk,Jk,Jk,Jk,Jk,Jk,Jk,Jk,Jk,Jk,Jk,Jk,Jk,Jk,Jk,(AV.d (D.list Zug Zn0 Zq7)),(AV.d (D.v (.int .i64 Zpc))),(AV.d (D.v (.int .i64 Zh1))),Jk,Jk,Jk,Jk,Jk,Jk,Jk,Jk,Jk,Jk,Jk,Jk,Jk,Jk,Jk,Jk,Jk,Jk,Jk,Jk,Jk,Jk,Jk,Jk,Jk,Jk,Jk,Jk,Jk,Jk,Jk,Jk,Jk,Jk,Jk,Jk,Jk,Jk,Jk,Jk],[(Blk.d 1 [(D.list Zrj Zpi Zj6)]),(Blk.d 20 Zh4),(Blk.d 1 [(D.list 0 (some 0) [])]),(Blk.d Z8t Zj7)]⟩
  (contK Tg Zo.sp ⟨0,[],false,[]⟩ (inlK Tg Zo m 4) m Zd (endK Tg Tryz.f25 endV) [.block 2,.code (subc [1,1,1,1,1,1,1,1,1,1,1,1,1] (bodyOf Tryz.f25))])
noncomputable def Z19n (m n0 : Nat) (Z10h : Int) (Z15c : Nat) (Zx2 : Nat) (Z13s : Nat) (Z13t : Option Nat) (Z16d : List D) (Z117 : Int) (Z1bg : Int) (Z1ch : Nat) (Z1oa : Option Nat) (Z1p9 : List D) (Z1pa : List D) (Z1pb : Nat) (Z1pc : List D) (Z1sl : List D) (Z1pd : List D) : Option D :=
 cutK m (codeK Tg Zo.sp ⟨0,[],false,[]⟩ (inlK Tg Zo m 4) m Zd (subc [1,1,1,1,1,1,1,1,1,1,1,1,0,1,0,0,1,1,0,0,1,1] (bodyOf Tryz.f25)) ⟨[Jk,Jk,(AV.ptr 0 0),(AV.ptr 1 0),(AV.ptr 2 0),Jk,Jk,Jk,Jk,Jk,Jk,Jk,Jk,(AV.d (D.v (.int .i64 Z10h))),Jk,Jk,(AV.sl 3 0 Z15c (some Zx2) 20),Jk,(AV.ptr 4 0),Jk,Jk,Jk,Jk,Jk,Jk,Jk,Jk,Jk,Jk,Jk,Jk,Jk,Jk,Jk,Jk,Jk,Jk,Jk,Jk,Jk,Jk,Jk,Jk,Jk,Jk,Jk,Jk,Jk,Jk,Jk,Jk,Jk,Jk,Jk,Jk,Jk,Jk,Jk,Jk,Jk,Jk,Jk,Jk,Jk,Jk,Jk,Jk,Jk,Jk,Jk,Jk,Jk,Jk,Jk,Jk,Jk,Jk,Jk,Jk,Jk,Jk,Jk,Jk,Jk,Jk,Jk,Jk,Jk,Jk,Jk,Jk,Jk,Jk,Jk,Jk,Jk,Jk,Jk,Jk,Jk,Jk,Jk,Jk,Jk,Jk,Jk,Jk,Jk,Jk,Jk,Jk,Jk,Jk,Jk,Jk,Jk,Jk,Jk,Jk,Jk,Jk,Jk,Jk,Jk,Jk,Jk,Jk,Jk,(AV.d (D.list Z13s Z13t Z16d)),(AV.d (D.v (.int .i64 Z117))),(AV.d (D.v (.int .i64 Z1bg))),Jk,Jk,Jk,Jk,Jk,Jk,Jk,Jk,Jk,Jk,Jk,Jk,Jk,Jk,Jk,Jk,Jk,Jk,Jk,Jk,Jk,Jk,Jk,Jk,Jk,Jk,Jk,Jk,Jk,Jk,Jk,Jk,Jk,Jk,Jk,Jk,Jk,Jk,Jk,Jk],[(Blk.d 1 [(D.list Z1ch Z1oa Z1p9)]),(Blk.d 20 Z1pa),(Blk.d 1 [(D.list 0 (some 0) [])]),(Blk.d Z1pb Z1pc),(Blk.d 20 Z1sl),(Blk.d 20 Z1pd)]⟩
  (contK Tg Zo.sp ⟨0,[],false,[]⟩ (inlK Tg Zo m 4) m Zd (endK Tg Tryz.f25 endV) [.block 3,.code (subc [1,1,1,1,1,1,1,1,1,1,1,1,0,1,0,0,1,1,1] (bodyOf Tryz.f25)),.loop (bm 2993155353256071153049593106647191246507372225568796 172) 4 (subc [1,1,1,1,1,1,1,1,1,1,1,1,0,1,0,0] (bodyOf Tryz.f25)) n0,.block 2,.code (subc [1,1,1,1,1,1,1,1,1,1,1,1,1] (bodyOf Tryz.f25))]))
noncomputable def Zgg (m n0 : Nat) (Z1p3 : Int) (Z1jl : Nat) (Z1s9 : Nat) (Z1sa : Nat) (Z1sb : Option Nat) (Z1sc : List D) (Z1sd : Int) (Z1qn : Int) (Z1xw : Nat) (Z24m : Option Nat) (Z22k : List D) (Z22l : List D) (Z1z2 : Nat) (Z210 : List D) (Z1x2 : List D) (Z23s : List D) : Option D :=
 cutK m (codeK Tg Zo.sp ⟨0,[],false,[]⟩ (inlK Tg Zo m 4) m Zd (subc [1,1,1,1,1,1,1,1,1,1,1,1,0,1,0,0,1,1,0,0,1,1,1,1] (bodyOf Tryz.f25)) ⟨[Jk,Jk,(AV.ptr 0 0),(AV.ptr 1 0),(AV.ptr 2 0),Jk,Jk,Jk,Jk,Jk,Jk,Jk,Jk,(AV.d (D.v (.int .i64 Z1p3))),Jk,Jk,(AV.sl 3 0 Z1jl (some Z1s9) 20),Jk,(AV.ptr 4 0),Jk,Jk,Jk,Jk,Jk,Jk,Jk,Jk,Jk,Jk,Jk,Jk,Jk,Jk,Jk,Jk,Jk,Jk,Jk,Jk,Jk,Jk,Jk,Jk,Jk,Jk,Jk,Jk,Jk,Jk,Jk,Jk,Jk,Jk,Jk,Jk,Jk,Jk,Jk,Jk,Jk,Jk,Jk,Jk,Jk,Jk,Jk,Jk,Jk,Jk,Jk,Jk,Jk,Jk,Jk,Jk,Jk,Jk,Jk,Jk,Jk,Jk,Jk,Jk,Jk,Jk,Jk,Jk,Jk,Jk,Jk,Jk,Jk,Jk,Jk,Jk,Jk,Jk,Jk,Jk,Jk,Jk,Jk,Jk,Jk,Jk,Jk,Jk,Jk,Jk,Jk,Jk,Jk,Jk,Jk,Jk,Jk,Jk,Jk,Jk,Jk,Jk,Jk,Jk,Jk,Jk,Jk,Jk,Jk,(AV.d (D.list Z1sa Z1sb Z1sc)),(AV.d (D.v (.int .i64 Z1sd))),(AV.d (D.v (.int .i64 Z1qn))),Jk,Jk,Jk,Jk,Jk,Jk,Jk,Jk,Jk,Jk,Jk,Jk,Jk,Jk,Jk,Jk,Jk,Jk,Jk,Jk,Jk,Jk,Jk,Jk,Jk,Jk,Jk,Jk,Jk,Jk,Jk,Jk,Jk,Jk,Jk,Jk,Jk,Jk,Jk,Jk],[(Blk.d 1 [(D.list Z1xw Z24m Z22k)]),(Blk.d 20 Z22l),(Blk.d 1 [(D.list 0 (some 0) [])]),(Blk.d Z1z2 Z210),(Blk.d 20 Z1x2),(Blk.d 20 Z23s)]⟩
  (contK Tg Zo.sp ⟨0,[],false,[]⟩ (inlK Tg Zo m 4) m Zd (endK Tg Tryz.f25 endV) [.block 3,.code (subc [1,1,1,1,1,1,1,1,1,1,1,1,0,1,0,0,1,1,1] (bodyOf Tryz.f25)),.loop (bm 2993155353256071153049593106647191246507372225568796 172) 4 (subc [1,1,1,1,1,1,1,1,1,1,1,1,0,1,0,0] (bodyOf Tryz.f25)) n0,.block 2,.code (subc [1,1,1,1,1,1,1,1,1,1,1,1,1] (bodyOf Tryz.f25))]))
theorem Z1i1 (m n0 : Nat) (Z1p3 : Int) (Z1jl : Nat) (Z1s9 : Nat) (Z1sa : Nat) (Z1sb : Option Nat) (Z1sc : List D) (Z1sd : Int) (Z1qn : Int) (Z1xw : Nat) (Z24m : Option Nat) (Z22k : List D) (Z22l : List D) (Z1z2 : Nat) (Z210 : List D) (Z1x2 : List D) (Z23s : List D) : Zgg m n0 Z1p3 Z1jl Z1s9 Z1sa Z1sb Z1sc Z1sd Z1qn Z1xw Z24m Z22k Z22l Z1z2 Z210 Z1x2 Z23s =
 (if (List.length Z1x2) = 20 then
 if (Z1jl + 1) ≤ Z1s9 then
 (if (0 + ((Z1jl + 1) * 20)) ≤ Z1z2 ∧ (List.length Z1x2) = 20 then
 Zcj m n0 Z1p3 (Z1jl + 1) Z1s9 Z1sa Z1sb Z1sc Z1sd (IntKind.wrap .i64 (Z1qn + (1 : Int))) Z1xw Z24m Z22k Z22l Z1z2 (List.take (0 + (Z1jl * 20)) Z210 ++ (Z1x2 ++ List.drop (0 + ((Z1jl + 1) * 20)) Z210))
 else none)
 else
 (if Z2v (Z1jl + 1) 128 ∧ (List.length Z1x2) = 20 then
 if (0 + (Z1jl * 20)) ≤ Z1z2 then
 none
 else none
 else none)
 else none) := (Z1w m _).trans (by kernel_rfl)
theorem Z1i2 (m n0 : Nat) (Z10h : Int) (Z15c : Nat) (Zx2 : Nat) (Z13s : Nat) (Z13t : Option Nat) (Z16d : List D) (Z117 : Int) (Z1bg : Int) (Z1ch : Nat) (Z1oa : Option Nat) (Z1p9 : List D) (Z1pa : List D) (Z1pb : Nat) (Z1pc : List D) (Z1sl : List D) (Z1pd : List D) : Z19n m n0 Z10h Z15c Zx2 Z13s Z13t Z16d Z117 Z1bg Z1ch Z1oa Z1p9 Z1pa Z1pb Z1pc Z1sl Z1pd =
 ((Z2k [(D.agg Z1sl)]).bind fun d59 =>
 (rdA (some d59)).bind fun c60 =>
 if (List.length c60) = 20 then
 (rdI .i64 c60[0]?).bind fun x61 =>
 cond (decide (x61 ≥ Z10h))
 ((rdI .i64 c60[0]?).bind fun x62 =>
 Zgg m n0 Z10h Z15c Zx2 Z13s Z13t Z16d Z117 Z1bg Z1ch Z1oa Z1p9 Z1pa Z1pb Z1pc (List.set c60 0 (D.v (.int .i64 (IntKind.wrap .i64 (x62 + (1 : Int)))))) Z1pd)
 (Zgg m n0 Z10h Z15c Zx2 Z13s Z13t Z16d Z117 Z1bg Z1ch Z1oa Z1p9 Z1pa Z1pb Z1pc c60 Z1pd)
 else none) := (Z1w m _).trans (by kernel_rfl)
noncomputable def Z1i3 (m n0 : Nat) (Z240 : Int) (Z241 : Nat) (Z242 : Nat) (Z243 : Option Nat) (Z244 : List D) (Z245 : Int) (Z246 : Int) (Z247 : Nat) (Z248 : Option Nat) (Z25b : List D) (Z24y : List D) (Z24z : Nat) (Z250 : List D) (Z251 : List D) (Z252 : List D) (Z253 : Nat) (Z254 : List D) : Option D :=
 cutK m (codeK Tg Zo.sp ⟨0,[],false,[]⟩ (inlK Tg Zo m 4) m Zd (subc [1,1,1,1,1,1,1,1,1,1,1,1,0,1,0,0,1,1,0,0,1,1] (bodyOf Tryz.f25)) ⟨[Jk,Jk,(AV.ptr 0 0),(AV.ptr 1 0),(AV.ptr 2 0),Jk,Jk,Jk,Jk,Jk,Jk,Jk,Jk,(AV.d (D.v (.int .i64 Z240))),Jk,Jk,(AV.sl 6 0 Z241 none 20),Jk,(AV.ptr 4 0),Jk,Jk,Jk,Jk,Jk,Jk,Jk,Jk,Jk,Jk,Jk,Jk,Jk,Jk,Jk,Jk,Jk,Jk,Jk,Jk,Jk,Jk,Jk,Jk,Jk,Jk,Jk,Jk,Jk,Jk,Jk,Jk,Jk,Jk,Jk,Jk,Jk,Jk,Jk,Jk,Jk,Jk,Jk,Jk,Jk,Jk,Jk,Jk,Jk,Jk,Jk,Jk,Jk,Jk,Jk,Jk,Jk,Jk,Jk,Jk,Jk,Jk,Jk,Jk,Jk,Jk,Jk,Jk,Jk,Jk,Jk,Jk,Jk,Jk,Jk,Jk,Jk,Jk,Jk,Jk,Jk,Jk,Jk,Jk,Jk,Jk,Jk,Jk,Jk,Jk,Jk,Jk,Jk,Jk,Jk,Jk,Jk,Jk,Jk,Jk,Jk,Jk,Jk,Jk,Jk,Jk,Jk,Jk,Jk,(AV.d (D.list Z242 Z243 Z244)),(AV.d (D.v (.int .i64 Z245))),(AV.d (D.v (.int .i64 Z246))),Jk,Jk,Jk,Jk,Jk,Jk,Jk,Jk,Jk,Jk,Jk,Jk,Jk,Jk,Jk,Jk,Jk,Jk,Jk,Jk,Jk,Jk,Jk,Jk,Jk,Jk,Jk,Jk,Jk,Jk,Jk,Jk,Jk,Jk,Jk,Jk,Jk,Jk,Jk,Jk],[(Blk.d 1 [(D.list Z247 Z248 Z25b)]),(Blk.d 20 Z24y),(Blk.d 1 [(D.list 0 (some 0) [])]),(Blk.d Z24z Z250),(Blk.d 20 Z251),(Blk.d 20 Z252),(Blk.d Z253 Z254)]⟩
  (contK Tg Zo.sp ⟨0,[],false,[]⟩ (inlK Tg Zo m 4) m Zd (endK Tg Tryz.f25 endV) [.block 3,.code (subc [1,1,1,1,1,1,1,1,1,1,1,1,0,1,0,0,1,1,1] (bodyOf Tryz.f25)),.loop (bm 2993155353256071153049593106647191246507372225568796 172) 4 (subc [1,1,1,1,1,1,1,1,1,1,1,1,0,1,0,0] (bodyOf Tryz.f25)) n0,.block 2,.code (subc [1,1,1,1,1,1,1,1,1,1,1,1,1] (bodyOf Tryz.f25))]))
noncomputable def Z134 (m n0 : Nat) (Z249 : Int) (Z24b : Nat) (Z24c : Nat) (Z24d : Nat) (Z24e : Option Nat) (Z24f : List D) (Z24g : Int) (Z24h : Int) (Z24i : Nat) (Z24j : Option Nat) (Z211 : List D) (Z212 : List D) (Z213 : Nat) (Z214 : List D) (Z22m : List D) : Option D :=
 cutK m (codeK Tg Zo.sp ⟨0,[],false,[]⟩ (inlK Tg Zo m 4) m Zd (subc [1,1,1,1,1,1,1,1,1,1,1,1,0,1,0,0,1,1,0,0,1,1] (bodyOf Tryz.f25)) ⟨[Jk,Jk,(AV.ptr 0 0),(AV.ptr 1 0),(AV.ptr 2 0),Jk,Jk,Jk,Jk,Jk,Jk,Jk,Jk,(AV.d (D.v (.int .i64 Z249))),Jk,Jk,(AV.sl 3 0 Z24b (some Z24c) 20),Jk,(AV.ptr 4 0),Jk,Jk,Jk,Jk,Jk,Jk,Jk,Jk,Jk,Jk,Jk,Jk,Jk,Jk,Jk,Jk,Jk,Jk,Jk,Jk,Jk,Jk,Jk,Jk,Jk,Jk,Jk,Jk,Jk,Jk,Jk,Jk,Jk,Jk,Jk,Jk,Jk,Jk,Jk,Jk,Jk,Jk,Jk,Jk,Jk,Jk,Jk,Jk,Jk,Jk,Jk,Jk,Jk,Jk,Jk,Jk,Jk,Jk,Jk,Jk,Jk,Jk,Jk,Jk,Jk,Jk,Jk,Jk,Jk,Jk,Jk,Jk,Jk,Jk,Jk,Jk,Jk,Jk,Jk,Jk,Jk,Jk,Jk,Jk,Jk,Jk,Jk,Jk,Jk,Jk,Jk,Jk,Jk,Jk,Jk,Jk,Jk,Jk,Jk,Jk,Jk,Jk,Jk,Jk,Jk,Jk,Jk,Jk,Jk,(AV.d (D.list Z24d Z24e Z24f)),(AV.d (D.v (.int .i64 Z24g))),(AV.d (D.v (.int .i64 Z24h))),Jk,Jk,Jk,Jk,Jk,Jk,Jk,Jk,Jk,Jk,Jk,Jk,Jk,Jk,Jk,Jk,Jk,Jk,Jk,Jk,Jk,Jk,Jk,Jk,Jk,Jk,Jk,Jk,Jk,Jk,Jk,Jk,Jk,Jk,Jk,Jk,Jk,Jk,Jk,Jk],[(Blk.d 1 [(D.list Z24i Z24j Z211)]),(Blk.d 20 Z212),(Blk.d 1 [(D.list 0 (some 0) [])]),(Blk.d Z213 Z214),(Blk.d 20 Z22m)]⟩
  (contK Tg Zo.sp ⟨0,[],false,[]⟩ (inlK Tg Zo m 4) m Zd (endK Tg Tryz.f25 endV) [.block 3,.code (subc [1,1,1,1,1,1,1,1,1,1,1,1,0,1,0,0,1,1,1] (bodyOf Tryz.f25)),.loop (bm 2993155353256071153049593106647191246507372225568796 172) 4 (subc [1,1,1,1,1,1,1,1,1,1,1,1,0,1,0,0] (bodyOf Tryz.f25)) n0,.block 2,.code (subc [1,1,1,1,1,1,1,1,1,1,1,1,1] (bodyOf Tryz.f25))]))
noncomputable def Zaf (m n0 : Nat) (Z24n : Int) (Z21a : Nat) (Z24k : Nat) (Z24o : Nat) (Z24p : Option Nat) (Z24q : List D) (Z24r : Int) (Z24s : Int) (Z24t : Nat) (Z24u : Option Nat) (Z22n : List D) (Z22o : List D) (Z1z3 : Nat) (Z215 : List D) (Z1x3 : List D) : Option D :=
 cutK m (codeK Tg Zo.sp ⟨0,[],false,[]⟩ (inlK Tg Zo m 4) m Zd (subc [1,1,1,1,1,1,1,1,1,1,1,1,0,1,0,0,1,1,0,0,1,1,1,1] (bodyOf Tryz.f25)) ⟨[Jk,Jk,(AV.ptr 0 0),(AV.ptr 1 0),(AV.ptr 2 0),Jk,Jk,Jk,Jk,Jk,Jk,Jk,Jk,(AV.d (D.v (.int .i64 Z24n))),Jk,Jk,(AV.sl 3 0 Z21a (some Z24k) 20),Jk,(AV.ptr 4 0),Jk,Jk,Jk,Jk,Jk,Jk,Jk,Jk,Jk,Jk,Jk,Jk,Jk,Jk,Jk,Jk,Jk,Jk,Jk,Jk,Jk,Jk,Jk,Jk,Jk,Jk,Jk,Jk,Jk,Jk,Jk,Jk,Jk,Jk,Jk,Jk,Jk,Jk,Jk,Jk,Jk,Jk,Jk,Jk,Jk,Jk,Jk,Jk,Jk,Jk,Jk,Jk,Jk,Jk,Jk,Jk,Jk,Jk,Jk,Jk,Jk,Jk,Jk,Jk,Jk,Jk,Jk,Jk,Jk,Jk,Jk,Jk,Jk,Jk,Jk,Jk,Jk,Jk,Jk,Jk,Jk,Jk,Jk,Jk,Jk,Jk,Jk,Jk,Jk,Jk,Jk,Jk,Jk,Jk,Jk,Jk,Jk,Jk,Jk,Jk,Jk,Jk,Jk,Jk,Jk,Jk,Jk,Jk,Jk,(AV.d (D.list Z24o Z24p Z24q)),(AV.d (D.v (.int .i64 Z24r))),(AV.d (D.v (.int .i64 Z24s))),Jk,Jk,Jk,Jk,Jk,Jk,Jk,Jk,Jk,Jk,Jk,Jk,Jk,Jk,Jk,Jk,Jk,Jk,Jk,Jk,Jk,Jk,Jk,Jk,Jk,Jk,Jk,Jk,Jk,Jk,Jk,Jk,Jk,Jk,Jk,Jk,Jk,Jk,Jk,Jk],[(Blk.d 1 [(D.list Z24t Z24u Z22n)]),(Blk.d 20 Z22o),(Blk.d 1 [(D.list 0 (some 0) [])]),(Blk.d Z1z3 Z215),(Blk.d 20 Z1x3)]⟩
  (contK Tg Zo.sp ⟨0,[],false,[]⟩ (inlK Tg Zo m 4) m Zd (endK Tg Tryz.f25 endV) [.block 3,.code (subc [1,1,1,1,1,1,1,1,1,1,1,1,0,1,0,0,1,1,1] (bodyOf Tryz.f25)),.loop (bm 2993155353256071153049593106647191246507372225568796 172) 4 (subc [1,1,1,1,1,1,1,1,1,1,1,1,0,1,0,0] (bodyOf Tryz.f25)) n0,.block 2,.code (subc [1,1,1,1,1,1,1,1,1,1,1,1,1] (bodyOf Tryz.f25))]))
theorem Z1d9 (m n0 : Nat) (Z24n : Int) (Z21a : Nat) (Z24k : Nat) (Z24o : Nat) (Z24p : Option Nat) (Z24q : List D) (Z24r : Int) (Z24s : Int) (Z24t : Nat) (Z24u : Option Nat) (Z22n : List D) (Z22o : List D) (Z1z3 : Nat) (Z215 : List D) (Z1x3 : List D) : Zaf m n0 Z24n Z21a Z24k Z24o Z24p Z24q Z24r Z24s Z24t Z24u Z22n Z22o Z1z3 Z215 Z1x3 =
 (if (List.length Z1x3) = 20 then
 if (Z21a + 1) ≤ Z24k then
 (if (0 + ((Z21a + 1) * 20)) ≤ Z1z3 ∧ (List.length Z1x3) = 20 then
 Zcj m n0 Z24n (Z21a + 1) Z24k Z24o Z24p Z24q Z24r (IntKind.wrap .i64 (Z24s + (1 : Int))) Z24t Z24u Z22n Z22o Z1z3 (List.take (0 + (Z21a * 20)) Z215 ++ (Z1x3 ++ List.drop (0 + ((Z21a + 1) * 20)) Z215))
 else none)
 else
 (if Z2v (Z21a + 1) 128 ∧ (List.length Z1x3) = 20 then
 if (0 + (Z21a * 20)) ≤ Z1z3 then
 none
 else none
 else none)
 else none) := (Z1w m _).trans (by kernel_rfl)
theorem Z1da (m n0 : Nat) (Z249 : Int) (Z24b : Nat) (Z24c : Nat) (Z24d : Nat) (Z24e : Option Nat) (Z24f : List D) (Z24g : Int) (Z24h : Int) (Z24i : Nat) (Z24j : Option Nat) (Z211 : List D) (Z212 : List D) (Z213 : Nat) (Z214 : List D) (Z22m : List D) : Z134 m n0 Z249 Z24b Z24c Z24d Z24e Z24f Z24g Z24h Z24i Z24j Z211 Z212 Z213 Z214 Z22m =
 ((Z2k [(D.agg Z22m)]).bind fun d67 =>
 (rdA (some d67)).bind fun c68 =>
 if (List.length c68) = 20 then
 (rdI .i64 c68[0]?).bind fun x69 =>
 cond (decide (x69 ≥ Z249))
 ((rdI .i64 c68[0]?).bind fun x70 =>
 Zaf m n0 Z249 Z24b Z24c Z24d Z24e Z24f Z24g Z24h Z24i Z24j Z211 Z212 Z213 Z214 (List.set c68 0 (D.v (.int .i64 (IntKind.wrap .i64 (x70 + (1 : Int)))))))
 (Zaf m n0 Z249 Z24b Z24c Z24d Z24e Z24f Z24g Z24h Z24i Z24j Z211 Z212 Z213 Z214 c68)
 else none) := (Z1w m _).trans (by kernel_rfl)
noncomputable def Z19o (m : Nat) (Z24v : Int) (Z24a : Nat) (Z24w : Nat) (Z255 : Nat) (Z256 : Option Nat) (Z257 : List D) (Z258 : List D) (Z24l : Nat) (Z24x : List D) (Z259 : List D) : Option D :=
 cutK m (codeK Tg Zo.sp ⟨0,[],false,[]⟩ (inlK Tg Zo m 4) m Zd (subc [1,1,1,1,1,1,1,1,1,1,1,1,1,1] (bodyOf Tryz.f25)) ⟨[Jk,Jk,Jk,Jk,(AV.ptr 2 0),Jk,Jk,Jk,Jk,Jk,Jk,Jk,Jk,(AV.d (D.v (.int .i64 Z24v))),Jk,Jk,(AV.sl 3 0 Z24a (some Z24w) 20),Jk,Jk,Jk,Jk,Jk,Jk,Jk,Jk,Jk,Jk,Jk,Jk,Jk,Jk,Jk,Jk,Jk,Jk,Jk,Jk,Jk,Jk,Jk,Jk,Jk,Jk,Jk,Jk,Jk,Jk,Jk,Jk,Jk,Jk,Jk,Jk,Jk,Jk,Jk,Jk,Jk,Jk,Jk,Jk,Jk,Jk,Jk,Jk,Jk,Jk,Jk,Jk,Jk,Jk,Jk,Jk,Jk,Jk,Jk,Jk,Jk,Jk,Jk,Jk,Jk,Jk,Jk,Jk,Jk,Jk,Jk,Jk,Jk,Jk,Jk,Jk,Jk,Jk,Jk,Jk,Jk,Jk,Jk,Jk,Jk,Jk,Jk,Jk,Jk,Jk,Jk,Jk,Jk,Jk,Jk,Jk,Jk,Jk,Jk,Jk,Jk,Jk,Jk,Jk,Jk,Jk,Jk,Jk,Jk,Jk,Jk,Jk,Jk,Jk,Jk,Jk,Jk,Jk,Jk,Jk,Jk,Jk,Jk,Jk,Jk,Jk,Jk,Jk,Jk,Jk,Jk,Jk,Jk,Jk,Jk,Jk,Jk,Jk,Jk,Jk,Jk,Jk,Jk,Jk,Jk,Jk,Jk,Jk,Jk,Jk,Jk,Jk,Jk,Jk],[(Blk.d 1 [(D.list Z255 Z256 Z257)]),(Blk.d 20 Z258),(Blk.d 1 [(D.list 0 (some 0) [])]),(Blk.d Z24l Z24x),(Blk.d 20 Z259)]⟩
  (contK Tg Zo.sp ⟨0,[],false,[]⟩ (inlK Tg Zo m 4) m Zd (endK Tg Tryz.f25 endV) []))
theorem Z1i4 (m : Nat) (Z24v : Int) (Z24a : Nat) (Z24w : Nat) (Z255 : Nat) (Z256 : Option Nat) (Z257 : List D) (Z258 : List D) (Z24l : Nat) (Z24x : List D) (Z259 : List D) : Z19o m Z24v Z24a Z24w Z255 Z256 Z257 Z258 Z24l Z24x Z259 =
 (if (0 + (Z24a * 20)) ≤ Z24l then
 some (D.tup [(D.agg [(D.list Z24a (some Z24w) (cutL Z24l Z24x 0 (Z24a * 20)))]),(D.v (.int .i64 Z24v)),zI])
 else none) := (Z1w m _).trans (by kernel_rfl)
noncomputable def Z1i5 (m : Nat) (Z25c : Int) (Z25d : Nat) (Z25e : Nat) (Z25f : Option Nat) (Z25g : List D) (Z25h : List D) (Z25i : Nat) (Z25j : List D) (Z25k : List D) (Z25l : Nat) (Z25a : List D) : Option D :=
 cutK m (codeK Tg Zo.sp ⟨0,[],false,[]⟩ (inlK Tg Zo m 4) m Zd (subc [1,1,1,1,1,1,1,1,1,1,1,1,1,1] (bodyOf Tryz.f25)) ⟨[Jk,Jk,Jk,Jk,(AV.ptr 2 0),Jk,Jk,Jk,Jk,Jk,Jk,Jk,Jk,(AV.d (D.v (.int .i64 Z25c))),Jk,Jk,(AV.sl 5 0 Z25d none 20),Jk,Jk,Jk,Jk,Jk,Jk,Jk,Jk,Jk,Jk,Jk,Jk,Jk,Jk,Jk,Jk,Jk,Jk,Jk,Jk,Jk,Jk,Jk,Jk,Jk,Jk,Jk,Jk,Jk,Jk,Jk,Jk,Jk,Jk,Jk,Jk,Jk,Jk,Jk,Jk,Jk,Jk,Jk,Jk,Jk,Jk,Jk,Jk,Jk,Jk,Jk,Jk,Jk,Jk,Jk,Jk,Jk,Jk,Jk,Jk,Jk,Jk,Jk,Jk,Jk,Jk,Jk,Jk,Jk,Jk,Jk,Jk,Jk,Jk,Jk,Jk,Jk,Jk,Jk,Jk,Jk,Jk,Jk,Jk,Jk,Jk,Jk,Jk,Jk,Jk,Jk,Jk,Jk,Jk,Jk,Jk,Jk,Jk,Jk,Jk,Jk,Jk,Jk,Jk,Jk,Jk,Jk,Jk,Jk,Jk,Jk,Jk,Jk,Jk,Jk,Jk,Jk,Jk,Jk,Jk,Jk,Jk,Jk,Jk,Jk,Jk,Jk,Jk,Jk,Jk,Jk,Jk,Jk,Jk,Jk,Jk,Jk,Jk,Jk,Jk,Jk,Jk,Jk,Jk,Jk,Jk,Jk,Jk,Jk,Jk,Jk,Jk,Jk,Jk],[(Blk.d 1 [(D.list Z25e Z25f Z25g)]),(Blk.d 20 Z25h),(Blk.d 1 [(D.list 0 (some 0) [])]),(Blk.d Z25i Z25j),(Blk.d 20 Z25k),(Blk.d Z25l Z25a)]⟩
  (contK Tg Zo.sp ⟨0,[],false,[]⟩ (inlK Tg Zo m 4) m Zd (endK Tg Tryz.f25 endV) []))
noncomputable def Z106 (m : Nat) (Z22p : Int) (Z1z4 : Nat) (Z22q : Nat) (Z23t : Nat) (Z23u : Option Nat) (Z23v : List D) (Z23w : List D) (Z216 : Nat) (Z22r : List D) : Option D :=
 cutK m (codeK Tg Zo.sp ⟨0,[],false,[]⟩ (inlK Tg Zo m 4) m Zd (subc [1,1,1,1,1,1,1,1,1,1,1,1,1,1] (bodyOf Tryz.f25)) ⟨[Jk,Jk,Jk,Jk,(AV.ptr 2 0),Jk,Jk,Jk,Jk,Jk,Jk,Jk,Jk,(AV.d (D.v (.int .i64 Z22p))),Jk,Jk,(AV.sl 3 0 Z1z4 (some Z22q) 20),Jk,Jk,Jk,Jk,Jk,Jk,Jk,Jk,Jk,Jk,Jk,Jk,Jk,Jk,Jk,Jk,Jk,Jk,Jk,Jk,Jk,Jk,Jk,Jk,Jk,Jk,Jk,Jk,Jk,Jk,Jk,Jk,Jk,Jk,Jk,Jk,Jk,Jk,Jk,Jk,Jk,Jk,Jk,Jk,Jk,Jk,Jk,Jk,Jk,Jk,Jk,Jk,Jk,Jk,Jk,Jk,Jk,Jk,Jk,Jk,Jk,Jk,Jk,Jk,Jk,Jk,Jk,Jk,Jk,Jk,Jk,Jk,Jk,Jk,Jk,Jk,Jk,Jk,Jk,Jk,Jk,Jk,Jk,Jk,Jk,Jk,Jk,Jk,Jk,Jk,Jk,Jk,Jk,Jk,Jk,Jk,Jk,Jk,Jk,Jk,Jk,Jk,Jk,Jk,Jk,Jk,Jk,Jk,Jk,Jk,Jk,Jk,Jk,Jk,Jk,Jk,Jk,Jk,Jk,Jk,Jk,Jk,Jk,Jk,Jk,Jk,Jk,Jk,Jk,Jk,Jk,Jk,Jk,Jk,Jk,Jk,Jk,Jk,Jk,Jk,Jk,Jk,Jk,Jk,Jk,Jk,Jk,Jk,Jk,Jk,Jk,Jk,Jk,Jk],[(Blk.d 1 [(D.list Z23t Z23u Z23v)]),(Blk.d 20 Z23w),(Blk.d 1 [(D.list 0 (some 0) [])]),(Blk.d Z216 Z22r)]⟩
  (contK Tg Zo.sp ⟨0,[],false,[]⟩ (inlK Tg Zo m 4) m Zd (endK Tg Tryz.f25 endV) []))
theorem Z1at (m : Nat) (Z22p : Int) (Z1z4 : Nat) (Z22q : Nat) (Z23t : Nat) (Z23u : Option Nat) (Z23v : List D) (Z23w : List D) (Z216 : Nat) (Z22r : List D) : Z106 m Z22p Z1z4 Z22q Z23t Z23u Z23v Z23w Z216 Z22r =
 (if (0 + (Z1z4 * 20)) ≤ Z216 then
 some (D.tup [(D.agg [(D.list Z1z4 (some Z22q) (cutL Z216 Z22r 0 (Z1z4 * 20)))]),(D.v (.int .i64 Z22p)),zI])
 else none) := (Z1w m _).trans (by kernel_rfl)
theorem Z1km (m n0 : Nat) (Zf5 : Int) (Zav : Nat) (Zic : Nat) (Zug : Nat) (Zn0 : Option Nat) (Zq7 : List D) (Zpc : Int) (Zh1 : Int) (Zrj : Nat) (Zpi : Option Nat) (Zj6 : List D) (Zh4 : List D) (Z8t : Nat) (Zj7 : List D) : Zcj m (n0 + 1) Zf5 Zav Zic Zug Zn0 Zq7 Zpc Zh1 Zrj Zpi Zj6 Zh4 Z8t Zj7 =
 (cond (decide (Zh1 < Zpc))
 (if 0 ≤ Zh1 ∧ Zh1 < (Zug : Int) then
 if (((Int.toNat Zh1) * 20) + 20) ≤ (List.length Zq7) then
 if (List.length ((List.drop ((Int.toNat Zh1) * 20) Zq7).take 20)) = 20 then
 cond (Zh1 == Zf5)
 ((Z2k [(D.agg Zh4)]).bind fun d57 =>
 (rdA (some d57)).bind fun c58 =>
 if (List.length c58) = 20 then
 if (Zav + 1) ≤ Zic then
 (if (0 + ((Zav + 1) * 20)) ≤ Z8t ∧ (List.length c58) = 20 then
 Z19n m n0 Zf5 (Zav + 1) Zic Zug Zn0 Zq7 Zpc Zh1 Zrj Zpi Zj6 Zh4 Z8t (List.take (0 + (Zav * 20)) Zj7 ++ (c58 ++ List.drop (0 + ((Zav + 1) * 20)) Zj7)) ((List.drop ((Int.toNat Zh1) * 20) Zq7).take 20) c58
 else none)
 else
 (if Z2v (Zav + 1) 128 ∧ (List.length c58) = 20 then
 if (0 + (Zav * 20)) ≤ Z8t then
 Z1i3 m n0 Zf5 (Zav + 1) Zug Zn0 Zq7 Zpc Zh1 Zrj Zpi Zj6 Zh4 Z8t Zj7 ((List.drop ((Int.toNat Zh1) * 20) Zq7).take 20) c58 ((Zav + 1) * 20) ((cutL Z8t Zj7 0 (Zav * 20)) ++ c58)
 else none
 else none)
 else none)
 (Z134 m n0 Zf5 Zav Zic Zug Zn0 Zq7 Zpc Zh1 Zrj Zpi Zj6 Zh4 Z8t Zj7 ((List.drop ((Int.toNat Zh1) * 20) Zq7).take 20))
 else none
 else none
 else none)
 (cond (Zf5 == (Zrj : Int))
 ((Z2k [(D.agg Zh4)]).bind fun d71 =>
 (rdA (some d71)).bind fun c72 =>
 if (List.length c72) = 20 then
 if (Zav + 1) ≤ Zic then
 (if (0 + ((Zav + 1) * 20)) ≤ Z8t ∧ (List.length c72) = 20 then
 Z19o m Zf5 (Zav + 1) Zic Zrj Zpi Zj6 Zh4 Z8t (List.take (0 + (Zav * 20)) Zj7 ++ (c72 ++ List.drop (0 + ((Zav + 1) * 20)) Zj7)) c72
 else none)
 else
 (if Z2v (Zav + 1) 128 ∧ (List.length c72) = 20 then
 if (0 + (Zav * 20)) ≤ Z8t then
 Z1i5 m Zf5 (Zav + 1) Zrj Zpi Zj6 Zh4 Z8t Zj7 c72 ((Zav + 1) * 20) ((cutL Z8t Zj7 0 (Zav * 20)) ++ c72)
 else none
 else none)
 else none)
 (Z106 m Zf5 Zav Zic Zrj Zpi Zj6 Zh4 Z8t Zj7))) := by kernel_rfl
theorem Z1kn (m n0 : Nat) (Zq : Int) (Zv : Nat) (Zz : Option Nat) (Zy : List D) (Z11 : Int) (Z13 : Int) (Z1d : List D) : Z5b m (n0 + 1) Zq Zv Zz Zy Z11 Z13 Z1d =
 (cond (decide (Z13 < Z11))
 (if 0 ≤ Z13 ∧ Z13 < (Zv : Int) then
 if (((Int.toNat Z13) * 20) + 20) ≤ (List.length Zy) then
 if (List.length ((List.drop ((Int.toNat Z13) * 20) Zy).take 20)) = 20 then
 cond (Z13 == (0 : Int))
 (Z5b m n0 (IntKind.wrap .i64 (Z13 + (1 : Int))) Zv Zz Zy Z11 (IntKind.wrap .i64 (Z13 + (1 : Int))) Z1d)
 ((rdI .i64 ((List.drop ((Int.toNat Z13) * 20) Zy).take 20)[0]?).bind fun x23 =>
 (rdI .i64 Z1d[0]?).bind fun x24 =>
 cond (decide (x23 < x24))
 (Z5b m n0 (IntKind.wrap .i64 (Z13 + (1 : Int))) Zv Zz Zy Z11 (IntKind.wrap .i64 (Z13 + (1 : Int))) Z1d)
 ((rdI .i64 ((List.drop ((Int.toNat Z13) * 20) Zy).take 20)[0]?).bind fun x25 =>
 (rdI .i64 Z1d[0]?).bind fun x26 =>
 cond (x25 == x26)
 ((Z5d [(D.agg ((List.drop 1 ((List.drop ((Int.toNat Z13) * 20) Zy).take 20)).take 17)),(D.agg ((List.drop 1 Z1d).take 17))]).bind fun d27 =>
 (rdI .i64 (some d27)).bind fun x28 =>
 cond (decide (x28 < (0 : Int)))
 (Z5b m n0 (IntKind.wrap .i64 (Z13 + (1 : Int))) Zv Zz Zy Z11 (IntKind.wrap .i64 (Z13 + (1 : Int))) Z1d)
 (Z5b m n0 Zq Zv Zz Zy Z11 (IntKind.wrap .i64 (Z13 + (1 : Int))) Z1d))
 (Z5b m n0 Zq Zv Zz Zy Z11 (IntKind.wrap .i64 (Z13 + (1 : Int))) Z1d)))
 else none
 else none
 else none)
 (if 0 ≤ (0 : Int) ∧ (0 : Int) ≤ (IntKind.wrap .i64 ((Zv : Int) + (1 : Int))) ∧ Z2v (Int.toNat (IntKind.wrap .i64 ((Zv : Int) + (1 : Int)))) 128 then
 Zcj m m Zq 0 (Int.toNat (IntKind.wrap .i64 ((Zv : Int) + (1 : Int)))) Zv Zz Zy (Zv : Int) (0 : Int) Zv Zz Zy Z1d ((Int.toNat (IntKind.wrap .i64 ((Zv : Int) + (1 : Int)))) * 20) (List.flatten (List.replicate (Int.toNat (IntKind.wrap .i64 ((Zv : Int) + (1 : Int)))) [zI,(D.v (.int .u8 (0 : Int))),zU,zU,zU,zU,zU,zU,zU,zU,zU,zU,zU,zU,zU,zU,zU,zU,(D.list 0 (some 0) []),(D.list 0 (some 0) [])]))
 else none)) := by kernel_rfl
theorem Z135 (m : Nat) (Zd7 : Nat) (Zis : Option Nat) (Zit : List D) (Zgz : List D) : Zgf m Zd7 Zis Zit Zgz =
 ((Z93 [(D.agg Zgz)]).bind fun d15 =>
 (rdI .i64 (some d15)).bind fun x16 =>
 cond (x16 != (0 : Int))
 (some (D.tup [(D.agg [(D.list 0 (some 0) [])]),zI,(D.v (.int .i64 x16))]))
 (Z5b m m (0 : Int) Zd7 Zis Zit (Zd7 : Int) (0 : Int) Zgz)) := (Z1w m _).trans (by kernel_rfl)
theorem Z16b (m : Nat) (Z2z : Nat) (Z4j : Option Nat) (Z3v : List D) (Z3t : Bool) (Z6p : Nat) (Za0 : Option Nat) (Z91 : List D) (Zph : List D) : Z1bz m Z2z Z4j Z3v Z3t Z6p Za0 Z91 Zph =
 ((Z95 [(D.agg [(D.list Z6p Za0 Z91)])]).bind fun d8 =>
 (rdM (some d8)).bind fun g9 =>
 (rdI .i64 Zph[0]?).bind fun x10 =>
 if (List.length ((List.drop 1 Zph).take 17)) = 17 then
 if keyOk Tg 86 (D.agg (putL 18 [(D.v (.int .i64 x10)),(D.v (.int .u8 (0 : Int))),zU,zU,zU,zU,zU,zU,zU,zU,zU,zU,zU,zU,zU,zU,zU,zU] 1 17 ((List.drop 1 Zph).take 17))) = true then
 (lookM (keyEq Tg 86) (D.agg (putL 18 [(D.v (.int .i64 x10)),(D.v (.int .u8 (0 : Int))),zU,zU,zU,zU,zU,zU,zU,zU,zU,zU,zU,zU,zU,zU,zU,zU] 1 17 ((List.drop 1 Zph).take 17))) zI g9).bind fun p11 =>
 (rdI .i64 (some p11.1)).bind fun x12 =>
 cond p11.2
 (some (D.tup [(D.agg [(D.list 0 (some 0) [])]),zI,(D.v (.int .i64 (20 : Int)))]))
 (cond ((Z6p : Int) == (65536 : Int))
 (some (D.tup [(D.agg [(D.list 0 (some 0) [])]),zI,(D.v (.int .i64 (3 : Int)))]))
 (cond (!Z3t)
 ((rdI .i64 Zph[0]?).bind fun x13 =>
 if 0 ≤ x13 ∧ x13 < (Z2z : Int) then
 (rdI .i64 Z3v[((Int.toNat x13) * 1)]?).bind fun x14 =>
 cond (x14 == (64 : Int))
 (some (D.tup [(D.agg [(D.list 0 (some 0) [])]),zI,(D.v (.int .i64 (12 : Int)))]))
 (Zgf m Z6p Za0 Z91 Zph)
 else none)
 (Zgf m Z6p Za0 Z91 Zph)))
 else none
 else none) := (Z1w m _).trans (by kernel_rfl)
noncomputable def Zr5 (m : Nat) (a0_0n : Nat) (a0_0c : Option Nat) (a0_0 : List D) (a1 : List D) : Option D :=
 if (List.length a1) = 20 then
 (Z2x [(D.agg [(D.list a0_0n a0_0c a0_0)])]).bind fun d1 =>
 (rdT d1).bind fun r2 =>
 if List.length r2 = 2 then
 (rdL r2[0]?).bind fun q3 =>
 (rdI .i64 r2[1]?).bind fun x4 =>
 cond (x4 != (0 : Int))
 (some (D.tup [(D.agg [(D.list 0 (some 0) [])]),zI,(D.v (.int .i64 x4))]))
 ((rdI .i64 a1[0]?).bind fun x5 =>
 cond (!(((a0_0n : Int) == (0 : Int)) == (x5 == (-1 : Int))))
 (some (D.tup [(D.agg [(D.list 0 (some 0) [])]),zI,(D.v (.int .i64 (19 : Int)))]))
 ((rdI .i64 a1[0]?).bind fun x6 =>
 cond (decide (x6 < (-1 : Int)))
 (some (D.tup [(D.agg [(D.list 0 (some 0) [])]),zI,(D.v (.int .i64 (19 : Int)))]))
 ((rdI .i64 a1[0]?).bind fun x7 =>
 cond (decide (x7 ≥ (mm false (a0_0n : Int) (0 : Int))))
 (some (D.tup [(D.agg [(D.list 0 (some 0) [])]),zI,(D.v (.int .i64 (19 : Int)))]))
 (Z1bz m q3.n q3.cap q3.cs ((a0_0n : Int) == (0 : Int)) a0_0n a0_0c a0_0 a1))))
 else none
 else none
theorem Z1q4 (m : Nat) (a0_0n : Nat) (a0_0c : Option Nat) (a0_0 : List D) (a1 : List D) : funD Tg Zo m 4 Zd Tryz.f25 [(D.agg [(D.list a0_0n a0_0c a0_0)]),(D.agg a1)] = Zr5 m a0_0n a0_0c a0_0 a1 := by kernel_rfl
theorem Z1vt : Enters Tg 25 := ⟨Tryz.f25,Tryz.func25,by kernel_rfl,by kernel_rfl⟩
theorem Z1vu {ds : List D} {d : D} (h : funD Tg Zo M 4 Zd Tryz.f25 ds = some d) : DataSem Tg 25 ds d := Z5 (H := Zo) (SpOk.cons Z1bk (SpOk.cons Zk5 (SpOk.cons Z1bi (SpOk.cons Zx0 (SpOk.cons Zxb SpOk.nil))))) mixed InlOk.nil Tryz.func25 Z1vt h
noncomputable def Z6z : List D → Option D
 | [.agg [.list a0_0n a0_0c a0_0],.agg a1] => Zr5 M a0_0n a0_0c a0_0 a1
 | _ => none
theorem Z1vv : ∀ ds d,Z6z ds = some d → DataSem Tg 25 ds d := by
 intro ds d h
 unfold Z6z at h
 split at h
 ·exact Z1vu ((Z1q4 M _ _ _ _).trans h)
 ·cases h
end Go.Ev