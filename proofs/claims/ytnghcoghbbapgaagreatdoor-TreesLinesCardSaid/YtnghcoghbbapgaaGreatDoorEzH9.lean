/- Functions of the given program in plain form,printed: each with the proof that it is what the evaluator comes to,and that the program function returns what it says. No conditions. -/
import Derived.Test.YtnghcoghbbapgaaGreatDoorEzH2
import Derived.Test.YtnghcoghbbapgaaGreatDoorEzH3
import Derived.Test.YtnghcoghbbapgaaGreatDoorEzHz
import Derived.Test.YtnghcoghbbapgaaGreatDoorEzHs
set_option linter.unusedVariables false
set_option maxRecDepth 100000
namespace Go.Ev
open Go Go.Proofs
def Z25m : FnH := ⟨[(5,⟨(bm 482 122),[],(some 4)⟩),(9,⟨(bm 2018 122),[(9,1)],(some 5)⟩)],[(10,⟨(bm 2018 122),[],(some 6)⟩),(16,⟨(bm 3042 122),[],(some 5)⟩),(24,⟨(bm 8674 122),[],(some 6)⟩)]⟩
noncomputable def Z25n (Z1 Z2 Z3 Z4 Z24 Zm Zn : List D → Option D) : Hints := ⟨[(10,Z1),(11,Z2),(13,Z3),(22,Z4),(25,Z24),(34,Zm),(35,Zn)],[],[]⟩
noncomputable def Z25t (Z1 Z2 Z3 Z4 Z24 Zm Zn : List D → Option D) (m n0 : Nat) (Zq : Nat) (Zv : Option Nat) (Zz : List D) (Zy : Nat) (Z11 : Nat) (Z13 : Int) (Z1d : Nat) (Z1q : Option Nat) (Z4t : List D) (Zho : List D) (Z6b : List D) (Zxa : Nat) (Z21x : List D) : Option D :=
 Z1k (bm 482 122) 0 4 (codeK Tg (Z25n Z1 Z2 Z3 Z4 Z24 Zm Zn).sp ⟨0,[],false,[]⟩ (inlK Tg (Z25n Z1 Z2 Z3 Z4 Z24 Zm Zn) m 4) m Z25m (subc [1,1,1,1,0,1,0,0] (bodyOf Tryz.f7))) n0 ⟨[Jk,(AV.d (D.list Zq Zv Zz)),Jk,Jk,Jk,(AV.ptr 1 0),(AV.ptr 2 0),(AV.sl 3 0 Zy (some Z11) 1),(AV.d (D.v (.int .i64 Z13))),Jk,Jk,Jk,Jk,Jk,Jk,Jk,Jk,Jk,Jk,Jk,Jk,Jk,Jk,Jk,Jk,Jk,Jk,Jk,Jk,Jk,Jk,Jk,Jk,Jk,Jk,Jk,Jk,Jk,Jk,Jk,Jk,Jk,Jk,Jk,Jk,Jk,Jk,Jk,Jk,Jk,Jk,Jk,Jk,Jk,Jk,Jk,Jk,Jk,Jk,Jk,Jk,Jk,Jk,Jk,Jk,Jk,Jk,Jk,Jk,Jk,Jk,Jk,Jk,Jk,Jk,Jk,Jk,Jk,Jk,Jk,Jk,Jk,Jk,Jk,Jk,Jk,Jk,Jk,Jk,Jk,Jk,Jk,Jk,Jk,Jk,Jk,Jk,Jk,Jk,Jk,Jk,Jk,Jk,Jk,Jk,Jk,Jk,Jk,Jk,Jk,Jk,Jk,Jk,Jk,Jk,Jk,Jk,Jk,Jk,Jk,Jk,Jk],[(Blk.d 1 [(D.list Z1d Z1q Z4t)]),(Blk.d 1 Zho),(Blk.d 1 Z6b),(Blk.d Zxa Z21x)]⟩
  (contK Tg (Z25n Z1 Z2 Z3 Z4 Z24 Zm Zn).sp ⟨0,[],false,[]⟩ (inlK Tg (Z25n Z1 Z2 Z3 Z4 Z24 Zm Zn) m 4) m Z25m (endK Tg Tryz.f7 endV) [.block 0,.code (subc [1,1,1,1,1] (bodyOf Tryz.f7))])
noncomputable def Z25p (Z1 Z2 Z3 Z4 Z24 Zm Zn : List D → Option D) (m n0 n1 : Nat) (Zf5 : Nat) (Zav : Option Nat) (Zic : List D) (Zug : Nat) (Zn0 : Nat) (Zq7 : Int) (Zpc : Nat) (Zh1 : Int) (Zrj : Nat) (Zpi : Option Nat) (Zj6 : List D) (Zh4 : List D) (Z8t : List D) (Zj7 : Nat) (Z16g : List D) (Z1ad : Nat) (Z1ae : List D) : Option D :=
 Z1k (bm 2018 122) 0 5 (codeK Tg (Z25n Z1 Z2 Z3 Z4 Z24 Zm Zn).sp ⟨0,[],false,[]⟩ (inlK Tg (Z25n Z1 Z2 Z3 Z4 Z24 Zm Zn) m 4) m Z25m (subc [1,1,1,1,0,1,0,0,1,0,0,1,0,1,0,0] (bodyOf Tryz.f7))) n1 ⟨[Jk,(AV.d (D.list Zf5 Zav Zic)),Jk,Jk,Jk,(AV.ptr 1 0),(AV.ptr 2 0),(AV.sl 3 0 Zug (some Zn0) 1),(AV.d (D.v (.int .i64 Zq7))),(AV.sl 4 0 Zpc none 1),(AV.d (D.v (.int .i64 Zh1))),Jk,Jk,Jk,Jk,Jk,Jk,Jk,Jk,Jk,Jk,Jk,Jk,Jk,Jk,Jk,Jk,Jk,Jk,Jk,Jk,Jk,Jk,Jk,Jk,Jk,Jk,Jk,Jk,Jk,Jk,Jk,Jk,Jk,Jk,Jk,Jk,Jk,Jk,Jk,Jk,Jk,Jk,Jk,Jk,Jk,Jk,Jk,Jk,Jk,Jk,Jk,Jk,Jk,Jk,Jk,Jk,Jk,Jk,Jk,Jk,Jk,Jk,Jk,Jk,Jk,Jk,Jk,Jk,Jk,Jk,Jk,Jk,Jk,Jk,Jk,Jk,Jk,Jk,Jk,Jk,Jk,Jk,Jk,Jk,Jk,Jk,Jk,Jk,Jk,Jk,Jk,Jk,Jk,Jk,Jk,Jk,Jk,Jk,Jk,Jk,Jk,Jk,Jk,Jk,Jk,Jk,Jk,Jk,Jk,Jk,Jk],[(Blk.d 1 [(D.list Zrj Zpi Zj6)]),(Blk.d 1 Zh4),(Blk.d 1 Z8t),(Blk.d Zj7 Z16g),(Blk.d Z1ad Z1ae)]⟩
  (contK Tg (Z25n Z1 Z2 Z3 Z4 Z24 Zm Zn).sp ⟨0,[],false,[]⟩ (inlK Tg (Z25n Z1 Z2 Z3 Z4 Z24 Zm Zn) m 4) m Z25m (endK Tg Tryz.f7 endV) [.block 2,.code (subc [1,1,1,1,0,1,0,0,1,0,0,1,1] (bodyOf Tryz.f7)),.block 1,.code (subc [1,1,1,1,0,1,0,0,1,1] (bodyOf Tryz.f7)),.loop (bm 482 122) 4 (subc [1,1,1,1,0,1,0,0] (bodyOf Tryz.f7)) n0,.block 0,.code (subc [1,1,1,1,1] (bodyOf Tryz.f7))])
noncomputable def Z25q (Z1 Z2 Z3 Z4 Z24 Zm Zn : List D → Option D) (m n0 n1 : Nat) (Z2z : Nat) (Z4j : Option Nat) (Z3v : List D) (Z3t : Nat) (Z6p : Nat) (Za0 : Int) (Z91 : Nat) (Zph : Int) (Zx1 : Nat) (Z1ac : Option Nat) (Zx5 : List D) (Z146 : List D) (Z1ez : List D) (Z26d : Nat) (Z26e : List D) (Z26f : Nat) (Z26g : List D) (Z26j : Int) : Option D :=
 cutK m (codeK Tg (Z25n Z1 Z2 Z3 Z4 Z24 Zm Zn).sp ⟨0,[],false,[]⟩ (inlK Tg (Z25n Z1 Z2 Z3 Z4 Z24 Zm Zn) m 4) m Z25m (subc [1,1,1,1,0,1,0,0,1,0,0,1,0,1,0,0,1,1] (bodyOf Tryz.f7)) ⟨[Jk,(AV.d (D.list Z2z Z4j Z3v)),Jk,Jk,Jk,(AV.ptr 1 0),(AV.ptr 2 0),(AV.sl 3 0 Z3t (some Z6p) 1),(AV.d (D.v (.int .i64 Za0))),(AV.sl 4 0 Z91 none 1),(AV.d (D.v (.int .i64 Zph))),Jk,Jk,Jk,Jk,Jk,Jk,Jk,Jk,Jk,Jk,Jk,Jk,Jk,Jk,Jk,Jk,Jk,Jk,Jk,Jk,Jk,Jk,Jk,Jk,Jk,Jk,Jk,Jk,Jk,Jk,Jk,Jk,Jk,Jk,Jk,Jk,Jk,Jk,Jk,Jk,Jk,Jk,Jk,Jk,Jk,Jk,Jk,Jk,Jk,Jk,Jk,Jk,Jk,Jk,Jk,Jk,Jk,Jk,Jk,Jk,Jk,Jk,Jk,Jk,Jk,Jk,Jk,Jk,Jk,Jk,Jk,Jk,Jk,Jk,Jk,Jk,Jk,Jk,Jk,Jk,Jk,Jk,Jk,Jk,Jk,Jk,Jk,Jk,Jk,Jk,Jk,Jk,Jk,Jk,Jk,Jk,Jk,Jk,Jk,Jk,Jk,Jk,Jk,Jk,Jk,Jk,Jk,Jk,Jk,Jk,Jk],[(Blk.d 1 [(D.list Zx1 Z1ac Zx5)]),(Blk.d 1 Z146),(Blk.d 1 Z1ez),(Blk.d Z26d Z26e),(Blk.d Z26f Z26g),(Blk.d 1 [(D.v (.int .i64 Z26j))])]⟩
  (contK Tg (Z25n Z1 Z2 Z3 Z4 Z24 Zm Zn).sp ⟨0,[],false,[]⟩ (inlK Tg (Z25n Z1 Z2 Z3 Z4 Z24 Zm Zn) m 4) m Z25m (endK Tg Tryz.f7 endV) [.loop (bm 2018 122) 5 (subc [1,1,1,1,0,1,0,0,1,0,0,1,0,1,0,0] (bodyOf Tryz.f7)) n1,.block 2,.code (subc [1,1,1,1,0,1,0,0,1,0,0,1,1] (bodyOf Tryz.f7)),.block 1,.code (subc [1,1,1,1,0,1,0,0,1,1] (bodyOf Tryz.f7)),.loop (bm 482 122) 4 (subc [1,1,1,1,0,1,0,0] (bodyOf Tryz.f7)) n0,.block 0,.code (subc [1,1,1,1,1] (bodyOf Tryz.f7))]))
theorem Z25x (Z1 Z2 Z3 Z4 Z24 Zm Zn : List D → Option D) (m n0 n1 : Nat) (Z2z : Nat) (Z4j : Option Nat) (Z3v : List D) (Z3t : Nat) (Z6p : Nat) (Za0 : Int) (Z91 : Nat) (Zph : Int) (Zx1 : Nat) (Z1ac : Option Nat) (Zx5 : List D) (Z146 : List D) (Z1ez : List D) (Z26d : Nat) (Z26e : List D) (Z26f : Nat) (Z26g : List D) (Z26j : Int) : Z25q Z1 Z2 Z3 Z4 Z24 Zm Zn m n0 n1 Z2z Z4j Z3v Z3t Z6p Za0 Z91 Zph Zx1 Z1ac Zx5 Z146 Z1ez Z26d Z26e Z26f Z26g Z26j =
 (Z25p Z1 Z2 Z3 Z4 Z24 Zm Zn m n0 n1 Z2z Z4j Z3v Z3t Z6p Za0 Z91 (IntKind.wrap .i64 (Zph + (1 : Int))) Zx1 Z1ac Zx5 Z146 Z1ez Z26d Z26e Z26f Z26g) := (Z1w m _).trans (by kernel_rfl)
noncomputable def Z25o (Z1 Z2 Z3 Z4 Z24 Zm Zn : List D → Option D) (m n0 n1 : Nat) (Zd7 : Nat) (Zis : Option Nat) (Zit : List D) (Zgz : Nat) (Zo0 : Nat) (Zme : Int) (Zz4 : Nat) (Z11x : Int) (Z16k : Nat) (Z1cg : Option Nat) (Z1cq : List D) (Z1sk : List D) (Z206 : List D) (Z207 : Nat) (Z208 : List D) (Z209 : Nat) (Z1yu : List D) : Option D :=
 cutK m (codeK Tg (Z25n Z1 Z2 Z3 Z4 Z24 Zm Zn).sp ⟨0,[],false,[]⟩ (inlK Tg (Z25n Z1 Z2 Z3 Z4 Z24 Zm Zn) m 4) m Z25m (subc [1,1,1,1,0,1,0,0,1,0,0,1,0,1,0,0,1,1] (bodyOf Tryz.f7)) ⟨[Jk,(AV.d (D.list Zd7 Zis Zit)),Jk,Jk,Jk,(AV.ptr 1 0),(AV.ptr 2 0),(AV.sl 3 0 Zgz (some Zo0) 1),(AV.d (D.v (.int .i64 Zme))),(AV.sl 4 0 Zz4 none 1),(AV.d (D.v (.int .i64 Z11x))),Jk,Jk,Jk,Jk,Jk,Jk,Jk,Jk,Jk,Jk,Jk,Jk,Jk,Jk,Jk,Jk,Jk,Jk,Jk,Jk,Jk,Jk,Jk,Jk,Jk,Jk,Jk,Jk,Jk,Jk,Jk,Jk,Jk,Jk,Jk,Jk,Jk,Jk,Jk,Jk,Jk,Jk,Jk,Jk,Jk,Jk,Jk,Jk,Jk,Jk,Jk,Jk,Jk,Jk,Jk,Jk,Jk,Jk,Jk,Jk,Jk,Jk,Jk,Jk,Jk,Jk,Jk,Jk,Jk,Jk,Jk,Jk,Jk,Jk,Jk,Jk,Jk,Jk,Jk,Jk,Jk,Jk,Jk,Jk,Jk,Jk,Jk,Jk,Jk,Jk,Jk,Jk,Jk,Jk,Jk,Jk,Jk,Jk,Jk,Jk,Jk,Jk,Jk,Jk,Jk,Jk,Jk,Jk,Jk,Jk,Jk],[(Blk.d 1 [(D.list Z16k Z1cg Z1cq)]),(Blk.d 1 Z1sk),(Blk.d 1 Z206),(Blk.d Z207 Z208),(Blk.d Z209 Z1yu)]⟩
  (contK Tg (Z25n Z1 Z2 Z3 Z4 Z24 Zm Zn).sp ⟨0,[],false,[]⟩ (inlK Tg (Z25n Z1 Z2 Z3 Z4 Z24 Zm Zn) m 4) m Z25m (endK Tg Tryz.f7 endV) [.loop (bm 2018 122) 5 (subc [1,1,1,1,0,1,0,0,1,0,0,1,0,1,0,0] (bodyOf Tryz.f7)) n1,.block 2,.code (subc [1,1,1,1,0,1,0,0,1,0,0,1,1] (bodyOf Tryz.f7)),.block 1,.code (subc [1,1,1,1,0,1,0,0,1,1] (bodyOf Tryz.f7)),.loop (bm 482 122) 4 (subc [1,1,1,1,0,1,0,0] (bodyOf Tryz.f7)) n0,.block 0,.code (subc [1,1,1,1,1] (bodyOf Tryz.f7))]))
theorem Z25w (Z1 Z2 Z3 Z4 Z24 Zm Zn : List D → Option D) (m n0 n1 : Nat) (Zd7 : Nat) (Zis : Option Nat) (Zit : List D) (Zgz : Nat) (Zo0 : Nat) (Zme : Int) (Zz4 : Nat) (Z11x : Int) (Z16k : Nat) (Z1cg : Option Nat) (Z1cq : List D) (Z1sk : List D) (Z206 : List D) (Z207 : Nat) (Z208 : List D) (Z209 : Nat) (Z1yu : List D) : Z25o Z1 Z2 Z3 Z4 Z24 Zm Zn m n0 n1 Zd7 Zis Zit Zgz Zo0 Zme Zz4 Z11x Z16k Z1cg Z1cq Z1sk Z206 Z207 Z208 Z209 Z1yu =
 (Z25p Z1 Z2 Z3 Z4 Z24 Zm Zn m n0 n1 Zd7 Zis Zit Zgz Zo0 Zme Zz4 (IntKind.wrap .i64 (Z11x + (1 : Int))) Z16k Z1cg Z1cq Z1sk Z206 Z207 Z208 Z209 Z1yu) := (Z1w m _).trans (by kernel_rfl)
noncomputable def Z25r (Z1 Z2 Z3 Z4 Z24 Zm Zn : List D → Option D) (m n0 : Nat) (Z10h : Nat) (Z15c : Option Nat) (Zx2 : List D) (Z13s : Nat) (Z13t : Nat) (Z16d : Int) (Z117 : Nat) (Z1bg : Int) (Z1ch : Nat) (Z1oa : Option Nat) (Z1p9 : List D) (Z1pa : List D) (Z1pb : List D) (Z1pc : Nat) (Z1sl : List D) (Z1pd : Nat) (Z227 : List D) : Option D :=
 cutK m (codeK Tg (Z25n Z1 Z2 Z3 Z4 Z24 Zm Zn).sp ⟨0,[],false,[]⟩ (inlK Tg (Z25n Z1 Z2 Z3 Z4 Z24 Zm Zn) m 4) m Z25m (subc [1,1,1,1,0,1,0,0,1,0,0,1,1,1,1] (bodyOf Tryz.f7)) ⟨[Jk,(AV.d (D.list Z10h Z15c Zx2)),Jk,Jk,Jk,(AV.ptr 1 0),(AV.ptr 2 0),(AV.sl 3 0 Z13s (some Z13t) 1),(AV.d (D.v (.int .i64 Z16d))),(AV.sl 4 0 Z117 none 1),Jk,(AV.d (D.v (.int .i64 Z1bg))),Jk,Jk,Jk,Jk,Jk,Jk,Jk,Jk,Jk,Jk,Jk,Jk,Jk,Jk,Jk,Jk,Jk,Jk,Jk,Jk,Jk,Jk,Jk,Jk,Jk,Jk,Jk,Jk,Jk,Jk,Jk,Jk,Jk,Jk,Jk,Jk,Jk,Jk,Jk,Jk,Jk,Jk,Jk,Jk,Jk,Jk,Jk,Jk,Jk,Jk,Jk,Jk,Jk,Jk,Jk,Jk,Jk,Jk,Jk,Jk,Jk,Jk,Jk,Jk,Jk,Jk,Jk,Jk,Jk,Jk,Jk,Jk,Jk,Jk,Jk,Jk,Jk,Jk,Jk,Jk,Jk,Jk,Jk,Jk,Jk,Jk,Jk,Jk,Jk,Jk,Jk,Jk,Jk,Jk,Jk,Jk,Jk,Jk,Jk,Jk,Jk,Jk,Jk,Jk,Jk,Jk,Jk,Jk,Jk,Jk],[(Blk.d 1 [(D.list Z1ch Z1oa Z1p9)]),(Blk.d 1 Z1pa),(Blk.d 1 Z1pb),(Blk.d Z1pc Z1sl),(Blk.d Z1pd Z227)]⟩
  (contK Tg (Z25n Z1 Z2 Z3 Z4 Z24 Zm Zn).sp ⟨0,[],false,[]⟩ (inlK Tg (Z25n Z1 Z2 Z3 Z4 Z24 Zm Zn) m 4) m Z25m (endK Tg Tryz.f7 endV) [.block 1,.code (subc [1,1,1,1,0,1,0,0,1,1] (bodyOf Tryz.f7)),.loop (bm 482 122) 4 (subc [1,1,1,1,0,1,0,0] (bodyOf Tryz.f7)) n0,.block 0,.code (subc [1,1,1,1,1] (bodyOf Tryz.f7))]))
noncomputable def Z25s (Z1 Z2 Z3 Z4 Z24 Zm Zn : List D → Option D) (m n0 : Nat) (Z1p3 : Nat) (Z1jl : Option Nat) (Z1s9 : List D) (Z1sa : Nat) (Z1sb : Nat) (Z1sc : Int) (Z1sd : Nat) (Z1qn : Option Nat) (Z1xw : List D) (Z24m : List D) (Z22k : List D) (Z22l : Nat) (Z1z2 : List D) (Z210 : Nat) (Z1x2 : List D) (Z23s : List D) : Option D :=
 cutK m (codeK Tg (Z25n Z1 Z2 Z3 Z4 Z24 Zm Zn).sp ⟨0,[],false,[]⟩ (inlK Tg (Z25n Z1 Z2 Z3 Z4 Z24 Zm Zn) m 4) m Z25m (subc [1,1,1,1,0,1,0,0,1,0,0,1,1,1,1,1,1,1,1] (bodyOf Tryz.f7)) ⟨[Jk,(AV.d (D.list Z1p3 Z1jl Z1s9)),Jk,Jk,Jk,(AV.ptr 1 0),(AV.ptr 2 0),(AV.sl 3 0 Z1sa (some Z1sb) 1),(AV.d (D.v (.int .i64 Z1sc))),Jk,Jk,Jk,Jk,(AV.ptr 5 0),Jk,Jk,Jk,Jk,Jk,Jk,Jk,Jk,Jk,Jk,Jk,Jk,Jk,Jk,Jk,Jk,Jk,Jk,Jk,Jk,Jk,Jk,Jk,Jk,Jk,Jk,Jk,Jk,Jk,Jk,Jk,Jk,Jk,Jk,Jk,Jk,Jk,Jk,Jk,Jk,Jk,Jk,Jk,Jk,Jk,Jk,Jk,Jk,Jk,Jk,Jk,Jk,Jk,Jk,Jk,Jk,Jk,Jk,Jk,Jk,Jk,Jk,Jk,Jk,Jk,Jk,Jk,Jk,Jk,Jk,Jk,Jk,Jk,Jk,Jk,Jk,Jk,Jk,Jk,Jk,Jk,Jk,Jk,Jk,Jk,Jk,Jk,Jk,Jk,Jk,Jk,Jk,Jk,Jk,Jk,Jk,Jk,Jk,Jk,Jk,Jk,Jk,Jk,Jk,Jk,Jk,Jk,Jk],[(Blk.d 1 [(D.list Z1sd Z1qn Z1xw)]),(Blk.d 1 Z24m),(Blk.d 1 Z22k),(Blk.d Z22l Z1z2),(Blk.d Z210 Z1x2),(Blk.d 20 Z23s)]⟩
  (contK Tg (Z25n Z1 Z2 Z3 Z4 Z24 Zm Zn).sp ⟨0,[],false,[]⟩ (inlK Tg (Z25n Z1 Z2 Z3 Z4 Z24 Zm Zn) m 4) m Z25m (endK Tg Tryz.f7 endV) [.block 1,.code (subc [1,1,1,1,0,1,0,0,1,1] (bodyOf Tryz.f7)),.loop (bm 482 122) 4 (subc [1,1,1,1,0,1,0,0] (bodyOf Tryz.f7)) n0,.block 0,.code (subc [1,1,1,1,1] (bodyOf Tryz.f7))]))
theorem Z25y (Z1 Z2 Z3 Z4 Z24 Zm Zn : List D → Option D) (m n0 : Nat) (Z1p3 : Nat) (Z1jl : Option Nat) (Z1s9 : List D) (Z1sa : Nat) (Z1sb : Nat) (Z1sc : Int) (Z1sd : Nat) (Z1qn : Option Nat) (Z1xw : List D) (Z24m : List D) (Z22k : List D) (Z22l : Nat) (Z1z2 : List D) (Z210 : Nat) (Z1x2 : List D) (Z23s : List D) : Z25s Z1 Z2 Z3 Z4 Z24 Zm Zn m n0 Z1p3 Z1jl Z1s9 Z1sa Z1sb Z1sc Z1sd Z1qn Z1xw Z24m Z22k Z22l Z1z2 Z210 Z1x2 Z23s =
 ((Z24 [(D.agg Z22k),(D.agg Z23s)]).bind fun d131 =>
 (rdT d131).bind fun r132 =>
 if List.length r132 = 3 then
 (rdA r132[0]?).bind fun c133 =>
 (rdI .i64 r132[1]?).bind fun x134 =>
 (rdI .i64 r132[2]?).bind fun x135 =>
 if (List.length c133) = 1 then
 cond (x135 != (0 : Int))
 (some (D.v (.bool false)))
 (Z25t Z1 Z2 Z3 Z4 Z24 Zm Zn m n0 Z1p3 Z1jl Z1s9 Z1sa Z1sb (IntKind.wrap .i64 (Z1sc + (1 : Int))) Z1sd Z1qn Z1xw Z24m c133 Z22l Z1z2)
 else none
 else none) := (Z1w m _).trans (by kernel_rfl)
theorem Z25z (Z1 Z2 Z3 Z4 Z24 Zm Zn : List D → Option D) (m n0 : Nat) (Z10h : Nat) (Z15c : Option Nat) (Zx2 : List D) (Z13s : Nat) (Z13t : Nat) (Z16d : Int) (Z117 : Nat) (Z1bg : Int) (Z1ch : Nat) (Z1oa : Option Nat) (Z1p9 : List D) (Z1pa : List D) (Z1pb : List D) (Z1pc : Nat) (Z1sl : List D) (Z1pd : Nat) (Z227 : List D) : Z25r Z1 Z2 Z3 Z4 Z24 Zm Zn m n0 Z10h Z15c Zx2 Z13s Z13t Z16d Z117 Z1bg Z1ch Z1oa Z1p9 Z1pa Z1pb Z1pc Z1sl Z1pd Z227 =
 (if (Z117 : Int) = 0 then none else
 if 0 ≤ (Int.tmod Z1bg (Z117 : Int)) ∧ (Int.tmod Z1bg (Z117 : Int)) < (Z117 : Int) then
 (rdI .i64 Z227[(0 + ((Int.toNat (Int.tmod Z1bg (Z117 : Int))) * 1))]?).bind fun x122 =>
 if 0 ≤ x122 ∧ x122 < (Z13s : Int) then
 if 1 = 1 ∧ (0 + ((Int.toNat x122) * 1)) < Z1pc then
 (rdL Z1pa[0]?).bind fun q123 =>
 if 0 ≤ x122 ∧ x122 < (q123.n : Int) then
 if (((Int.toNat x122) * 20) + 20) ≤ (List.length q123.cs) then
 if (List.length ((List.drop ((Int.toNat x122) * 20) q123.cs).take 20)) = 20 then
 cond (decide (x122 > (0 : Int)))
 ((rdI .i64 ((List.drop ((Int.toNat x122) * 20) q123.cs).take 20)[0]?).bind fun x124 =>
 (Z4 [(D.agg Z1pa),(D.v (.int .i64 x124))]).bind fun d125 =>
 (rdL (some d125)).bind fun q126 =>
 (Z3 [(D.agg Z1pb),(D.list q126.n q126.cap q126.cs)]).bind fun d127 =>
 (rdT d127).bind fun r128 =>
 if List.length r128 = 2 then
 (rdI .i64 r128[0]?).bind fun x129 =>
 (rdI .i64 r128[1]?).bind fun x130 =>
 cond (x130 != (0 : Int))
 (some (D.v (.bool false)))
 (Z25s Z1 Z2 Z3 Z4 Z24 Zm Zn m n0 Z10h Z15c Zx2 Z13s Z13t Z16d Z1ch Z1oa Z1p9 Z1pa Z1pb Z1pc (List.set Z1sl (0 + ((Int.toNat x122) * 1)) (D.v (.int .i64 (1 : Int)))) Z1pd Z227 (List.set ((List.drop ((Int.toNat x122) * 20) q123.cs).take 20) 0 (D.v (.int .i64 x129))))
 else none)
 (Z25s Z1 Z2 Z3 Z4 Z24 Zm Zn m n0 Z10h Z15c Zx2 Z13s Z13t Z16d Z1ch Z1oa Z1p9 Z1pa Z1pb Z1pc (List.set Z1sl (0 + ((Int.toNat x122) * 1)) (D.v (.int .i64 (1 : Int)))) Z1pd Z227 ((List.drop ((Int.toNat x122) * 20) q123.cs).take 20))
 else none
 else none
 else none
 else none
 else none
 else none) := (Z1w m _).trans (by kernel_rfl)
theorem Z260 (Z1 Z2 Z3 Z4 Z24 Zm Zn : List D → Option D) (m n0 n1 : Nat) (Zf5 : Nat) (Zav : Option Nat) (Zic : List D) (Zug : Nat) (Zn0 : Nat) (Zq7 : Int) (Zpc : Nat) (Zh1 : Int) (Zrj : Nat) (Zpi : Option Nat) (Zj6 : List D) (Zh4 : List D) (Z8t : List D) (Zj7 : Nat) (Z16g : List D) (Z1ad : Nat) (Z1ae : List D) : Z25p Z1 Z2 Z3 Z4 Z24 Zm Zn m n0 (n1 + 1) Zf5 Zav Zic Zug Zn0 Zq7 Zpc Zh1 Zrj Zpi Zj6 Zh4 Z8t Zj7 Z16g Z1ad Z1ae =
 ((rdL Zh4[0]?).bind fun q116 =>
 cond (decide (Zh1 < (q116.n : Int)))
 (if 0 ≤ Zh1 ∧ Zh1 < (Zug : Int) then
 (rdI .i64 Z16g[(0 + ((Int.toNat Zh1) * 1))]?).bind fun x117 =>
 cond (x117 == (0 : Int))
 (cond (Zh1 == (0 : Int))
 (if ownB ⟨0,[],false,[]⟩ 4 = true ∧ Z1ad = (Zpc * 1) ∧ Z2v (Zpc + 1) 8 ∧ 1 = 1 then
 Z25q Z1 Z2 Z3 Z4 Z24 Zm Zn m n0 n1 Zf5 Zav Zic Zug Zn0 Zq7 (Zpc + 1) Zh1 Zrj Zpi Zj6 Zh4 Z8t Zj7 Z16g ((Zpc + 1) * 1) (Z1ae ++ [(D.v (.int .i64 Zh1))]) Zh1
 else none)
 ((rdL Zh4[0]?).bind fun q118 =>
 if 0 ≤ Zh1 ∧ Zh1 < (q118.n : Int) then
 (rdI .i64 q118.cs[(((Int.toNat Zh1) * 20) + 0)]?).bind fun x119 =>
 if 0 ≤ x119 ∧ x119 < (Zug : Int) then
 (rdI .i64 Z16g[(0 + ((Int.toNat x119) * 1))]?).bind fun x120 =>
 cond (x120 == (1 : Int))
 (if ownB ⟨0,[],false,[]⟩ 4 = true ∧ Z1ad = (Zpc * 1) ∧ Z2v (Zpc + 1) 8 ∧ 1 = 1 then
 Z25q Z1 Z2 Z3 Z4 Z24 Zm Zn m n0 n1 Zf5 Zav Zic Zug Zn0 Zq7 (Zpc + 1) Zh1 Zrj Zpi Zj6 Zh4 Z8t Zj7 Z16g ((Zpc + 1) * 1) (Z1ae ++ [(D.v (.int .i64 Zh1))]) Zh1
 else none)
 (Z25o Z1 Z2 Z3 Z4 Z24 Zm Zn m n0 n1 Zf5 Zav Zic Zug Zn0 Zq7 Zpc Zh1 Zrj Zpi Zj6 Zh4 Z8t Zj7 Z16g Z1ad Z1ae)
 else none
 else none))
 (Z25o Z1 Z2 Z3 Z4 Z24 Zm Zn m n0 n1 Zf5 Zav Zic Zug Zn0 Zq7 Zpc Zh1 Zrj Zpi Zj6 Zh4 Z8t Zj7 Z16g Z1ad Z1ae)
 else none)
 (cond (decide (Zq7 < (Zf5 : Int)))
 (if 0 ≤ Zq7 ∧ Zq7 < (Zf5 : Int) then
 (rdI .u8 Zic[((Int.toNat Zq7) * 1)]?).bind fun x121 =>
 Z25r Z1 Z2 Z3 Z4 Z24 Zm Zn m n0 Zf5 Zav Zic Zug Zn0 Zq7 Zpc (IntKind.wrap .i64 x121) Zrj Zpi Zj6 Zh4 Z8t Zj7 Z16g Z1ad Z1ae
 else none)
 (Z25r Z1 Z2 Z3 Z4 Z24 Zm Zn m n0 Zf5 Zav Zic Zug Zn0 Zq7 Zpc (0 : Int) Zrj Zpi Zj6 Zh4 Z8t Zj7 Z16g Z1ad Z1ae))) := by kernel_rfl
theorem Z261 (Z1 Z2 Z3 Z4 Z24 Zm Zn : List D → Option D) (m n0 : Nat) (Zq : Nat) (Zv : Option Nat) (Zz : List D) (Zy : Nat) (Z11 : Nat) (Z13 : Int) (Z1d : Nat) (Z1q : Option Nat) (Z4t : List D) (Zho : List D) (Z6b : List D) (Zxa : Nat) (Z21x : List D) : Z25t Z1 Z2 Z3 Z4 Z24 Zm Zn m (n0 + 1) Zq Zv Zz Zy Z11 Z13 Z1d Z1q Z4t Zho Z6b Zxa Z21x =
 ((rdL Zho[0]?).bind fun q108 =>
 cond (decide (Z13 < (q108.n : Int)))
 (Z25p Z1 Z2 Z3 Z4 Z24 Zm Zn m n0 m Zq Zv Zz Zy Z11 Z13 0 (0 : Int) Z1d Z1q Z4t Zho Z6b Zxa Z21x 0 [])
 ((Zm [(D.agg Z6b),(D.agg Zho)]).bind fun d136 =>
 (rdI .i64 (some d136)).bind fun x137 =>
 cond (x137 == (1 : Int))
 ((Zn [(D.agg Z6b),(D.agg Zho)]).bind fun d138 =>
 (rdB (some d138)).bind fun b139 =>
 cond b139
 ((Z1 []).bind fun d140 =>
 (rdB (some d140)).bind fun b141 =>
 some (D.v (.bool b141)))
 (some (D.v (.bool false))))
 (some (D.v (.bool false))))) := by kernel_rfl
noncomputable def Z25u (Z1 Z2 Z3 Z4 Z24 Zm Zn : List D → Option D) (m : Nat) (a0_0n : Nat) (a0_0c : Option Nat) (a0_0 : List D) (a1n : Nat) (a1c : Option Nat) (a1 : List D) : Option D :=
 (Z2 [(D.agg [(D.list a0_0n a0_0c a0_0)])]).bind fun d1 =>
 (rdA (some d1)).bind fun c2 =>
 if (List.length c2) = 1 then
 (rdL c2[0]?).bind fun q3 =>
 if 0 ≤ (q3.n : Int) ∧ (q3.n : Int) ≤ (q3.n : Int) ∧ Z2v (Int.toNat (q3.n : Int)) 8 then
 Z25t Z1 Z2 Z3 Z4 Z24 Zm Zn m m a1n a1c a1 (Int.toNat (q3.n : Int)) (Int.toNat (q3.n : Int)) (0 : Int) a0_0n a0_0c a0_0 c2 [(D.list 0 (some 0) [])] ((Int.toNat (q3.n : Int)) * 1) (List.flatten (List.replicate (Int.toNat (q3.n : Int)) [zI]))
 else none
 else none
theorem Z262 (Z1 Z2 Z3 Z4 Z24 Zm Zn : List D → Option D) (m : Nat) (a0_0n : Nat) (a0_0c : Option Nat) (a0_0 : List D) (a1n : Nat) (a1c : Option Nat) (a1 : List D) : funD Tg (Z25n Z1 Z2 Z3 Z4 Z24 Zm Zn) m 4 Z25m Tryz.f7 [(D.agg [(D.list a0_0n a0_0c a0_0)]),(D.list a1n a1c a1)] = Z25u Z1 Z2 Z3 Z4 Z24 Zm Zn m a0_0n a0_0c a0_0 a1n a1c a1 := by kernel_rfl
theorem Z263 : Enters Tg 7 := ⟨Tryz.f7,Tryz.func7,by kernel_rfl,by kernel_rfl⟩
theorem Z264 {ds : List D} {d : D} (h : funD Tg (Z25n Z12 Z16 Z1z Z26 Z6z Z52 Z6h) M 4 Z25m Tryz.f7 ds = some d) : DataSem Tg 7 ds d := Z5 (H := (Z25n Z12 Z16 Z1z Z26 Z6z Z52 Z6h)) (SpOk.cons Z113 (SpOk.cons Z13y (SpOk.cons Z1fe (SpOk.cons Z1f6 (SpOk.cons Z1vv (SpOk.cons Z1f9 (SpOk.cons Z1tm SpOk.nil))))))) mixed InlOk.nil Tryz.func7 Z263 h
noncomputable def Z25v : List D → Option D
 | [.agg [.list a0_0n a0_0c a0_0],.list a1n a1c a1] => Z25u Z12 Z16 Z1z Z26 Z6z Z52 Z6h M a0_0n a0_0c a0_0 a1n a1c a1
 | _ => none
theorem Z265 : ∀ ds d,Z25v ds = some d → DataSem Tg 7 ds d := by
 intro ds d h
 unfold Z25v at h
 split at h
 ·exact Z264 ((Z262 Z12 Z16 Z1z Z26 Z6z Z52 Z6h M _ _ _ _ _ _).trans h)
 ·cases h
end Go.Ev