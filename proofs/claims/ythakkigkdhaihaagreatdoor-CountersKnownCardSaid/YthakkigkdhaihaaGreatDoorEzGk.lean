/- Functions of the given program in plain form,printed: each with the proof that it is what the evaluator comes to,and that the program function returns what it says. No conditions. -/
import Derived.Test.YthakkigkdhaihaaGreatDoorEzG6
import Derived.Test.YthakkigkdhaihaaGreatDoorEzGr
set_option linter.unusedVariables false
set_option maxRecDepth 100000
namespace Go.Ev
open Go Go.Proofs
def Zc : FnH := ⟨[(3,⟨(bm 6 228),[(1,8)],(some 1),none⟩),(15,⟨(bm 2050 228),[],(some 1),none⟩),(24,⟨(bm 12288 228),[],(some 0),none⟩),(28,⟨(bm 61440 228),[(1000000,6)],(some 2),none⟩)],[(11,⟨(bm 2 228),[],(some 1),none⟩),(22,⟨(bm 0 228),[],(some 0),none⟩),(33,⟨(bm 12288 228),[],(some 0),none⟩)]⟩
noncomputable def Ze (Z9 Z6 Z7 Z8 Z3 Z1 Z2 Za : List D → Option D) : Hints := ⟨[(7,Z9),(9,Z6),(10,Z7),(11,Z8),(12,Z3),(13,Z1),(14,Z2),(15,Za)],[],[]⟩
noncomputable def Zv : ExtTab D := [(8,frE Tg 30 Z5e)]
noncomputable def Z5p (Z9 Z6 Z7 Z8 Z3 Z1 Z2 Za : List D → Option D) (m n0 : Nat) (Z2h : Nat) (Z3b : Int) (Z25 : Nat) (Z2p : List D) : Option D :=
 Z26 (bm 6 228) 0 1 (codeK Tg (Ze Z9 Z6 Z7 Z8 Z3 Z1 Z2 Za).sp ⟨0,[],false,[]⟩ (inlE Tg (Ze Z9 Z6 Z7 Z8 Z3 Z1 Z2 Za) Zv m 4) m Zc (subc [1,1,0,1,0,0] (bodyOf Tryz.f3))) n0 ⟨[Jk,(AV.sl 0 0 Z2h none 8),(AV.d (D.v (.int .i64 Z3b))),Jk,Jk,Jk,Jk,Jk,Jk,Jk,Jk,Jk,Jk,Jk,Jk,Jk,Jk,Jk,Jk,Jk,Jk,Jk,Jk,Jk,Jk,Jk,Jk,Jk,Jk,Jk,Jk,Jk,Jk,Jk,Jk,Jk,Jk,Jk,Jk,Jk,Jk,Jk,Jk,Jk,Jk,Jk,Jk,Jk,Jk,Jk,Jk,Jk,Jk,Jk,Jk,Jk,Jk,Jk,Jk,Jk,Jk,Jk,Jk,Jk,Jk,Jk,Jk,Jk,Jk,Jk,Jk,Jk,Jk,Jk,Jk,Jk,Jk,Jk,Jk,Jk,Jk,Jk,Jk,Jk,Jk,Jk,Jk,Jk,Jk,Jk,Jk,Jk,Jk,Jk,Jk,Jk,Jk,Jk,Jk,Jk,Jk,Jk,Jk,Jk,Jk,Jk,Jk,Jk,Jk,Jk,Jk,Jk,Jk,Jk,Jk,Jk,Jk,Jk,Jk,Jk,Jk,Jk,Jk,Jk,Jk,Jk,Jk,Jk,Jk,Jk,Jk,Jk,Jk,Jk,Jk,Jk,Jk,Jk,Jk,Jk,Jk,Jk,Jk,Jk,Jk,Jk,Jk,Jk,Jk,Jk,Jk,Jk,Jk,Jk,Jk,Jk,Jk,Jk,Jk,Jk,Jk,Jk,Jk,Jk,Jk,Jk,Jk,Jk,Jk,Jk,Jk,Jk,Jk,Jk,Jk,Jk,Jk,Jk,Jk,Jk,Jk,Jk,Jk,Jk,Jk,Jk,Jk,Jk,Jk,Jk,Jk,Jk,Jk,Jk,Jk,Jk,Jk,Jk,Jk,Jk,Jk,Jk,Jk,Jk,Jk,Jk,Jk,Jk,Jk,Jk,Jk,Jk,Jk,Jk,Jk,Jk,Jk,Jk,Jk,Jk,Jk,Jk,Jk,Jk,Jk,Jk,Jk,Jk],[(Blk.d Z25 Z2p)]⟩
  (contK Tg (Ze Z9 Z6 Z7 Z8 Z3 Z1 Z2 Za).sp ⟨0,[],false,[]⟩ (inlE Tg (Ze Z9 Z6 Z7 Z8 Z3 Z1 Z2 Za) Zv m 4) m Zc (endK Tg Tryz.f3 endV) [.block 0,.code (subc [1,1,1] (bodyOf Tryz.f3))])
noncomputable def Z6t (Z9 Z6 Z7 Z8 Z3 Z1 Z2 Za : List D → Option D) (m : Nat) (Z3v : Nat) (Z4x : Nat) (Z44 : List D) : Option D :=
 cutK m (codeK Tg (Ze Z9 Z6 Z7 Z8 Z3 Z1 Z2 Za).sp ⟨0,[],false,[]⟩ (inlE Tg (Ze Z9 Z6 Z7 Z8 Z3 Z1 Z2 Za) Zv m 4) m Zc (subc [1,1,1,1,1,1,1] (bodyOf Tryz.f3)) ⟨[Jk,(AV.sl 0 0 Z3v none 8),Jk,Jk,Jk,Jk,Jk,Jk,Jk,Jk,Jk,Jk,Jk,Jk,Jk,Jk,Jk,Jk,Jk,Jk,Jk,Jk,Jk,Jk,Jk,Jk,Jk,Jk,Jk,Jk,Jk,Jk,Jk,Jk,Jk,Jk,Jk,Jk,Jk,Jk,Jk,Jk,Jk,Jk,Jk,Jk,Jk,Jk,Jk,Jk,Jk,Jk,Jk,Jk,Jk,Jk,Jk,Jk,Jk,Jk,Jk,Jk,Jk,Jk,Jk,Jk,Jk,Jk,Jk,Jk,Jk,Jk,Jk,Jk,Jk,Jk,Jk,Jk,Jk,Jk,Jk,Jk,Jk,Jk,Jk,Jk,Jk,Jk,Jk,Jk,Jk,Jk,Jk,Jk,Jk,Jk,Jk,Jk,Jk,Jk,Jk,Jk,Jk,Jk,Jk,Jk,Jk,Jk,Jk,Jk,Jk,Jk,Jk,Jk,Jk,Jk,Jk,Jk,Jk,Jk,Jk,Jk,Jk,Jk,Jk,Jk,Jk,Jk,Jk,Jk,Jk,Jk,Jk,Jk,Jk,Jk,Jk,Jk,Jk,Jk,Jk,Jk,Jk,Jk,Jk,Jk,Jk,Jk,Jk,Jk,Jk,Jk,Jk,Jk,Jk,Jk,Jk,Jk,Jk,Jk,Jk,Jk,Jk,Jk,Jk,Jk,Jk,Jk,Jk,Jk,Jk,Jk,Jk,Jk,Jk,Jk,Jk,Jk,Jk,Jk,Jk,Jk,Jk,Jk,Jk,Jk,Jk,Jk,Jk,Jk,Jk,Jk,Jk,Jk,Jk,Jk,Jk,Jk,Jk,Jk,Jk,Jk,Jk,Jk,Jk,Jk,Jk,Jk,Jk,Jk,Jk,Jk,Jk,Jk,Jk,Jk,Jk,Jk,Jk,Jk,Jk,Jk,Jk,Jk,Jk,Jk,Jk,Jk],[(Blk.d Z4x Z44)]⟩
  (contK Tg (Ze Z9 Z6 Z7 Z8 Z3 Z1 Z2 Za).sp ⟨0,[],false,[]⟩ (inlE Tg (Ze Z9 Z6 Z7 Z8 Z3 Z1 Z2 Za) Zv m 4) m Zc (endK Tg Tryz.f3 endV) []))
noncomputable def Z5f (Z9 Z6 Z7 Z8 Z3 Z1 Z2 Za : List D → Option D) (m n0 : Nat) (Zft : Nat) (Zij : Int) (Zg7 : Nat) (Zk9 : List D) : Option D :=
 Z26 (bm 2050 228) 0 1 (codeK Tg (Ze Z9 Z6 Z7 Z8 Z3 Z1 Z2 Za).sp ⟨0,[],false,[]⟩ (inlE Tg (Ze Z9 Z6 Z7 Z8 Z3 Z1 Z2 Za) Zv m 4) m Zc (subc [1,1,1,1,1,1,1,1,1,1,0,1,0,0] (bodyOf Tryz.f3))) n0 ⟨[Jk,(AV.sl 0 0 Zft none 8),Jk,Jk,Jk,Jk,Jk,Jk,Jk,Jk,Jk,(AV.d (D.v (.int .i64 Zij))),Jk,Jk,Jk,Jk,Jk,Jk,Jk,Jk,Jk,Jk,Jk,Jk,Jk,Jk,Jk,Jk,Jk,Jk,Jk,Jk,Jk,Jk,Jk,Jk,Jk,Jk,Jk,Jk,Jk,Jk,Jk,Jk,Jk,Jk,Jk,Jk,Jk,Jk,Jk,Jk,Jk,Jk,Jk,Jk,Jk,Jk,Jk,Jk,Jk,Jk,Jk,Jk,Jk,Jk,Jk,Jk,Jk,Jk,Jk,Jk,Jk,Jk,Jk,Jk,Jk,Jk,Jk,Jk,Jk,Jk,Jk,Jk,Jk,Jk,Jk,Jk,Jk,Jk,Jk,Jk,Jk,Jk,Jk,Jk,Jk,Jk,Jk,Jk,Jk,Jk,Jk,Jk,Jk,Jk,Jk,Jk,Jk,Jk,Jk,Jk,Jk,Jk,Jk,Jk,Jk,Jk,Jk,Jk,Jk,Jk,Jk,Jk,Jk,Jk,Jk,Jk,Jk,Jk,Jk,Jk,Jk,Jk,Jk,Jk,Jk,Jk,Jk,Jk,Jk,Jk,Jk,Jk,Jk,Jk,Jk,Jk,Jk,Jk,Jk,Jk,Jk,Jk,Jk,Jk,Jk,Jk,Jk,Jk,Jk,Jk,Jk,Jk,Jk,Jk,Jk,Jk,Jk,Jk,Jk,Jk,Jk,Jk,Jk,Jk,Jk,Jk,Jk,Jk,Jk,Jk,Jk,Jk,Jk,Jk,Jk,Jk,Jk,Jk,Jk,Jk,Jk,Jk,Jk,Jk,Jk,Jk,Jk,Jk,Jk,Jk,Jk,Jk,Jk,Jk,Jk,Jk,Jk,Jk,Jk,Jk,Jk,Jk,Jk,Jk,Jk,Jk,Jk,Jk,Jk,Jk,Jk,Jk,Jk,Jk,Jk,Jk],[(Blk.d Zg7 Zk9)]⟩
  (contK Tg (Ze Z9 Z6 Z7 Z8 Z3 Z1 Z2 Za).sp ⟨0,[],false,[]⟩ (inlE Tg (Ze Z9 Z6 Z7 Z8 Z3 Z1 Z2 Za) Zv m 4) m Zc (endK Tg Tryz.f3 endV) [.block 2,.code (subc [1,1,1,1,1,1,1,1,1,1,1] (bodyOf Tryz.f3))])
noncomputable def Z6u (Z9 Z6 Z7 Z8 Z3 Z1 Z2 Za : List D → Option D) (m : Nat)  : Option D :=
 cutK m (codeK Tg (Ze Z9 Z6 Z7 Z8 Z3 Z1 Z2 Za).sp ⟨0,[],false,[]⟩ (inlE Tg (Ze Z9 Z6 Z7 Z8 Z3 Z1 Z2 Za) Zv m 4) m Zc (subc [1,1,1,1,1,1,1,1,1,1,1,1,1,1] (bodyOf Tryz.f3)) ⟨[Jk,Jk,Jk,Jk,Jk,Jk,Jk,Jk,Jk,Jk,Jk,Jk,Jk,Jk,Jk,Jk,Jk,Jk,Jk,Jk,Jk,Jk,Jk,Jk,Jk,Jk,Jk,Jk,Jk,Jk,Jk,Jk,Jk,Jk,Jk,Jk,Jk,Jk,Jk,Jk,Jk,Jk,Jk,Jk,Jk,Jk,Jk,Jk,Jk,Jk,Jk,Jk,Jk,Jk,Jk,Jk,Jk,Jk,Jk,Jk,Jk,Jk,Jk,Jk,Jk,Jk,Jk,Jk,Jk,Jk,Jk,Jk,Jk,Jk,Jk,Jk,Jk,Jk,Jk,Jk,Jk,Jk,Jk,Jk,Jk,Jk,Jk,Jk,Jk,Jk,Jk,Jk,Jk,Jk,Jk,Jk,Jk,Jk,Jk,Jk,Jk,Jk,Jk,Jk,Jk,Jk,Jk,Jk,Jk,Jk,Jk,Jk,Jk,Jk,Jk,Jk,Jk,Jk,Jk,Jk,Jk,Jk,Jk,Jk,Jk,Jk,Jk,Jk,Jk,Jk,Jk,Jk,Jk,Jk,Jk,Jk,Jk,Jk,Jk,Jk,Jk,Jk,Jk,Jk,Jk,Jk,Jk,Jk,Jk,Jk,Jk,Jk,Jk,Jk,Jk,Jk,Jk,Jk,Jk,Jk,Jk,Jk,Jk,Jk,Jk,Jk,Jk,Jk,Jk,Jk,Jk,Jk,Jk,Jk,Jk,Jk,Jk,Jk,Jk,Jk,Jk,Jk,Jk,Jk,Jk,Jk,Jk,Jk,Jk,Jk,Jk,Jk,Jk,Jk,Jk,Jk,Jk,Jk,Jk,Jk,Jk,Jk,Jk,Jk,Jk,Jk,Jk,Jk,Jk,Jk,Jk,Jk,Jk,Jk,Jk,Jk,Jk,Jk,Jk,Jk,Jk,Jk,Jk,Jk,Jk,Jk,Jk,Jk],[]⟩
  (contK Tg (Ze Z9 Z6 Z7 Z8 Z3 Z1 Z2 Za).sp ⟨0,[],false,[]⟩ (inlE Tg (Ze Z9 Z6 Z7 Z8 Z3 Z1 Z2 Za) Zv m 4) m Zc (endK Tg Tryz.f3 endV) []))
noncomputable def Z5g (Z9 Z6 Z7 Z8 Z3 Z1 Z2 Za : List D → Option D) (m n0 : Nat) (Z18u : Int) (Zze : Int) : Option D :=
 Z26 (bm 12288 228) 0 0 (codeK Tg (Ze Z9 Z6 Z7 Z8 Z3 Z1 Z2 Za).sp ⟨0,[],false,[]⟩ (inlE Tg (Ze Z9 Z6 Z7 Z8 Z3 Z1 Z2 Za) Zv m 4) m Zc (subc [1,1,1,1,1,1,1,1,1,1,1,1,1,1,1,0,1,0,0] (bodyOf Tryz.f3))) n0 ⟨[Jk,Jk,Jk,Jk,Jk,Jk,Jk,Jk,Jk,Jk,Jk,Jk,(AV.d (D.v (.int .i64 Z18u))),(AV.d (D.v (.int .i64 Zze))),Jk,Jk,Jk,Jk,Jk,Jk,Jk,Jk,Jk,Jk,Jk,Jk,Jk,Jk,Jk,Jk,Jk,Jk,Jk,Jk,Jk,Jk,Jk,Jk,Jk,Jk,Jk,Jk,Jk,Jk,Jk,Jk,Jk,Jk,Jk,Jk,Jk,Jk,Jk,Jk,Jk,Jk,Jk,Jk,Jk,Jk,Jk,Jk,Jk,Jk,Jk,Jk,Jk,Jk,Jk,Jk,Jk,Jk,Jk,Jk,Jk,Jk,Jk,Jk,Jk,Jk,Jk,Jk,Jk,Jk,Jk,Jk,Jk,Jk,Jk,Jk,Jk,Jk,Jk,Jk,Jk,Jk,Jk,Jk,Jk,Jk,Jk,Jk,Jk,Jk,Jk,Jk,Jk,Jk,Jk,Jk,Jk,Jk,Jk,Jk,Jk,Jk,Jk,Jk,Jk,Jk,Jk,Jk,Jk,Jk,Jk,Jk,Jk,Jk,Jk,Jk,Jk,Jk,Jk,Jk,Jk,Jk,Jk,Jk,Jk,Jk,Jk,Jk,Jk,Jk,Jk,Jk,Jk,Jk,Jk,Jk,Jk,Jk,Jk,Jk,Jk,Jk,Jk,Jk,Jk,Jk,Jk,Jk,Jk,Jk,Jk,Jk,Jk,Jk,Jk,Jk,Jk,Jk,Jk,Jk,Jk,Jk,Jk,Jk,Jk,Jk,Jk,Jk,Jk,Jk,Jk,Jk,Jk,Jk,Jk,Jk,Jk,Jk,Jk,Jk,Jk,Jk,Jk,Jk,Jk,Jk,Jk,Jk,Jk,Jk,Jk,Jk,Jk,Jk,Jk,Jk,Jk,Jk,Jk,Jk,Jk,Jk,Jk,Jk,Jk,Jk,Jk,Jk,Jk,Jk,Jk,Jk,Jk,Jk],[]⟩
  (contK Tg (Ze Z9 Z6 Z7 Z8 Z3 Z1 Z2 Za).sp ⟨0,[],false,[]⟩ (inlE Tg (Ze Z9 Z6 Z7 Z8 Z3 Z1 Z2 Za) Zv m 4) m Zc (endK Tg Tryz.f3 endV) [.block 4,.code (subc [1,1,1,1,1,1,1,1,1,1,1,1,1,1,1,1] (bodyOf Tryz.f3))])
noncomputable def Z5h (Z9 Z6 Z7 Z8 Z3 Z1 Z2 Za : List D → Option D) (m n0 n1 : Nat) (Z18v : Int) (Z1hf : Int) (Z12m : Int) (Zxa : Nat) (Z16m : Int) (Z14d : Nat) (Z16n : List D) : Option D :=
 Z26 (bm 61440 228) 0 2 (codeK Tg (Ze Z9 Z6 Z7 Z8 Z3 Z1 Z2 Za).sp ⟨0,[],false,[]⟩ (inlE Tg (Ze Z9 Z6 Z7 Z8 Z3 Z1 Z2 Za) Zv m 4) m Zc (subc [1,1,1,1,1,1,1,1,1,1,1,1,1,1,1,0,1,0,0,1,0,0,1,0,1,0,0] (bodyOf Tryz.f3))) n1 ⟨[Jk,Jk,Jk,Jk,Jk,Jk,Jk,Jk,Jk,Jk,Jk,Jk,(AV.d (D.v (.int .i64 Z18v))),(AV.d (D.v (.int .i64 Z1hf))),(AV.ptr 0 0),(AV.d (D.v (.int .i64 Z12m))),Jk,Jk,Jk,Jk,Jk,Jk,Jk,Jk,Jk,Jk,Jk,Jk,Jk,Jk,Jk,Jk,Jk,Jk,Jk,Jk,Jk,Jk,Jk,Jk,Jk,Jk,Jk,Jk,Jk,Jk,Jk,Jk,Jk,Jk,Jk,Jk,Jk,Jk,Jk,Jk,Jk,Jk,Jk,Jk,Jk,Jk,Jk,Jk,Jk,Jk,Jk,Jk,Jk,Jk,Jk,Jk,Jk,Jk,Jk,Jk,Jk,Jk,Jk,Jk,Jk,Jk,Jk,Jk,Jk,Jk,Jk,Jk,Jk,Jk,Jk,Jk,Jk,Jk,Jk,Jk,Jk,Jk,Jk,Jk,Jk,Jk,Jk,Jk,Jk,Jk,Jk,Jk,Jk,Jk,Jk,Jk,Jk,Jk,Jk,Jk,Jk,Jk,Jk,Jk,Jk,Jk,Jk,Jk,Jk,Jk,Jk,Jk,Jk,Jk,Jk,Jk,Jk,Jk,Jk,Jk,Jk,Jk,Jk,Jk,Jk,Jk,Jk,Jk,Jk,Jk,Jk,Jk,Jk,Jk,Jk,Jk,Jk,Jk,Jk,Jk,Jk,Jk,Jk,Jk,Jk,Jk,Jk,Jk,Jk,Jk,Jk,Jk,Jk,Jk,Jk,Jk,Jk,Jk,Jk,Jk,Jk,Jk,Jk,Jk,Jk,Jk,Jk,Jk,Jk,Jk,Jk,Jk,Jk,Jk,Jk,Jk,Jk,Jk,Jk,Jk,Jk,Jk,Jk,Jk,Jk,Jk,Jk,Jk,Jk,Jk,Jk,Jk,Jk,Jk,Jk,Jk,Jk,Jk,Jk,Jk,Jk,Jk,Jk,Jk,Jk,Jk,Jk,Jk,Jk,Jk,Jk,Jk],[(Blk.a 3 [(AV.sl 1 0 Zxa none 6),(AV.d (D.v (.int .u8 (0 : Int)))),(AV.d (D.v (.int .u8 Z16m)))]),(Blk.d Z14d Z16n)]⟩
  (contK Tg (Ze Z9 Z6 Z7 Z8 Z3 Z1 Z2 Za).sp ⟨0,[],false,[]⟩ (inlE Tg (Ze Z9 Z6 Z7 Z8 Z3 Z1 Z2 Za) Zv m 4) m Zc (endK Tg Tryz.f3 endV) [.block 6,.code (subc [1,1,1,1,1,1,1,1,1,1,1,1,1,1,1,0,1,0,0,1,0,0,1,1] (bodyOf Tryz.f3)),.block 5,.code (subc [1,1,1,1,1,1,1,1,1,1,1,1,1,1,1,0,1,0,0,1,1] (bodyOf Tryz.f3)),.loop (bm 12288 228) 0 (subc [1,1,1,1,1,1,1,1,1,1,1,1,1,1,1,0,1,0,0] (bodyOf Tryz.f3)) n0,.block 4,.code (subc [1,1,1,1,1,1,1,1,1,1,1,1,1,1,1,1] (bodyOf Tryz.f3))])
noncomputable def Z6v (Z9 Z6 Z7 Z8 Z3 Z1 Z2 Za : List D → Option D) (m n0 : Nat) (Zo3 : Int) (Zme : Int) : Option D :=
 cutK m (codeK Tg (Ze Z9 Z6 Z7 Z8 Z3 Z1 Z2 Za).sp ⟨0,[],false,[]⟩ (inlE Tg (Ze Z9 Z6 Z7 Z8 Z3 Z1 Z2 Za) Zv m 4) m Zc (subc [1,1,1,1,1,1,1,1,1,1,1,1,1,1,1,0,1,0,0,1,0,0,1,1,1] (bodyOf Tryz.f3)) ⟨[Jk,Jk,Jk,Jk,Jk,Jk,Jk,Jk,Jk,Jk,Jk,Jk,(AV.d (D.v (.int .i64 Zo3))),(AV.d (D.v (.int .i64 Zme))),Jk,Jk,Jk,Jk,Jk,Jk,Jk,Jk,Jk,Jk,Jk,Jk,Jk,Jk,Jk,Jk,Jk,Jk,Jk,Jk,Jk,Jk,Jk,Jk,Jk,Jk,Jk,Jk,Jk,Jk,Jk,Jk,Jk,Jk,Jk,Jk,Jk,Jk,Jk,Jk,Jk,Jk,Jk,Jk,Jk,Jk,Jk,Jk,Jk,Jk,Jk,Jk,Jk,Jk,Jk,Jk,Jk,Jk,Jk,Jk,Jk,Jk,Jk,Jk,Jk,Jk,Jk,Jk,Jk,Jk,Jk,Jk,Jk,Jk,Jk,Jk,Jk,Jk,Jk,Jk,Jk,Jk,Jk,Jk,Jk,Jk,Jk,Jk,Jk,Jk,Jk,Jk,Jk,Jk,Jk,Jk,Jk,Jk,Jk,Jk,Jk,Jk,Jk,Jk,Jk,Jk,Jk,Jk,Jk,Jk,Jk,Jk,Jk,Jk,Jk,Jk,Jk,Jk,Jk,Jk,Jk,Jk,Jk,Jk,Jk,Jk,Jk,Jk,Jk,Jk,Jk,Jk,Jk,Jk,Jk,Jk,Jk,Jk,Jk,Jk,Jk,Jk,Jk,Jk,Jk,Jk,Jk,Jk,Jk,Jk,Jk,Jk,Jk,Jk,Jk,Jk,Jk,Jk,Jk,Jk,Jk,Jk,Jk,Jk,Jk,Jk,Jk,Jk,Jk,Jk,Jk,Jk,Jk,Jk,Jk,Jk,Jk,Jk,Jk,Jk,Jk,Jk,Jk,Jk,Jk,Jk,Jk,Jk,Jk,Jk,Jk,Jk,Jk,Jk,Jk,Jk,Jk,Jk,Jk,Jk,Jk,Jk,Jk,Jk,Jk,Jk,Jk,Jk,Jk,Jk,Jk,Jk,Jk,Jk],[]⟩
  (contK Tg (Ze Z9 Z6 Z7 Z8 Z3 Z1 Z2 Za).sp ⟨0,[],false,[]⟩ (inlE Tg (Ze Z9 Z6 Z7 Z8 Z3 Z1 Z2 Za) Zv m 4) m Zc (endK Tg Tryz.f3 endV) [.block 5,.code (subc [1,1,1,1,1,1,1,1,1,1,1,1,1,1,1,0,1,0,0,1,1] (bodyOf Tryz.f3)),.loop (bm 12288 228) 0 (subc [1,1,1,1,1,1,1,1,1,1,1,1,1,1,1,0,1,0,0] (bodyOf Tryz.f3)) n0,.block 4,.code (subc [1,1,1,1,1,1,1,1,1,1,1,1,1,1,1,1] (bodyOf Tryz.f3))]))
theorem Zm5 (Z9 Z6 Z7 Z8 Z3 Z1 Z2 Za : List D → Option D) (m n0 : Nat) (Zo3 : Int) (Zme : Int) : Z6v Z9 Z6 Z7 Z8 Z3 Z1 Z2 Za m n0 Zo3 Zme =
 (Z5g Z9 Z6 Z7 Z8 Z3 Z1 Z2 Za m n0 (Int.tmod (IntKind.wrap .i64 ((IntKind.wrap .i64 (Zo3 * (31 : Int))) + (11 : Int))) (100003 : Int)) (IntKind.wrap .i64 (Zme + (1 : Int)))) := (Z12 m _).trans (by kernel_rfl)
theorem Zmj (Z9 Z6 Z7 Z8 Z3 Z1 Z2 Za : List D → Option D) (m n0 n1 : Nat) (Z18v : Int) (Z1hf : Int) (Z12m : Int) (Zxa : Nat) (Z16m : Int) (Z14d : Nat) (Z16n : List D) : Z5h Z9 Z6 Z7 Z8 Z3 Z1 Z2 Za m n0 (n1 + 1) Z18v Z1hf Z12m Zxa Z16m Z14d Z16n =
 (cond (decide (Z12m < (5 : Int)))
 (if Z12m < 0 then none else
 if (IntKind.wrap .i64 (Z12m + (1 : Int))) < 0 then none else
 if (IntKind.wrap .i64 (Z12m + (2 : Int))) < 0 then none else
 if (IntKind.wrap .i64 (Z12m + (3 : Int))) < 0 then none else
 if ownB ⟨0,[],false,[]⟩ 1 = true ∧ Z14d = (Zxa * 6) ∧ Z4y (Zxa + 1) 64 ∧ 6 = 6 then
 Z5h Z9 Z6 Z7 Z8 Z3 Z1 Z2 Za m n0 n1 Z18v Z1hf (IntKind.wrap .i64 (Z12m + (1 : Int))) (Zxa + 1) Z16m ((Zxa + 1) * 6) (Z16n ++ [(D.v (.int .u8 (IntKind.wrap .u8 (Int.fdiv Z18v (2 ^ (min (Int.toNat Z12m) (IntKind.bits .i64))))))),(D.list 0 (some 0) []),(D.list 0 (some 0) []),(D.v (.int .u8 (IntKind.wrap .u8 (Int.fdiv Z18v (2 ^ (min (Int.toNat (IntKind.wrap .i64 (Z12m + (1 : Int)))) (IntKind.bits .i64))))))),(D.v (.int .u8 (IntKind.wrap .u8 (Int.fdiv Z18v (2 ^ (min (Int.toNat (IntKind.wrap .i64 (Z12m + (2 : Int)))) (IntKind.bits .i64))))))),(D.v (.int .u8 (IntKind.wrap .u8 (Int.fdiv Z18v (2 ^ (min (Int.toNat (IntKind.wrap .i64 (Z12m + (3 : Int)))) (IntKind.bits .i64)))))))])
 else none)
 (if (0 + (Zxa * 6)) ≤ Z14d then
 (Z3 [(D.agg [(D.list Zxa none (cutL Z14d Z16n 0 (Zxa * 6))),(D.v (.int .u8 (0 : Int))),(D.v (.int .u8 Z16m))])]).bind fun d61 =>
 (rdB (some d61)).bind fun b62 =>
 cond (!b62)
 (some (D.v (.bool false)))
 (if (0 + (Zxa * 6)) ≤ Z14d then
 (Z1 [(D.agg [(D.list Zxa none (cutL Z14d Z16n 0 (Zxa * 6))),(D.v (.int .u8 (0 : Int))),(D.v (.int .u8 Z16m))])]).bind fun d63 =>
 (rdB (some d63)).bind fun b64 =>
 cond (!b64)
 (some (D.v (.bool false)))
 (if (0 + (Zxa * 6)) ≤ Z14d then
 (Z2 [(D.agg [(D.list Zxa none (cutL Z14d Z16n 0 (Zxa * 6))),(D.v (.int .u8 (0 : Int))),(D.v (.int .u8 Z16m))]),(D.v (.int .u8 (IntKind.wrap .u8 Z18v)))]).bind fun d65 =>
 (rdB (some d65)).bind fun b66 =>
 cond (!b66)
 (some (D.v (.bool false)))
 (Z6v Z9 Z6 Z7 Z8 Z3 Z1 Z2 Za m n0 Z18v Z1hf)
 else none)
 else none)
 else none)) := by kernel_rfl
theorem Zmk (Z9 Z6 Z7 Z8 Z3 Z1 Z2 Za : List D → Option D) (m n0 : Nat) (Z18u : Int) (Zze : Int) : Z5g Z9 Z6 Z7 Z8 Z3 Z1 Z2 Za m (n0 + 1) Z18u Zze =
 (cond (decide (Zze < (60 : Int)))
 (Z5h Z9 Z6 Z7 Z8 Z3 Z1 Z2 Za m n0 m Z18u Zze (0 : Int) 0 (IntKind.wrap .u8 Zze) 0 [])
 ((Za []).bind fun d67 =>
 (rdB (some d67)).bind fun b68 =>
 some (D.v (.bool b68)))) := by kernel_rfl
theorem Zm6 (Z9 Z6 Z7 Z8 Z3 Z1 Z2 Za : List D → Option D) (m : Nat)  : Z6u Z9 Z6 Z7 Z8 Z3 Z1 Z2 Za m  =
 (Z5g Z9 Z6 Z7 Z8 Z3 Z1 Z2 Za m m (1 : Int) (0 : Int)) := (Z12 m _).trans (by kernel_rfl)
theorem Zml (Z9 Z6 Z7 Z8 Z3 Z1 Z2 Za : List D → Option D) (m n0 : Nat) (Zft : Nat) (Zij : Int) (Zg7 : Nat) (Zk9 : List D) : Z5f Z9 Z6 Z7 Z8 Z3 Z1 Z2 Za m (n0 + 1) Zft Zij Zg7 Zk9 =
 (cond (decide (Zij < (20 : Int)))
 (if 0 ≤ Zij ∧ Zij < (Zft : Int) then
 if 1 = 1 ∧ ((0 + ((Int.toNat Zij) * 8)) + 0) < Zg7 then
 Z5f Z9 Z6 Z7 Z8 Z3 Z1 Z2 Za m n0 Zft (IntKind.wrap .i64 (Zij + (1 : Int))) Zg7 (List.set Zk9 ((0 + ((Int.toNat Zij) * 8)) + 0) (D.v (.bool true)))
 else none
 else none)
 (if (0 + (Zft * 8)) ≤ Zg7 then
 (Z5e [(D.list Zft none (cutL Zg7 Zk9 0 (Zft * 8))),(D.agg [(D.list 0 (some 0) []),(D.v (.bool false)),(D.v (.bool false)),(D.v (.bool false))])]).bind fun d27 =>
 (rdT d27).bind fun r28 =>
 if List.length r28 = 2 then
 (rdL r28[0]?).bind fun q29 =>
 (rdI .i64 r28[1]?).bind fun x30 =>
 if (0 + (Zft * 8)) ≤ Zg7 then
 (Z7 [(D.list Zft none (cutL Zg7 Zk9 0 (Zft * 8))),(D.agg [(D.list 0 (some 0) []),(D.v (.bool false)),(D.v (.bool false)),(D.v (.bool false))])]).bind fun d31 =>
 (rdT d31).bind fun r32 =>
 if List.length r32 = 4 then
 (rdI .i64 r32[0]?).bind fun x33 =>
 (rdI .i64 r32[1]?).bind fun x34 =>
 (rdI .i64 r32[2]?).bind fun x35 =>
 (rdI .i64 r32[3]?).bind fun x36 =>
 cond (x30 != (0 : Int))
 (some (D.v (.bool false)))
 (cond (x36 != (0 : Int))
 (some (D.v (.bool false)))
 (cond ((q29.n : Int) != (64 : Int))
 (some (D.v (.bool false)))
 (if 0 ≤ (10 : Int) ∧ (10 : Int) < (q29.n : Int) then
 if 33 ≤ (List.length q29.cs) then
 (Z8 [(D.v (.int .i64 (5 : Int))),(D.v (.int .i64 (55 : Int))),(D.v (.int .i64 (55 : Int)))]).bind fun d37 =>
 (rdA (some d37)).bind fun c38 =>
 (cellsEq [.int,.int,.int] ((List.drop 30 q29.cs).take 3) c38).bind fun b39 =>
 cond (!b39)
 (some (D.v (.bool false)))
 (if 0 ≤ (20 : Int) ∧ (20 : Int) < (q29.n : Int) then
 if 63 ≤ (List.length q29.cs) then
 (Z8 [(D.v (.int .i64 (5 : Int))),(D.v (.int .i64 (55 : Int))),(D.v (.int .i64 (55 : Int)))]).bind fun d40 =>
 (rdA (some d40)).bind fun c41 =>
 (cellsEq [.int,.int,.int] ((List.drop 60 q29.cs).take 3) c41).bind fun b42 =>
 cond (!b42)
 (some (D.v (.bool false)))
 (if 0 ≤ (25 : Int) ∧ (25 : Int) < (q29.n : Int) then
 if 78 ≤ (List.length q29.cs) then
 (Z8 [zI,(D.v (.int .i64 (50 : Int))),(D.v (.int .i64 (50 : Int)))]).bind fun d43 =>
 (rdA (some d43)).bind fun c44 =>
 (cellsEq [.int,.int,.int] ((List.drop 75 q29.cs).take 3) c44).bind fun b45 =>
 cond (!b45)
 (some (D.v (.bool false)))
 (if 0 ≤ (24 : Int) ∧ (24 : Int) < (q29.n : Int) then
 if 75 ≤ (List.length q29.cs) then
 (Z8 [(D.v (.int .i64 (1 : Int))),(D.v (.int .i64 (51 : Int))),(D.v (.int .i64 (51 : Int)))]).bind fun d46 =>
 (rdA (some d46)).bind fun c47 =>
 (cellsEq [.int,.int,.int] ((List.drop 72 q29.cs).take 3) c47).bind fun b48 =>
 cond (!b48)
 (some (D.v (.bool false)))
 (cond (x33 != (26 : Int))
 (some (D.v (.bool false)))
 (cond (x34 != (65 : Int))
 (some (D.v (.bool false)))
 (cond (x35 != (65 : Int))
 (some (D.v (.bool false)))
 (Z6u Z9 Z6 Z7 Z8 Z3 Z1 Z2 Za m ))))
 else none
 else none)
 else none
 else none)
 else none
 else none)
 else none
 else none)))
 else none
 else none
 else none
 else none)) := by kernel_rfl
theorem Zm7 (Z9 Z6 Z7 Z8 Z3 Z1 Z2 Za : List D → Option D) (m : Nat) (Z3v : Nat) (Z4x : Nat) (Z44 : List D) : Z6t Z9 Z6 Z7 Z8 Z3 Z1 Z2 Za m Z3v Z4x Z44 =
 (if 0 ≤ (9 : Int) ∧ (9 : Int) < (Z3v : Int) then
 if 1 = 1 ∧ 77 < Z4x then
 if 0 ≤ (9 : Int) ∧ (9 : Int) < (Z3v : Int) then
 if 1 = 1 ∧ 78 < Z4x then
 if 0 ≤ (9 : Int) ∧ (9 : Int) < (Z3v : Int) then
 if 1 = 1 ∧ 79 < Z4x then
 Z5f Z9 Z6 Z7 Z8 Z3 Z1 Z2 Za m m Z3v (10 : Int) Z4x (List.set (List.set (List.set Z44 77 (D.v (.int .i64 (5 : Int)))) 78 (D.v (.int .i64 (2147483647 : Int)))) 79 (D.v (.int .i64 (60 : Int))))
 else none
 else none
 else none
 else none
 else none
 else none) := (Z12 m _).trans (by kernel_rfl)
theorem Zo9 (Z9 Z6 Z7 Z8 Z3 Z1 Z2 Za : List D → Option D) (m n0 : Nat) (Z2h : Nat) (Z3b : Int) (Z25 : Nat) (Z2p : List D) : Z5p Z9 Z6 Z7 Z8 Z3 Z1 Z2 Za m (n0 + 1) Z2h Z3b Z25 Z2p =
 (cond (decide (Z3b < (64 : Int)))
 ((Z9 []).bind fun d5 =>
 (rdA (some d5)).bind fun c6 =>
 if (List.length c6) = 8 then
 if ownB ⟨0,[],false,[]⟩ 0 = true ∧ Z25 = (Z2h * 8) ∧ Z4y (Z2h + 1) 88 ∧ (List.length c6) = 8 then
 Z5p Z9 Z6 Z7 Z8 Z3 Z1 Z2 Za m n0 (Z2h + 1) (IntKind.wrap .i64 (Z3b + (1 : Int))) ((Z2h + 1) * 8) (Z2p ++ c6)
 else none
 else none)
 (if (0 + (Z2h * 8)) ≤ Z25 then
 (Z5e [(D.list Z2h none (cutL Z25 Z2p 0 (Z2h * 8))),(D.agg [(D.list 0 (some 0) []),(D.v (.bool false)),(D.v (.bool false)),(D.v (.bool false))])]).bind fun d7 =>
 (rdT d7).bind fun r8 =>
 if List.length r8 = 2 then
 (rdL r8[0]?).bind fun q9 =>
 (rdI .i64 r8[1]?).bind fun x10 =>
 if (0 + (Z2h * 8)) ≤ Z25 then
 (Z6 [(D.list Z2h none (cutL Z25 Z2p 0 (Z2h * 8))),(D.agg [(D.list 0 (some 0) []),(D.v (.bool false)),(D.v (.bool false)),(D.v (.bool false))])]).bind fun d11 =>
 (rdT d11).bind fun r12 =>
 if List.length r12 = 2 then
 (rdI .i64 r12[0]?).bind fun x13 =>
 (rdI .i64 r12[1]?).bind fun x14 =>
 if (0 + (Z2h * 8)) ≤ Z25 then
 (Z7 [(D.list Z2h none (cutL Z25 Z2p 0 (Z2h * 8))),(D.agg [(D.list 0 (some 0) []),(D.v (.bool false)),(D.v (.bool false)),(D.v (.bool true))])]).bind fun d15 =>
 (rdT d15).bind fun r16 =>
 if List.length r16 = 4 then
 (rdI .i64 r16[0]?).bind fun x17 =>
 (rdI .i64 r16[1]?).bind fun x18 =>
 (rdI .i64 r16[2]?).bind fun x19 =>
 (rdI .i64 r16[3]?).bind fun x20 =>
 cond (x10 != (0 : Int))
 (some (D.v (.bool false)))
 (cond (x14 != (0 : Int))
 (some (D.v (.bool false)))
 (cond (x20 != (0 : Int))
 (some (D.v (.bool false)))
 (cond ((q9.n : Int) != (64 : Int))
 (some (D.v (.bool false)))
 (if 0 ≤ (0 : Int) ∧ (0 : Int) < (q9.n : Int) then
 if 3 ≤ (List.length q9.cs) then
 (Z8 [(D.v (.int .i64 (65 : Int))),(D.v (.int .i64 (65 : Int))),(D.v (.int .i64 (65 : Int)))]).bind fun d21 =>
 (rdA (some d21)).bind fun c22 =>
 (cellsEq [.int,.int,.int] ((List.drop 0 q9.cs).take 3) c22).bind fun b23 =>
 cond (!b23)
 (some (D.v (.bool false)))
 (if 0 ≤ (63 : Int) ∧ (63 : Int) < (q9.n : Int) then
 if 192 ≤ (List.length q9.cs) then
 (Z8 [(D.v (.int .i64 (2 : Int))),(D.v (.int .i64 (2 : Int))),(D.v (.int .i64 (2 : Int)))]).bind fun d24 =>
 (rdA (some d24)).bind fun c25 =>
 (cellsEq [.int,.int,.int] ((List.drop 189 q9.cs).take 3) c25).bind fun b26 =>
 cond (!b26)
 (some (D.v (.bool false)))
 (cond (x13 != (1 : Int))
 (some (D.v (.bool false)))
 (cond (x17 != (65 : Int))
 (some (D.v (.bool false)))
 (cond (x18 != (65 : Int))
 (some (D.v (.bool false)))
 (cond (x19 != (1 : Int))
 (some (D.v (.bool false)))
 (Z6t Z9 Z6 Z7 Z8 Z3 Z1 Z2 Za m Z2h Z25 Z2p)))))
 else none
 else none)
 else none
 else none))))
 else none
 else none
 else none
 else none
 else none
 else none)) := by kernel_rfl
noncomputable def Zk4 (Z9 Z6 Z7 Z8 Z3 Z1 Z2 Za : List D → Option D) (m : Nat)  : Option D :=
 Z5p Z9 Z6 Z7 Z8 Z3 Z1 Z2 Za m m 0 (0 : Int) 0 []
theorem Zpj (Z9 Z6 Z7 Z8 Z3 Z1 Z2 Za : List D → Option D) (m : Nat)  : funE Tg (Ze Z9 Z6 Z7 Z8 Z3 Z1 Z2 Za) Zv m 4 Zc Tryz.f3 [] = Zk4 Z9 Z6 Z7 Z8 Z3 Z1 Z2 Za m  := by kernel_rfl
theorem Zri : Enters Tg 3 := ⟨Tryz.f3,Tryz.func3,by kernel_rfl,by kernel_rfl⟩
theorem Zrj {ds : List D} {d : D} (h : funE Tg (Ze Z1u Z18 Z1g Z1m Z1h Zz Z15 Z1n) Zv M 4 Zc Tryz.f3 ds = some d) : DataSem Tg 3 ds d := Z1cr (H := (Ze Z1u Z18 Z1g Z1m Z1h Zz Z15 Z1n)) (SpOk.cons Zo5 (SpOk.cons Zik (SpOk.cons Zkh (SpOk.cons Zo4 (SpOk.cons Zu0 (SpOk.cons Zrg (SpOk.cons Ztc (SpOk.cons Zj0 SpOk.nil)))))))) mixed InlOk.nil (ExtOk.cons (frE_ok frs_counters_All_fr) ExtOk.nil) Tryz.func3 Zri h
noncomputable def Za4 : List D → Option D
 | [] => Zk4 Z1u Z18 Z1g Z1m Z1h Zz Z15 Z1n M 
 | _ => none
theorem Zrk : ∀ ds d,Za4 ds = some d → DataSem Tg 3 ds d := by
 intro ds d h
 unfold Za4 at h
 split at h
 ·exact Zrj ((Zpj Z1u Z18 Z1g Z1m Z1h Zz Z15 Z1n M ).trans h)
 ·cases h
end Go.Ev