/- Functions of the given program in plain form,printed: each with the proof that it is what the evaluator comes to,and that the program function returns what it says. No conditions. -/
import Derived.Test.YtkefahdbckjajaaGreatDoorEzGc
import Derived.Test.YtkefahdbckjajaaGreatDoorEzGe
import Derived.Test.YtkefahdbckjajaaGreatDoorEzGf
set_option linter.unusedVariables false
set_option maxRecDepth 100000
namespace Go.Ev
open Go Go.Proofs
def Zj : FnH := ⟨[(4,⟨(bm 30 219),[(1001000,20)],(some 4)⟩),(8,⟨(bm 44 219),[(1002000,20)],(some 5)⟩),(25,⟨(bm 49152 219),[],(some 0)⟩)],[(18,⟨(bm 584 219),[],(some 9)⟩),(23,⟨(bm 0 219),[],(some 0)⟩),(30,⟨(bm 49152 219),[],(some 0)⟩)]⟩
noncomputable def Zq (Z5 Z9 Z7 Z4 Z2 Z1 Z3 Z6 Zl Z8 : List D → Option D) : Hints := ⟨[(4,Z5),(6,Z9),(7,Z7),(16,Z4),(18,Z2),(20,Z1),(21,Z3),(25,Z6),(35,Zl),(36,Z8)],[],[]⟩
noncomputable def Z8z (Z5 Z9 Z7 Z4 Z2 Z1 Z3 Z6 Zl Z8 : List D → Option D) (m n0 : Nat) (Zz : Int) (Z13 : List D) (Z18 : Nat) (Z1b : Nat) (Z14 : List D) : Option D :=
 Z1e (bm 30 219) 0 4 (codeK Tg (Zq Z5 Z9 Z7 Z4 Z2 Z1 Z3 Z6 Zl Z8).sp ⟨0,[],false,[]⟩ (inlK Tg (Zq Z5 Z9 Z7 Z4 Z2 Z1 Z3 Z6 Zl Z8) m 4) m Zj (subc [1,1,1,0,1,0,0] (bodyOf Tryz.f8))) n0 ⟨[Jk,(AV.ptr 0 0),(AV.ptr 1 0),(AV.ptr 2 0),(AV.d (D.v (.int .i64 Zz))),Jk,Jk,Jk,Jk,Jk,Jk,Jk,Jk,Jk,Jk,Jk,Jk,Jk,Jk,Jk,Jk,Jk,Jk,Jk,Jk,Jk,Jk,Jk,Jk,Jk,Jk,Jk,Jk,Jk,Jk,Jk,Jk,Jk,Jk,Jk,Jk,Jk,Jk,Jk,Jk,Jk,Jk,Jk,Jk,Jk,Jk,Jk,Jk,Jk,Jk,Jk,Jk,Jk,Jk,Jk,Jk,Jk,Jk,Jk,Jk,Jk,Jk,Jk,Jk,Jk,Jk,Jk,Jk,Jk,Jk,Jk,Jk,Jk,Jk,Jk,Jk,Jk,Jk,Jk,Jk,Jk,Jk,Jk,Jk,Jk,Jk,Jk,Jk,Jk,Jk,Jk,Jk,Jk,Jk,Jk,Jk,Jk,Jk,Jk,Jk,Jk,Jk,Jk,Jk,Jk,Jk,Jk,Jk,Jk,Jk,Jk,Jk,Jk,Jk,Jk,Jk,Jk,Jk,Jk,Jk,Jk,Jk,Jk,Jk,Jk,Jk,Jk,Jk,Jk,Jk,Jk,Jk,Jk,Jk,Jk,Jk,Jk,Jk,Jk,Jk,Jk,Jk,Jk,Jk,Jk,Jk,Jk,Jk,Jk,Jk,Jk,Jk,Jk,Jk,Jk,Jk,Jk,Jk,Jk,Jk,Jk,Jk,Jk,Jk,Jk,Jk,Jk,Jk,Jk,Jk,Jk,Jk,Jk,Jk,Jk,Jk,Jk,Jk,Jk,Jk,Jk,Jk,Jk,Jk,Jk,Jk,Jk,Jk,Jk,Jk,Jk,Jk,Jk,Jk,Jk,Jk,Jk,Jk,Jk,Jk,Jk,Jk,Jk,Jk,Jk,Jk,Jk,Jk,Jk,Jk,Jk,Jk,Jk,Jk],[(Blk.d 17 Z13),(Blk.a 1 [(AV.sl 3 0 Z18 none 20)]),(Blk.d 1 [(D.list 0 (some 0) [])]),(Blk.d Z1b Z14)]⟩
  (contK Tg (Zq Z5 Z9 Z7 Z4 Z2 Z1 Z3 Z6 Zl Z8).sp ⟨0,[],false,[]⟩ (inlK Tg (Zq Z5 Z9 Z7 Z4 Z2 Z1 Z3 Z6 Zl Z8) m 4) m Zj (endK Tg Tryz.f8 (fun v L => viewK L 8 v some)) [.block 0,.code (subc [1,1,1,1] (bodyOf Tryz.f8))])
noncomputable def Z90 (Z5 Z9 Z7 Z4 Z2 Z1 Z3 Z6 Zl Z8 : List D → Option D) (m n0 : Nat) (Z43 : Int) (Z76 : List D) (Z56 : Nat) (Z61 : Nat) (Z5a : Nat) (Z5r : List D) (Z4r : Nat) (Z5f : List D) : Option D :=
 Z1e (bm 44 219) 0 5 (codeK Tg (Zq Z5 Z9 Z7 Z4 Z2 Z1 Z3 Z6 Zl Z8).sp ⟨0,[],false,[]⟩ (inlK Tg (Zq Z5 Z9 Z7 Z4 Z2 Z1 Z3 Z6 Zl Z8) m 4) m Zj (subc [1,1,1,1,0,1,0,0] (bodyOf Tryz.f8))) n0 ⟨[Jk,Jk,(AV.ptr 1 0),(AV.ptr 2 0),Jk,(AV.d (D.v (.int .i64 Z43))),Jk,Jk,Jk,Jk,Jk,Jk,Jk,Jk,Jk,Jk,Jk,Jk,Jk,Jk,Jk,Jk,Jk,Jk,Jk,Jk,Jk,Jk,Jk,Jk,Jk,Jk,Jk,Jk,Jk,Jk,Jk,Jk,Jk,Jk,Jk,Jk,Jk,Jk,Jk,Jk,Jk,Jk,Jk,Jk,Jk,Jk,Jk,Jk,Jk,Jk,Jk,Jk,Jk,Jk,Jk,Jk,Jk,Jk,Jk,Jk,Jk,Jk,Jk,Jk,Jk,Jk,Jk,Jk,Jk,Jk,Jk,Jk,Jk,Jk,Jk,Jk,Jk,Jk,Jk,Jk,Jk,Jk,Jk,Jk,Jk,Jk,Jk,Jk,Jk,Jk,Jk,Jk,Jk,Jk,Jk,Jk,Jk,Jk,Jk,Jk,Jk,Jk,Jk,Jk,Jk,Jk,Jk,Jk,Jk,Jk,Jk,Jk,Jk,Jk,Jk,Jk,Jk,Jk,Jk,Jk,Jk,Jk,Jk,Jk,Jk,Jk,Jk,Jk,Jk,Jk,Jk,Jk,Jk,Jk,Jk,Jk,Jk,Jk,Jk,Jk,Jk,Jk,Jk,Jk,Jk,Jk,Jk,Jk,Jk,Jk,Jk,Jk,Jk,Jk,Jk,Jk,Jk,Jk,Jk,Jk,Jk,Jk,Jk,Jk,Jk,Jk,Jk,Jk,Jk,Jk,Jk,Jk,Jk,Jk,Jk,Jk,Jk,Jk,Jk,Jk,Jk,Jk,Jk,Jk,Jk,Jk,Jk,Jk,Jk,Jk,Jk,Jk,Jk,Jk,Jk,Jk,Jk,Jk,Jk,Jk,Jk,Jk,Jk,Jk,Jk,Jk,Jk,Jk,Jk,Jk,Jk,Jk,Jk],[(Blk.d 17 Z76),(Blk.a 1 [(AV.sl 3 0 Z56 none 20)]),(Blk.a 1 [(AV.sl 4 0 Z61 none 20)]),(Blk.d Z5a Z5r),(Blk.d Z4r Z5f)]⟩
  (contK Tg (Zq Z5 Z9 Z7 Z4 Z2 Z1 Z3 Z6 Zl Z8).sp ⟨0,[],false,[]⟩ (inlK Tg (Zq Z5 Z9 Z7 Z4 Z2 Z1 Z3 Z6 Zl Z8) m 4) m Zj (endK Tg Tryz.f8 (fun v L => viewK L 8 v some)) [.block 2,.code (subc [1,1,1,1,1] (bodyOf Tryz.f8))])
noncomputable def Zbb (Z5 Z9 Z7 Z4 Z2 Z1 Z3 Z6 Zl Z8 : List D → Option D) (m : Nat) (Z2y : List D) (Z4c : Nat) (Z40 : List D) (Z3k : Nat) (Z2j : Nat) (Z6i : List D) (Z7k : List D) (Zjw : Nat) (Zns : List D) (Z15t : List D) : Option D :=
 cutK m (codeK Tg (Zq Z5 Z9 Z7 Z4 Z2 Z1 Z3 Z6 Zl Z8).sp ⟨0,[],false,[]⟩ (inlK Tg (Zq Z5 Z9 Z7 Z4 Z2 Z1 Z3 Z6 Zl Z8) m 4) m Zj (subc [1,1,1,1,1,1,1,1,1,1,1] (bodyOf Tryz.f8)) ⟨[Jk,Jk,Jk,(AV.ptr 2 0),Jk,Jk,(AV.ptr 5 0),Jk,Jk,(AV.ptr 8 0),Jk,Jk,Jk,Jk,Jk,Jk,Jk,Jk,Jk,Jk,Jk,Jk,Jk,Jk,Jk,Jk,Jk,Jk,Jk,Jk,Jk,Jk,Jk,Jk,Jk,Jk,Jk,Jk,Jk,Jk,Jk,Jk,Jk,Jk,Jk,Jk,Jk,Jk,Jk,Jk,Jk,Jk,Jk,Jk,Jk,Jk,Jk,Jk,Jk,Jk,Jk,Jk,Jk,Jk,Jk,Jk,Jk,Jk,Jk,Jk,Jk,Jk,Jk,Jk,Jk,Jk,Jk,Jk,Jk,Jk,Jk,Jk,Jk,Jk,Jk,Jk,Jk,Jk,Jk,Jk,Jk,Jk,Jk,Jk,Jk,Jk,Jk,Jk,Jk,Jk,Jk,Jk,Jk,Jk,Jk,Jk,Jk,Jk,Jk,Jk,Jk,Jk,Jk,Jk,Jk,Jk,Jk,Jk,Jk,Jk,Jk,Jk,Jk,Jk,Jk,Jk,Jk,Jk,Jk,Jk,Jk,Jk,Jk,Jk,Jk,Jk,Jk,Jk,Jk,Jk,Jk,Jk,Jk,Jk,Jk,Jk,Jk,Jk,Jk,Jk,Jk,Jk,Jk,Jk,Jk,Jk,Jk,Jk,Jk,Jk,Jk,Jk,Jk,Jk,Jk,Jk,Jk,Jk,Jk,Jk,Jk,Jk,Jk,Jk,Jk,Jk,Jk,Jk,Jk,Jk,Jk,Jk,Jk,Jk,Jk,Jk,Jk,Jk,Jk,Jk,Jk,Jk,Jk,Jk,Jk,Jk,Jk,Jk,Jk,Jk,Jk,Jk,Jk,Jk,Jk,Jk,Jk,Jk,Jk,Jk,Jk,Jk,Jk,Jk,Jk,Jk,Jk,Jk,Jk],[(Blk.d 17 Z2y),(Blk.a 1 [(AV.d (D.list Z4c none Z40))]),(Blk.a 1 [(AV.sl 4 0 Z3k none 20)]),Blk.dead,(Blk.d Z2j Z6i),(Blk.d 1 Z7k),(Blk.d 1 [(D.list Zjw none Zns)]),Blk.dead,(Blk.d 1 Z15t)]⟩
  (contK Tg (Zq Z5 Z9 Z7 Z4 Z2 Z1 Z3 Z6 Zl Z8).sp ⟨0,[],false,[]⟩ (inlK Tg (Zq Z5 Z9 Z7 Z4 Z2 Z1 Z3 Z6 Zl Z8) m 4) m Zj (endK Tg Tryz.f8 (fun v L => viewK L 8 v some)) []))
noncomputable def Zkq (Z5 Z9 Z7 Z4 Z2 Z1 Z3 Z6 Zl Z8 : List D → Option D) (m : Nat)  : Option D :=
 cutK m (codeK Tg (Zq Z5 Z9 Z7 Z4 Z2 Z1 Z3 Z6 Zl Z8).sp ⟨0,[],false,[]⟩ (inlK Tg (Zq Z5 Z9 Z7 Z4 Z2 Z1 Z3 Z6 Zl Z8) m 4) m Zj (subc [1,1,1,1,1,1,1,1,1,1,1,1,1,1,1] (bodyOf Tryz.f8)) ⟨[Jk,Jk,Jk,Jk,Jk,Jk,Jk,Jk,Jk,Jk,Jk,Jk,Jk,Jk,Jk,Jk,Jk,Jk,Jk,Jk,Jk,Jk,Jk,Jk,Jk,Jk,Jk,Jk,Jk,Jk,Jk,Jk,Jk,Jk,Jk,Jk,Jk,Jk,Jk,Jk,Jk,Jk,Jk,Jk,Jk,Jk,Jk,Jk,Jk,Jk,Jk,Jk,Jk,Jk,Jk,Jk,Jk,Jk,Jk,Jk,Jk,Jk,Jk,Jk,Jk,Jk,Jk,Jk,Jk,Jk,Jk,Jk,Jk,Jk,Jk,Jk,Jk,Jk,Jk,Jk,Jk,Jk,Jk,Jk,Jk,Jk,Jk,Jk,Jk,Jk,Jk,Jk,Jk,Jk,Jk,Jk,Jk,Jk,Jk,Jk,Jk,Jk,Jk,Jk,Jk,Jk,Jk,Jk,Jk,Jk,Jk,Jk,Jk,Jk,Jk,Jk,Jk,Jk,Jk,Jk,Jk,Jk,Jk,Jk,Jk,Jk,Jk,Jk,Jk,Jk,Jk,Jk,Jk,Jk,Jk,Jk,Jk,Jk,Jk,Jk,Jk,Jk,Jk,Jk,Jk,Jk,Jk,Jk,Jk,Jk,Jk,Jk,Jk,Jk,Jk,Jk,Jk,Jk,Jk,Jk,Jk,Jk,Jk,Jk,Jk,Jk,Jk,Jk,Jk,Jk,Jk,Jk,Jk,Jk,Jk,Jk,Jk,Jk,Jk,Jk,Jk,Jk,Jk,Jk,Jk,Jk,Jk,Jk,Jk,Jk,Jk,Jk,Jk,Jk,Jk,Jk,Jk,Jk,Jk,Jk,Jk,Jk,Jk,Jk,Jk,Jk,Jk,Jk,Jk,Jk,Jk,Jk,Jk,Jk,Jk,Jk,Jk,Jk,Jk],[]⟩
  (contK Tg (Zq Z5 Z9 Z7 Z4 Z2 Z1 Z3 Z6 Zl Z8).sp ⟨0,[],false,[]⟩ (inlK Tg (Zq Z5 Z9 Z7 Z4 Z2 Z1 Z3 Z6 Zl Z8) m 4) m Zj (endK Tg Tryz.f8 (fun v L => viewK L 8 v some)) []))
noncomputable def Z8e (Z5 Z9 Z7 Z4 Z2 Z1 Z3 Z6 Zl Z8 : List D → Option D) (m n0 : Nat) (Z7s : Int) (Za4 : Int) : Option D :=
 Z1e (bm 49152 219) 0 0 (codeK Tg (Zq Z5 Z9 Z7 Z4 Z2 Z1 Z3 Z6 Zl Z8).sp ⟨0,[],false,[]⟩ (inlK Tg (Zq Z5 Z9 Z7 Z4 Z2 Z1 Z3 Z6 Zl Z8) m 4) m Zj (subc [1,1,1,1,1,1,1,1,1,1,1,1,1,1,1,1,0,1,0,0] (bodyOf Tryz.f8))) n0 ⟨[Jk,Jk,Jk,Jk,Jk,Jk,Jk,Jk,Jk,Jk,Jk,Jk,Jk,Jk,(AV.d (D.v (.int .i64 Z7s))),(AV.d (D.v (.int .i64 Za4))),Jk,Jk,Jk,Jk,Jk,Jk,Jk,Jk,Jk,Jk,Jk,Jk,Jk,Jk,Jk,Jk,Jk,Jk,Jk,Jk,Jk,Jk,Jk,Jk,Jk,Jk,Jk,Jk,Jk,Jk,Jk,Jk,Jk,Jk,Jk,Jk,Jk,Jk,Jk,Jk,Jk,Jk,Jk,Jk,Jk,Jk,Jk,Jk,Jk,Jk,Jk,Jk,Jk,Jk,Jk,Jk,Jk,Jk,Jk,Jk,Jk,Jk,Jk,Jk,Jk,Jk,Jk,Jk,Jk,Jk,Jk,Jk,Jk,Jk,Jk,Jk,Jk,Jk,Jk,Jk,Jk,Jk,Jk,Jk,Jk,Jk,Jk,Jk,Jk,Jk,Jk,Jk,Jk,Jk,Jk,Jk,Jk,Jk,Jk,Jk,Jk,Jk,Jk,Jk,Jk,Jk,Jk,Jk,Jk,Jk,Jk,Jk,Jk,Jk,Jk,Jk,Jk,Jk,Jk,Jk,Jk,Jk,Jk,Jk,Jk,Jk,Jk,Jk,Jk,Jk,Jk,Jk,Jk,Jk,Jk,Jk,Jk,Jk,Jk,Jk,Jk,Jk,Jk,Jk,Jk,Jk,Jk,Jk,Jk,Jk,Jk,Jk,Jk,Jk,Jk,Jk,Jk,Jk,Jk,Jk,Jk,Jk,Jk,Jk,Jk,Jk,Jk,Jk,Jk,Jk,Jk,Jk,Jk,Jk,Jk,Jk,Jk,Jk,Jk,Jk,Jk,Jk,Jk,Jk,Jk,Jk,Jk,Jk,Jk,Jk,Jk,Jk,Jk,Jk,Jk,Jk,Jk,Jk,Jk,Jk,Jk,Jk,Jk],[]⟩
  (contK Tg (Zq Z5 Z9 Z7 Z4 Z2 Z1 Z3 Z6 Zl Z8).sp ⟨0,[],false,[]⟩ (inlK Tg (Zq Z5 Z9 Z7 Z4 Z2 Z1 Z3 Z6 Zl Z8) m 4) m Zj (endK Tg Tryz.f8 (fun v L => viewK L 8 v some)) [.block 4,.code (subc [1,1,1,1,1,1,1,1,1,1,1,1,1,1,1,1,1] (bodyOf Tryz.f8))])
noncomputable def Zkr (Z5 Z9 Z7 Z4 Z2 Z1 Z3 Z6 Zl Z8 : List D → Option D) (m n0 : Nat) (Zc2 : Int) (Zt6 : Int) : Option D :=
 cutK m (codeK Tg (Zq Z5 Z9 Z7 Z4 Z2 Z1 Z3 Z6 Zl Z8).sp ⟨0,[],false,[]⟩ (inlK Tg (Zq Z5 Z9 Z7 Z4 Z2 Z1 Z3 Z6 Zl Z8) m 4) m Zj (subc [1,1,1,1,1,1,1,1,1,1,1,1,1,1,1,1,0,1,0,0,1,0,0,1,1] (bodyOf Tryz.f8)) ⟨[Jk,Jk,Jk,Jk,Jk,Jk,Jk,Jk,Jk,Jk,Jk,Jk,Jk,Jk,(AV.d (D.v (.int .i64 Zc2))),(AV.d (D.v (.int .i64 Zt6))),Jk,Jk,Jk,Jk,Jk,Jk,Jk,Jk,Jk,Jk,Jk,Jk,Jk,Jk,Jk,Jk,Jk,Jk,Jk,Jk,Jk,Jk,Jk,Jk,Jk,Jk,Jk,Jk,Jk,Jk,Jk,Jk,Jk,Jk,Jk,Jk,Jk,Jk,Jk,Jk,Jk,Jk,Jk,Jk,Jk,Jk,Jk,Jk,Jk,Jk,Jk,Jk,Jk,Jk,Jk,Jk,Jk,Jk,Jk,Jk,Jk,Jk,Jk,Jk,Jk,Jk,Jk,Jk,Jk,Jk,Jk,Jk,Jk,Jk,Jk,Jk,Jk,Jk,Jk,Jk,Jk,Jk,Jk,Jk,Jk,Jk,Jk,Jk,Jk,Jk,Jk,Jk,Jk,Jk,Jk,Jk,Jk,Jk,Jk,Jk,Jk,Jk,Jk,Jk,Jk,Jk,Jk,Jk,Jk,Jk,Jk,Jk,Jk,Jk,Jk,Jk,Jk,Jk,Jk,Jk,Jk,Jk,Jk,Jk,Jk,Jk,Jk,Jk,Jk,Jk,Jk,Jk,Jk,Jk,Jk,Jk,Jk,Jk,Jk,Jk,Jk,Jk,Jk,Jk,Jk,Jk,Jk,Jk,Jk,Jk,Jk,Jk,Jk,Jk,Jk,Jk,Jk,Jk,Jk,Jk,Jk,Jk,Jk,Jk,Jk,Jk,Jk,Jk,Jk,Jk,Jk,Jk,Jk,Jk,Jk,Jk,Jk,Jk,Jk,Jk,Jk,Jk,Jk,Jk,Jk,Jk,Jk,Jk,Jk,Jk,Jk,Jk,Jk,Jk,Jk,Jk,Jk,Jk,Jk,Jk,Jk,Jk,Jk],[]⟩
  (contK Tg (Zq Z5 Z9 Z7 Z4 Z2 Z1 Z3 Z6 Zl Z8).sp ⟨0,[],false,[]⟩ (inlK Tg (Zq Z5 Z9 Z7 Z4 Z2 Z1 Z3 Z6 Zl Z8) m 4) m Zj (endK Tg Tryz.f8 (fun v L => viewK L 8 v some)) [.block 5,.code (subc [1,1,1,1,1,1,1,1,1,1,1,1,1,1,1,1,0,1,0,0,1,1] (bodyOf Tryz.f8)),.loop (bm 49152 219) 0 (subc [1,1,1,1,1,1,1,1,1,1,1,1,1,1,1,1,0,1,0,0] (bodyOf Tryz.f8)) n0,.block 4,.code (subc [1,1,1,1,1,1,1,1,1,1,1,1,1,1,1,1,1] (bodyOf Tryz.f8))]))
theorem Zt3 (Z5 Z9 Z7 Z4 Z2 Z1 Z3 Z6 Zl Z8 : List D → Option D) (m n0 : Nat) (Zc2 : Int) (Zt6 : Int) : Zkr Z5 Z9 Z7 Z4 Z2 Z1 Z3 Z6 Zl Z8 m n0 Zc2 Zt6 =
 (Z8e Z5 Z9 Z7 Z4 Z2 Z1 Z3 Z6 Zl Z8 m n0 (Int.tmod (IntKind.wrap .i64 ((IntKind.wrap .i64 (Zc2 * (31 : Int))) + (11 : Int))) (100003 : Int)) (IntKind.wrap .i64 (Zt6 + (1 : Int)))) := (Z1y m _).trans (by kernel_rfl)
theorem Zue (Z5 Z9 Z7 Z4 Z2 Z1 Z3 Z6 Zl Z8 : List D → Option D) (m n0 : Nat) (Z7s : Int) (Za4 : Int) : Z8e Z5 Z9 Z7 Z4 Z2 Z1 Z3 Z6 Zl Z8 m (n0 + 1) Z7s Za4 =
 (cond (decide (Za4 < (60 : Int)))
 ((Z5 [(D.agg [(D.list 7 (some 7) [(D.v (.int .u8 (0 : Int))),(D.v (.int .u8 (6 : Int))),(D.v (.int .u8 (64 : Int))),(D.v (.int .u8 (0 : Int))),(D.v (.int .u8 (0 : Int))),(D.v (.int .u8 (IntKind.wrap .u8 Z7s))),(D.v (.int .u8 (1 : Int))),(D.v (.int .u8 (0 : Int))),(D.v (.int .u8 (IntKind.wrap .u8 (IntKind.wrap .i64 (Int.tdiv Z7s (5 : Int)))))),(D.v (.int .u8 (IntKind.wrap .u8 Za4))),(D.v (.int .u8 (2 : Int))),(D.v (.int .u8 (0 : Int))),(D.v (.int .u8 (IntKind.wrap .u8 (IntKind.wrap .i64 (Int.tdiv Z7s (11 : Int)))))),(D.v (.int .u8 (6 : Int))),(D.v (.int .u8 (64 : Int))),(D.v (.int .u8 (0 : Int))),(D.v (.int .u8 (IntKind.wrap .u8 (IntKind.wrap .i64 (Int.tdiv Z7s (13 : Int)))))),(D.v (.int .u8 (IntKind.wrap .u8 (IntKind.wrap .i64 (Int.tdiv Z7s (17 : Int)))))),(D.v (.int .u8 (3 : Int))),(D.v (.int .u8 (0 : Int))),(D.v (.int .u8 (IntKind.wrap .u8 Za4))),(D.v (.int .u8 (IntKind.wrap .u8 (IntKind.wrap .i64 (Int.tdiv Z7s (2 : Int)))))),(D.v (.int .u8 (4 : Int))),(D.v (.int .u8 (0 : Int))),(D.v (.int .u8 (IntKind.wrap .u8 (IntKind.wrap .i64 (Int.tdiv Z7s (3 : Int)))))),(D.v (.int .u8 (2 : Int))),(D.v (.int .u8 (4 : Int))),(D.v (.int .u8 (0 : Int)))])]),(D.v (.int .u8 (IntKind.wrap .u8 (Int.tmod Za4 (5 : Int))))),(D.v (.int .u8 (IntKind.wrap .u8 Z7s)))]).bind fun d51 =>
 (rdB (some d51)).bind fun b52 =>
 cond (!b52)
 (some (D.v (.bool false)))
 ((Z9 [(D.agg [(D.list 7 (some 7) [(D.v (.int .u8 (0 : Int))),(D.v (.int .u8 (6 : Int))),(D.v (.int .u8 (64 : Int))),(D.v (.int .u8 (0 : Int))),(D.v (.int .u8 (0 : Int))),(D.v (.int .u8 (IntKind.wrap .u8 Z7s))),(D.v (.int .u8 (1 : Int))),(D.v (.int .u8 (0 : Int))),(D.v (.int .u8 (IntKind.wrap .u8 (IntKind.wrap .i64 (Int.tdiv Z7s (5 : Int)))))),(D.v (.int .u8 (IntKind.wrap .u8 Za4))),(D.v (.int .u8 (2 : Int))),(D.v (.int .u8 (0 : Int))),(D.v (.int .u8 (IntKind.wrap .u8 (IntKind.wrap .i64 (Int.tdiv Z7s (11 : Int)))))),(D.v (.int .u8 (6 : Int))),(D.v (.int .u8 (64 : Int))),(D.v (.int .u8 (0 : Int))),(D.v (.int .u8 (IntKind.wrap .u8 (IntKind.wrap .i64 (Int.tdiv Z7s (13 : Int)))))),(D.v (.int .u8 (IntKind.wrap .u8 (IntKind.wrap .i64 (Int.tdiv Z7s (17 : Int)))))),(D.v (.int .u8 (3 : Int))),(D.v (.int .u8 (0 : Int))),(D.v (.int .u8 (IntKind.wrap .u8 Za4))),(D.v (.int .u8 (IntKind.wrap .u8 (IntKind.wrap .i64 (Int.tdiv Z7s (2 : Int)))))),(D.v (.int .u8 (4 : Int))),(D.v (.int .u8 (0 : Int))),(D.v (.int .u8 (IntKind.wrap .u8 (IntKind.wrap .i64 (Int.tdiv Z7s (3 : Int)))))),(D.v (.int .u8 (2 : Int))),(D.v (.int .u8 (4 : Int))),(D.v (.int .u8 (0 : Int)))])]),(D.v (.int .u8 (IntKind.wrap .u8 (Int.tmod Za4 (5 : Int))))),(D.list 3 (some 3) [(D.v (.int .i64 Z7s)),(D.v (.int .i64 (IntKind.wrap .i64 (0 - Z7s)))),(D.v (.int .i64 Za4))])]).bind fun d53 =>
 (rdB (some d53)).bind fun b54 =>
 cond (!b54)
 (some (D.v (.bool false)))
 ((Z7 [(D.agg [(D.list 7 (some 7) [(D.v (.int .u8 (0 : Int))),(D.v (.int .u8 (6 : Int))),(D.v (.int .u8 (64 : Int))),(D.v (.int .u8 (0 : Int))),(D.v (.int .u8 (0 : Int))),(D.v (.int .u8 (IntKind.wrap .u8 Z7s))),(D.v (.int .u8 (1 : Int))),(D.v (.int .u8 (0 : Int))),(D.v (.int .u8 (IntKind.wrap .u8 (IntKind.wrap .i64 (Int.tdiv Z7s (5 : Int)))))),(D.v (.int .u8 (IntKind.wrap .u8 Za4))),(D.v (.int .u8 (2 : Int))),(D.v (.int .u8 (0 : Int))),(D.v (.int .u8 (IntKind.wrap .u8 (IntKind.wrap .i64 (Int.tdiv Z7s (11 : Int)))))),(D.v (.int .u8 (6 : Int))),(D.v (.int .u8 (64 : Int))),(D.v (.int .u8 (0 : Int))),(D.v (.int .u8 (IntKind.wrap .u8 (IntKind.wrap .i64 (Int.tdiv Z7s (13 : Int)))))),(D.v (.int .u8 (IntKind.wrap .u8 (IntKind.wrap .i64 (Int.tdiv Z7s (17 : Int)))))),(D.v (.int .u8 (3 : Int))),(D.v (.int .u8 (0 : Int))),(D.v (.int .u8 (IntKind.wrap .u8 Za4))),(D.v (.int .u8 (IntKind.wrap .u8 (IntKind.wrap .i64 (Int.tdiv Z7s (2 : Int)))))),(D.v (.int .u8 (4 : Int))),(D.v (.int .u8 (0 : Int))),(D.v (.int .u8 (IntKind.wrap .u8 (IntKind.wrap .i64 (Int.tdiv Z7s (3 : Int)))))),(D.v (.int .u8 (2 : Int))),(D.v (.int .u8 (4 : Int))),(D.v (.int .u8 (0 : Int)))])]),(D.v (.int .u8 (IntKind.wrap .u8 (Int.tmod Za4 (5 : Int))))),(D.v (.int .u8 (IntKind.wrap .u8 Z7s)))]).bind fun d55 =>
 (rdB (some d55)).bind fun b56 =>
 cond (!b56)
 (some (D.v (.bool false)))
 (Zkr Z5 Z9 Z7 Z4 Z2 Z1 Z3 Z6 Zl Z8 m n0 Z7s Za4))))
 ((Z4 []).bind fun d57 =>
 (rdB (some d57)).bind fun b58 =>
 some (D.v (.bool b58)))) := by kernel_rfl
theorem Zt4 (Z5 Z9 Z7 Z4 Z2 Z1 Z3 Z6 Zl Z8 : List D → Option D) (m : Nat)  : Zkq Z5 Z9 Z7 Z4 Z2 Z1 Z3 Z6 Zl Z8 m  =
 (Z8e Z5 Z9 Z7 Z4 Z2 Z1 Z3 Z6 Zl Z8 m m (1 : Int) (0 : Int)) := (Z1y m _).trans (by kernel_rfl)
theorem Zt5 (Z5 Z9 Z7 Z4 Z2 Z1 Z3 Z6 Zl Z8 : List D → Option D) (m : Nat) (Z2y : List D) (Z4c : Nat) (Z40 : List D) (Z3k : Nat) (Z2j : Nat) (Z6i : List D) (Z7k : List D) (Zjw : Nat) (Zns : List D) (Z15t : List D) : Zbb Z5 Z9 Z7 Z4 Z2 Z1 Z3 Z6 Zl Z8 m Z2y Z4c Z40 Z3k Z2j Z6i Z7k Zjw Zns Z15t =
 (if (0 + (Z3k * 20)) ≤ Z2j then
 (Z1 [(D.agg [(D.list Z3k none (cutL Z2j Z6i 0 (Z3k * 20)))]),(D.v (.int .i64 (1 : Int)))]).bind fun d22 =>
 (rdT d22).bind fun r23 =>
 if List.length r23 = 2 then
 (rdA r23[0]?).bind fun c24 =>
 (rdI .i64 r23[1]?).bind fun x25 =>
 if (0 + (Z3k * 20)) ≤ Z2j then
 if (List.length c24) = 1 then
 (Z3 [(D.agg [(D.list Z3k none (cutL Z2j Z6i 0 (Z3k * 20)))]),(D.v (.int .i64 (2 : Int))),(D.list 3 (some 3) [(D.v (.int .i64 (-1 : Int))),(D.v (.int .i64 (300 : Int))),(D.v (.int .i64 (5 : Int)))])]).bind fun d26 =>
 (rdT d26).bind fun r27 =>
 if List.length r27 = 3 then
 (rdA r27[0]?).bind fun c28 =>
 (rdI .i64 r27[1]?).bind fun x29 =>
 (rdI .i64 r27[2]?).bind fun x30 =>
 if (List.length c28) = 1 then
 (Z2 [(D.agg [(D.list Z3k none (cutL Z2j Z6i 0 (Z3k * 20)))]),(D.v (.int .i64 (2 : Int)))]).bind fun d31 =>
 (rdT d31).bind fun r32 =>
 if List.length r32 = 2 then
 (rdL r32[0]?).bind fun q33 =>
 (rdI .i64 r32[1]?).bind fun x34 =>
 cond (x25 != (0 : Int))
 (some (D.v (.bool false)))
 (cond (x30 != (0 : Int))
 (some (D.v (.bool false)))
 (cond (x34 != (0 : Int))
 (some (D.v (.bool false)))
 ((Z8 [(D.agg c24)]).bind fun d35 =>
 (rdI .i64 (some d35)).bind fun x36 =>
 cond (x36 != (301 : Int))
 (some (D.v (.bool false)))
 ((Z8 [(D.agg c28)]).bind fun d37 =>
 (rdI .i64 (some d37)).bind fun x38 =>
 cond (x38 != (0 : Int))
 (some (D.v (.bool false)))
 (cond (x29 != (301 : Int))
 (some (D.v (.bool false)))
 (cond ((q33.n : Int) != (300 : Int))
 (some (D.v (.bool false)))
 (Zkq Z5 Z9 Z7 Z4 Z2 Z1 Z3 Z6 Zl Z8 m )))))))
 else none
 else none
 else none
 else none
 else none
 else none
 else none) := (Z1y m _).trans (by kernel_rfl)
theorem Zvn (Z5 Z9 Z7 Z4 Z2 Z1 Z3 Z6 Zl Z8 : List D → Option D) (m n0 : Nat) (Z43 : Int) (Z76 : List D) (Z56 : Nat) (Z61 : Nat) (Z5a : Nat) (Z5r : List D) (Z4r : Nat) (Z5f : List D) : Z90 Z5 Z9 Z7 Z4 Z2 Z1 Z3 Z6 Zl Z8 m (n0 + 1) Z43 Z76 Z56 Z61 Z5a Z5r Z4r Z5f =
 (cond (decide (Z43 < (301 : Int)))
 (if ownB ⟨0,[],false,[]⟩ 4 = true ∧ Z4r = (Z61 * 20) ∧ fitsRow (Z61 + 1) 128 ∧ 20 = 20 then
 Z90 Z5 Z9 Z7 Z4 Z2 Z1 Z3 Z6 Zl Z8 m n0 (IntKind.wrap .i64 (Z43 + (1 : Int))) Z76 Z56 (Z61 + 1) Z5a Z5r ((Z61 + 1) * 20) (Z5f ++ [zI,(D.v (.int .u8 (3 : Int))),(D.v (.int .u32 (1 : Int))),(D.v (.int .u32 (2 : Int))),(D.v (.int .u32 (IntKind.wrap .u32 Z43))),zU,zU,zU,zU,zU,zU,zU,zU,zU,zU,zU,zU,zU,(D.list 0 (some 0) []),(D.list 0 (some 0) [])])
 else none)
 (if 0 ≤ (0 : Int) ∧ (0 : Int) < (Z61 : Int) then
 if 1 = 1 ∧ 0 < Z4r then
 if (0 + (Z56 * 20)) ≤ Z5a then
 (Z1 [(D.agg [(D.list Z56 none (cutL Z5a Z5r 0 (Z56 * 20)))]),(D.v (.int .i64 (64 : Int)))]).bind fun d3 =>
 (rdT d3).bind fun r4 =>
 if List.length r4 = 2 then
 (rdA r4[0]?).bind fun c5 =>
 (rdI .i64 r4[1]?).bind fun x6 =>
 if (0 + (Z56 * 20)) ≤ Z5a then
 if (List.length c5) = 1 then
 if 0 ≤ (64 : Int) ∧ (64 : Int) ≤ (Z56 : Int) then
 (Z3 [(D.agg [(D.list 64 none ((List.drop 0 (cutL Z5a Z5r 0 (Z56 * 20))).take 1280))]),(D.v (.int .i64 (64 : Int))),(D.list 2 (some 2) [(D.v (.int .i64 (9223372036854775807 : Int))),(D.v (.int .i64 (-9223372036854775808 : Int)))])]).bind fun d7 =>
 (rdT d7).bind fun r8 =>
 if List.length r8 = 3 then
 (rdA r8[0]?).bind fun c9 =>
 (rdI .i64 r8[1]?).bind fun x10 =>
 (rdI .i64 r8[2]?).bind fun x11 =>
 if (List.length c9) = 1 then
 (Z2 [(D.agg [(D.list 64 none ((List.drop 0 (cutL Z5a Z5r 0 (Z56 * 20))).take 1280))]),(D.v (.int .i64 (64 : Int)))]).bind fun d12 =>
 (rdT d12).bind fun r13 =>
 if List.length r13 = 2 then
 (rdL r13[0]?).bind fun q14 =>
 (rdI .i64 r13[1]?).bind fun x15 =>
 cond (x6 != (0 : Int))
 (some (D.v (.bool false)))
 (cond (x11 != (0 : Int))
 (some (D.v (.bool false)))
 (cond (x15 != (0 : Int))
 (some (D.v (.bool false)))
 ((Z8 [(D.agg c5)]).bind fun d16 =>
 (rdI .i64 (some d16)).bind fun x17 =>
 cond (x17 != (65 : Int))
 (some (D.v (.bool false)))
 ((Z8 [(D.agg c9)]).bind fun d18 =>
 (rdI .i64 (some d18)).bind fun x19 =>
 cond (x19 != (0 : Int))
 (some (D.v (.bool false)))
 (cond (x10 != (64 : Int))
 (some (D.v (.bool false)))
 ((Z6 [(D.list q14.n q14.cap q14.cs),(D.list 1 (some 1) [(D.v (.int .i64 (63 : Int)))])]).bind fun d20 =>
 (rdB (some d20)).bind fun b21 =>
 cond (!b21)
 (some (D.v (.bool false)))
 (Zbb Z5 Z9 Z7 Z4 Z2 Z1 Z3 Z6 Zl Z8 m Z76 Z56 (cutL Z5a Z5r 0 (Z56 * 20)) Z61 Z4r (List.set Z5f 0 (D.v (.int .i64 (-1 : Int)))) c5 64 ((List.drop 0 (cutL Z5a Z5r 0 (Z56 * 20))).take 1280) c9)))))))
 else none
 else none
 else none
 else none
 else none
 else none
 else none
 else none
 else none
 else none)) := by kernel_rfl
theorem Zvo (Z5 Z9 Z7 Z4 Z2 Z1 Z3 Z6 Zl Z8 : List D → Option D) (m n0 : Nat) (Zz : Int) (Z13 : List D) (Z18 : Nat) (Z1b : Nat) (Z14 : List D) : Z8z Z5 Z9 Z7 Z4 Z2 Z1 Z3 Z6 Zl Z8 m (n0 + 1) Zz Z13 Z18 Z1b Z14 =
 (cond (decide (Zz < (65 : Int)))
 (if (List.length Z13) = 17 then
 if (List.length (putL 20 [(D.v (.int .i64 (IntKind.wrap .i64 (Zz - (1 : Int))))),(D.v (.int .u8 (0 : Int))),zU,zU,zU,zU,zU,zU,zU,zU,zU,zU,zU,zU,zU,zU,zU,zU,(D.list 0 (some 0) []),(D.list 0 (some 0) [])] 1 17 Z13)) = 20 then
 if ownB ⟨0,[],false,[]⟩ 3 = true ∧ Z1b = (Z18 * 20) ∧ fitsRow (Z18 + 1) 128 ∧ (List.length (putL 20 [(D.v (.int .i64 (IntKind.wrap .i64 (Zz - (1 : Int))))),(D.v (.int .u8 (0 : Int))),zU,zU,zU,zU,zU,zU,zU,zU,zU,zU,zU,zU,zU,zU,zU,zU,(D.list 0 (some 0) []),(D.list 0 (some 0) [])] 1 17 Z13)) = 20 then
 Z8z Z5 Z9 Z7 Z4 Z2 Z1 Z3 Z6 Zl Z8 m n0 (IntKind.wrap .i64 (Zz + (1 : Int))) Z13 (Z18 + 1) ((Z18 + 1) * 20) (Z14 ++ (putL 20 [(D.v (.int .i64 (IntKind.wrap .i64 (Zz - (1 : Int))))),(D.v (.int .u8 (0 : Int))),zU,zU,zU,zU,zU,zU,zU,zU,zU,zU,zU,zU,zU,zU,zU,zU,(D.list 0 (some 0) []),(D.list 0 (some 0) [])] 1 17 Z13))
 else none
 else none
 else none)
 (Z90 Z5 Z9 Z7 Z4 Z2 Z1 Z3 Z6 Zl Z8 m m (0 : Int) Z13 Z18 0 Z1b Z14 0 [])) := by kernel_rfl
noncomputable def Zbc (Z5 Z9 Z7 Z4 Z2 Z1 Z3 Z6 Zl Z8 : List D → Option D) (m : Nat)  : Option D :=
 (Zl []).bind fun d1 =>
 (rdA (some d1)).bind fun c2 =>
 if (List.length c2) = 17 then
 Z8z Z5 Z9 Z7 Z4 Z2 Z1 Z3 Z6 Zl Z8 m m (0 : Int) c2 0 0 []
 else none
theorem Zx1 (Z5 Z9 Z7 Z4 Z2 Z1 Z3 Z6 Zl Z8 : List D → Option D) (m : Nat)  : funD Tg (Zq Z5 Z9 Z7 Z4 Z2 Z1 Z3 Z6 Zl Z8) m 4 Zj Tryz.f8 [] = Zbc Z5 Z9 Z7 Z4 Z2 Z1 Z3 Z6 Zl Z8 m  := by kernel_rfl
theorem Z103 : Enters Tg 8 := ⟨Tryz.f8,Tryz.func8,by kernel_rfl,by kernel_rfl⟩
theorem Z104 {ds : List D} {d : D} (h : funD Tg (Zq Z1l Z2u Z2a Z15 Zk Zp Zw Z1f Z4z Z2k) M 4 Zj Tryz.f8 ds = some d) : DataSem Tg 8 ds d := Zf (H := (Zq Z1l Z2u Z2a Z15 Zk Zp Zw Z1f Z4z Z2k)) (SpOk.cons Zub (SpOk.cons Z14u (SpOk.cons Z102 (SpOk.cons Zml (SpOk.cons Zi3 (SpOk.cons Zke (SpOk.cons Zlu (SpOk.cons Zvk (SpOk.cons Zyf (SpOk.cons Z145 SpOk.nil)))))))))) mixed InlOk.nil Tryz.func8 Z103 h
noncomputable def Zgj : List D → Option D
 | [] => Zbc Z1l Z2u Z2a Z15 Zk Zp Zw Z1f Z4z Z2k M 
 | _ => none
theorem Z105 : ∀ ds d,Zgj ds = some d → DataSem Tg 8 ds d := by
 intro ds d h
 unfold Zgj at h
 split at h
 ·exact Z104 ((Zx1 Z1l Z2u Z2a Z15 Zk Zp Zw Z1f Z4z Z2k M ).trans h)
 ·cases h
end Go.Ev