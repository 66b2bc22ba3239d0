/- Functions of the given program in plain form,printed: each with the proof that it is what the evaluator comes to,and that the program function returns what it says. No conditions. -/
import Derived.Test.YtnghcoghbbapgaaGreatDoorEzH1
import Derived.Test.YtnghcoghbbapgaaGreatDoorEzH2
import Derived.Test.YtnghcoghbbapgaaGreatDoorEzHz
set_option linter.unusedVariables false
set_option maxRecDepth 100000
namespace Go.Ev
open Go Go.Proofs
def Zl : FnH := ⟨[(4,⟨(bm 226 135),[(6,1)],(some 3)⟩)],[(8,⟨(bm 226 135),[],(some 4)⟩),(5,⟨(bm 226 135),[],(some 4)⟩)]⟩
noncomputable def Zs (Z1 Z2 Z3 Zb Zc Z7 Zh Zf Z8 Za Z4 Ze Zi : List D → Option D) : Hints := ⟨[(10,Z1),(11,Z2),(13,Z3),(15,Zb),(16,Zc),(17,Z7),(18,Zh),(19,Zf),(20,Z8),(21,Za),(22,Z4),(23,Ze),(24,Zi)],[],[]⟩
noncomputable def Z4n (Z1 Z2 Z3 Zb Zc Z7 Zh Zf Z8 Za Z4 Ze Zi : List D → Option D) (m n0 : Nat) (Zq : Int) (Zv : Nat) (Zz : Int) (Zy : Nat) (Z11 : Option Nat) (Z13 : List D) (Z1d : List D) (Z1q : Nat) (Z4t : List D) : Option D :=
 Z1k (bm 226 135) 0 3 (codeK Tg (Zs Z1 Z2 Z3 Zb Zc Z7 Zh Zf Z8 Za Z4 Ze Zi).sp ⟨0,[],false,[]⟩ (inlK Tg (Zs Z1 Z2 Z3 Zb Zc Z7 Zh Zf Z8 Za Z4 Ze Zi) m 4) m Zl (subc [1,1,1,0,1,0,0] (bodyOf Tryz.f4))) n0 ⟨[Jk,(AV.d (D.v (.int .u8 Zq))),Jk,Jk,Jk,(AV.ptr 1 0),(AV.sl 2 0 Zv none 1),(AV.d (D.v (.int .i64 Zz))),Jk,Jk,Jk,Jk,Jk,Jk,Jk,Jk,Jk,Jk,Jk,Jk,Jk,Jk,Jk,Jk,Jk,Jk,Jk,Jk,Jk,Jk,Jk,Jk,Jk,Jk,Jk,Jk,Jk,Jk,Jk,Jk,Jk,Jk,Jk,Jk,Jk,Jk,Jk,Jk,Jk,Jk,Jk,Jk,Jk,Jk,Jk,Jk,Jk,Jk,Jk,Jk,Jk,Jk,Jk,Jk,Jk,Jk,Jk,Jk,Jk,Jk,Jk,Jk,Jk,Jk,Jk,Jk,Jk,Jk,Jk,Jk,Jk,Jk,Jk,Jk,Jk,Jk,Jk,Jk,Jk,Jk,Jk,Jk,Jk,Jk,Jk,Jk,Jk,Jk,Jk,Jk,Jk,Jk,Jk,Jk,Jk,Jk,Jk,Jk,Jk,Jk,Jk,Jk,Jk,Jk,Jk,Jk,Jk,Jk,Jk,Jk,Jk,Jk,Jk,Jk,Jk,Jk,Jk,Jk,Jk,Jk,Jk,Jk,Jk,Jk,Jk],[(Blk.d 1 [(D.list Zy Z11 Z13)]),(Blk.d 1 Z1d),(Blk.d Z1q Z4t)]⟩
  (contK Tg (Zs Z1 Z2 Z3 Zb Zc Z7 Zh Zf Z8 Za Z4 Ze Zi).sp ⟨0,[],false,[]⟩ (inlK Tg (Zs Z1 Z2 Z3 Zb Zc Z7 Zh Zf Z8 Za Z4 Ze Zi) m 4) m Zl (endK Tg Tryz.f4 endV) [.block 0,.code (subc [1,1,1,1] (bodyOf Tryz.f4))])
noncomputable def Zge (Z1 Z2 Z3 Zb Zc Z7 Zh Zf Z8 Za Z4 Ze Zi : List D → Option D) (m n0 : Nat) (Z2z : Int) (Z4j : Nat) (Z3v : Int) (Z3t : Nat) (Z6p : Option Nat) (Za0 : List D) (Z91 : List D) (Zph : Nat) (Zx1 : List D) (Z1ac : Int) : Option D :=
 cutK m (codeK Tg (Zs Z1 Z2 Z3 Zb Zc Z7 Zh Zf Z8 Za Z4 Ze Zi).sp ⟨0,[],false,[]⟩ (inlK Tg (Zs Z1 Z2 Z3 Zb Zc Z7 Zh Zf Z8 Za Z4 Ze Zi) m 4) m Zl (subc [1,1,1,0,1,0,0,1,0,0,1] (bodyOf Tryz.f4)) ⟨[Jk,(AV.d (D.v (.int .u8 Z2z))),Jk,Jk,Jk,(AV.ptr 1 0),(AV.sl 2 0 Z4j none 1),(AV.d (D.v (.int .i64 Z3v))),Jk,Jk,Jk,Jk,Jk,Jk,Jk,Jk,Jk,Jk,Jk,Jk,Jk,Jk,Jk,Jk,Jk,Jk,Jk,Jk,Jk,Jk,Jk,Jk,Jk,Jk,Jk,Jk,Jk,Jk,Jk,Jk,Jk,Jk,Jk,Jk,Jk,Jk,Jk,Jk,Jk,Jk,Jk,Jk,Jk,Jk,Jk,Jk,Jk,Jk,Jk,Jk,Jk,Jk,Jk,Jk,Jk,Jk,Jk,Jk,Jk,Jk,Jk,Jk,Jk,Jk,Jk,Jk,Jk,Jk,Jk,Jk,Jk,Jk,Jk,Jk,Jk,Jk,Jk,Jk,Jk,Jk,Jk,Jk,Jk,Jk,Jk,Jk,Jk,Jk,Jk,Jk,Jk,Jk,Jk,Jk,Jk,Jk,Jk,Jk,Jk,Jk,Jk,Jk,Jk,Jk,Jk,Jk,Jk,Jk,Jk,Jk,Jk,Jk,Jk,Jk,Jk,Jk,Jk,Jk,Jk,Jk,Jk,Jk,Jk,Jk,Jk],[(Blk.d 1 [(D.list Z3t Z6p Za0)]),(Blk.d 1 Z91),(Blk.d Zph Zx1),(Blk.d 1 [(D.v (.int .i64 Z1ac))])]⟩
  (contK Tg (Zs Z1 Z2 Z3 Zb Zc Z7 Zh Zf Z8 Za Z4 Ze Zi).sp ⟨0,[],false,[]⟩ (inlK Tg (Zs Z1 Z2 Z3 Zb Zc Z7 Zh Zf Z8 Za Z4 Ze Zi) m 4) m Zl (endK Tg Tryz.f4 endV) [.block 1,.code (subc [1,1,1,0,1,0,0,1,1] (bodyOf Tryz.f4)),.loop (bm 226 135) 3 (subc [1,1,1,0,1,0,0] (bodyOf Tryz.f4)) n0,.block 0,.code (subc [1,1,1,1] (bodyOf Tryz.f4))]))
noncomputable def Ztk (Z1 Z2 Z3 Zb Zc Z7 Zh Zf Z8 Za Z4 Ze Zi : List D → Option D) (m n0 : Nat) (Zd7 : Int) (Zis : Nat) (Zit : Int) (Zgz : Nat) (Zo0 : Option Nat) (Zme : List D) (Zz4 : List D) (Z11x : Nat) (Z16k : List D) (Z1cg : Int) : Option D :=
 cutK m (codeK Tg (Zs Z1 Z2 Z3 Zb Zc Z7 Zh Zf Z8 Za Z4 Ze Zi).sp ⟨0,[],false,[]⟩ (inlK Tg (Zs Z1 Z2 Z3 Zb Zc Z7 Zh Zf Z8 Za Z4 Ze Zi) m 4) m Zl (subc [1,1,1,0,1,0,0,1,1] (bodyOf Tryz.f4)) ⟨[Jk,(AV.d (D.v (.int .u8 Zd7))),Jk,Jk,Jk,(AV.ptr 1 0),(AV.sl 2 0 Zis none 1),(AV.d (D.v (.int .i64 Zit))),Jk,Jk,Jk,Jk,Jk,Jk,Jk,Jk,Jk,Jk,Jk,Jk,Jk,Jk,Jk,Jk,Jk,Jk,Jk,Jk,Jk,Jk,Jk,Jk,Jk,Jk,Jk,Jk,Jk,Jk,Jk,Jk,Jk,Jk,Jk,Jk,Jk,Jk,Jk,Jk,Jk,Jk,Jk,Jk,Jk,Jk,Jk,Jk,Jk,Jk,Jk,Jk,Jk,Jk,Jk,Jk,Jk,Jk,Jk,Jk,Jk,Jk,Jk,Jk,Jk,Jk,Jk,Jk,Jk,Jk,Jk,Jk,Jk,Jk,Jk,Jk,Jk,Jk,Jk,Jk,Jk,Jk,Jk,Jk,Jk,Jk,Jk,Jk,Jk,Jk,Jk,Jk,Jk,Jk,Jk,Jk,Jk,Jk,Jk,Jk,Jk,Jk,Jk,Jk,Jk,Jk,Jk,Jk,Jk,Jk,Jk,Jk,Jk,Jk,Jk,Jk,Jk,Jk,Jk,Jk,Jk,Jk,Jk,Jk,Jk,Jk,Jk],[(Blk.d 1 [(D.list Zgz Zo0 Zme)]),(Blk.d 1 Zz4),(Blk.d Z11x Z16k),(Blk.d 1 [(D.v (.int .i64 Z1cg))])]⟩
  (contK Tg (Zs Z1 Z2 Z3 Zb Zc Z7 Zh Zf Z8 Za Z4 Ze Zi).sp ⟨0,[],false,[]⟩ (inlK Tg (Zs Z1 Z2 Z3 Zb Zc Z7 Zh Zf Z8 Za Z4 Ze Zi) m 4) m Zl (endK Tg Tryz.f4 endV) [.loop (bm 226 135) 3 (subc [1,1,1,0,1,0,0] (bodyOf Tryz.f4)) n0,.block 0,.code (subc [1,1,1,1] (bodyOf Tryz.f4))]))
theorem Z14j (Z1 Z2 Z3 Zb Zc Z7 Zh Zf Z8 Za Z4 Ze Zi : List D → Option D) (m n0 : Nat) (Zd7 : Int) (Zis : Nat) (Zit : Int) (Zgz : Nat) (Zo0 : Option Nat) (Zme : List D) (Zz4 : List D) (Z11x : Nat) (Z16k : List D) (Z1cg : Int) : Ztk Z1 Z2 Z3 Zb Zc Z7 Zh Zf Z8 Za Z4 Ze Zi m n0 Zd7 Zis Zit Zgz Zo0 Zme Zz4 Z11x Z16k Z1cg =
 (Z4n Z1 Z2 Z3 Zb Zc Z7 Zh Zf Z8 Za Z4 Ze Zi m n0 Zd7 Zis (IntKind.wrap .i64 (Zit + (1 : Int))) Zgz Zo0 Zme Zz4 Z11x Z16k) := (Z1w m _).trans (by kernel_rfl)
theorem Z14k (Z1 Z2 Z3 Zb Zc Z7 Zh Zf Z8 Za Z4 Ze Zi : List D → Option D) (m n0 : Nat) (Z2z : Int) (Z4j : Nat) (Z3v : Int) (Z3t : Nat) (Z6p : Option Nat) (Za0 : List D) (Z91 : List D) (Zph : Nat) (Zx1 : List D) (Z1ac : Int) : Zge Z1 Z2 Z3 Zb Zc Z7 Zh Zf Z8 Za Z4 Ze Zi m n0 Z2z Z4j Z3v Z3t Z6p Za0 Z91 Zph Zx1 Z1ac =
 ((Zc [(D.agg Z91),(D.v (.int .i64 Z3v))]).bind fun d120 =>
 (rdT d120).bind fun r121 =>
 if List.length r121 = 2 then
 (rdI .i64 r121[0]?).bind fun x122 =>
 (rdI .i64 r121[1]?).bind fun x123 =>
 (Z7 [(D.agg Z91),(D.v (.int .i64 Z3v))]).bind fun d124 =>
 (rdT d124).bind fun r125 =>
 if List.length r125 = 2 then
 (rdL r125[0]?).bind fun q126 =>
 (rdI .i64 r125[1]?).bind fun x127 =>
 (Zh [(D.agg Z91),(D.v (.int .i64 Z3v))]).bind fun d128 =>
 (rdT d128).bind fun r129 =>
 if List.length r129 = 2 then
 (rdL r129[0]?).bind fun q130 =>
 (rdI .i64 r129[1]?).bind fun x131 =>
 (Z3 [(D.agg Z91),(D.list q130.n q130.cap q130.cs)]).bind fun d132 =>
 (rdT d132).bind fun r133 =>
 if List.length r133 = 2 then
 (rdI .i64 r133[0]?).bind fun x134 =>
 (rdI .i64 r133[1]?).bind fun x135 =>
 cond (x123 != (0 : Int))
 (some (D.v (.bool false)))
 (cond (x127 != (0 : Int))
 (some (D.v (.bool false)))
 (cond (x131 != (0 : Int))
 (some (D.v (.bool false)))
 (cond (x135 != (0 : Int))
 (some (D.v (.bool false)))
 ((Zb [(D.agg Z91),(D.v (.int .i64 Z3v))]).bind fun d136 =>
 (rdI .i64 (some d136)).bind fun x137 =>
 cond (x122 != x137)
 (some (D.v (.bool false)))
 ((Z8 [(D.agg Z91),(D.v (.int .i64 Z3v))]).bind fun d138 =>
 (rdL (some d138)).bind fun q139 =>
 (Zf [(D.list q126.n q126.cap q126.cs),(D.list q139.n q139.cap q139.cs)]).bind fun d140 =>
 (rdB (some d140)).bind fun b141 =>
 cond (!b141)
 (some (D.v (.bool false)))
 ((Z4 [(D.agg Z91),(D.v (.int .i64 Z3v))]).bind fun d142 =>
 (rdL (some d142)).bind fun q143 =>
 (Za [(D.list q130.n q130.cap q130.cs),(D.list q143.n q143.cap q143.cs)]).bind fun d144 =>
 (rdI .i64 (some d144)).bind fun x145 =>
 cond (x145 == (0 : Int))
 (some (D.v (.bool false)))
 (capO (q130.cap) fun n146 =>
 cond ((n146 : Int) != (q130.n : Int))
 (some (D.v (.bool false)))
 (cond (x134 != Z3v)
 (some (D.v (.bool false)))
 (Ztk Z1 Z2 Z3 Zb Zc Z7 Zh Zf Z8 Za Z4 Ze Zi m n0 Z2z Z4j Z3v Z3t Z6p Za0 Z91 Zph Zx1 Z1ac)))))))))
 else none
 else none
 else none
 else none) := (Z1w m _).trans (by kernel_rfl)
noncomputable def Zbv (Z1 Z2 Z3 Zb Zc Z7 Zh Zf Z8 Za Z4 Ze Zi : List D → Option D) (m n0 : Nat) (Z10h : Int) (Z15c : Nat) (Zx2 : Int) (Z13s : Nat) (Z13t : Option Nat) (Z16d : List D) (Z117 : List D) (Z1bg : Nat) (Z1ch : List D) : Option D :=
 cutK m (codeK Tg (Zs Z1 Z2 Z3 Zb Zc Z7 Zh Zf Z8 Za Z4 Ze Zi).sp ⟨0,[],false,[]⟩ (inlK Tg (Zs Z1 Z2 Z3 Zb Zc Z7 Zh Zf Z8 Za Z4 Ze Zi) m 4) m Zl (subc [1,1,1,0,1,0,0,1,0,0,1] (bodyOf Tryz.f4)) ⟨[Jk,(AV.d (D.v (.int .u8 Z10h))),Jk,Jk,Jk,(AV.ptr 1 0),(AV.sl 2 0 Z15c none 1),(AV.d (D.v (.int .i64 Zx2))),Jk,Jk,Jk,Jk,Jk,Jk,Jk,Jk,Jk,Jk,Jk,Jk,Jk,Jk,Jk,Jk,Jk,Jk,Jk,Jk,Jk,Jk,Jk,Jk,Jk,Jk,Jk,Jk,Jk,Jk,Jk,Jk,Jk,Jk,Jk,Jk,Jk,Jk,Jk,Jk,Jk,Jk,Jk,Jk,Jk,Jk,Jk,Jk,Jk,Jk,Jk,Jk,Jk,Jk,Jk,Jk,Jk,Jk,Jk,Jk,Jk,Jk,Jk,Jk,Jk,Jk,Jk,Jk,Jk,Jk,Jk,Jk,Jk,Jk,Jk,Jk,Jk,Jk,Jk,Jk,Jk,Jk,Jk,Jk,Jk,Jk,Jk,Jk,Jk,Jk,Jk,Jk,Jk,Jk,Jk,Jk,Jk,Jk,Jk,Jk,Jk,Jk,Jk,Jk,Jk,Jk,Jk,Jk,Jk,Jk,Jk,Jk,Jk,Jk,Jk,Jk,Jk,Jk,Jk,Jk,Jk,Jk,Jk,Jk,Jk,Jk,Jk],[(Blk.d 1 [(D.list Z13s Z13t Z16d)]),(Blk.d 1 Z117),(Blk.d Z1bg Z1ch)]⟩
  (contK Tg (Zs Z1 Z2 Z3 Zb Zc Z7 Zh Zf Z8 Za Z4 Ze Zi).sp ⟨0,[],false,[]⟩ (inlK Tg (Zs Z1 Z2 Z3 Zb Zc Z7 Zh Zf Z8 Za Z4 Ze Zi) m 4) m Zl (endK Tg Tryz.f4 endV) [.block 1,.code (subc [1,1,1,0,1,0,0,1,1] (bodyOf Tryz.f4)),.loop (bm 226 135) 3 (subc [1,1,1,0,1,0,0] (bodyOf Tryz.f4)) n0,.block 0,.code (subc [1,1,1,1] (bodyOf Tryz.f4))]))
noncomputable def Zpb (Z1 Z2 Z3 Zb Zc Z7 Zh Zf Z8 Za Z4 Ze Zi : List D → Option D) (m n0 : Nat) (Z1p3 : Int) (Z1jl : Nat) (Z1s9 : Int) (Z1sa : Nat) (Z1sb : Option Nat) (Z1sc : List D) (Z1sd : List D) (Z1qn : Nat) (Z1xw : List D) : Option D :=
 cutK m (codeK Tg (Zs Z1 Z2 Z3 Zb Zc Z7 Zh Zf Z8 Za Z4 Ze Zi).sp ⟨0,[],false,[]⟩ (inlK Tg (Zs Z1 Z2 Z3 Zb Zc Z7 Zh Zf Z8 Za Z4 Ze Zi) m 4) m Zl (subc [1,1,1,0,1,0,0,1,1] (bodyOf Tryz.f4)) ⟨[Jk,(AV.d (D.v (.int .u8 Z1p3))),Jk,Jk,Jk,(AV.ptr 1 0),(AV.sl 2 0 Z1jl none 1),(AV.d (D.v (.int .i64 Z1s9))),Jk,Jk,Jk,Jk,Jk,Jk,Jk,Jk,Jk,Jk,Jk,Jk,Jk,Jk,Jk,Jk,Jk,Jk,Jk,Jk,Jk,Jk,Jk,Jk,Jk,Jk,Jk,Jk,Jk,Jk,Jk,Jk,Jk,Jk,Jk,Jk,Jk,Jk,Jk,Jk,Jk,Jk,Jk,Jk,Jk,Jk,Jk,Jk,Jk,Jk,Jk,Jk,Jk,Jk,Jk,Jk,Jk,Jk,Jk,Jk,Jk,Jk,Jk,Jk,Jk,Jk,Jk,Jk,Jk,Jk,Jk,Jk,Jk,Jk,Jk,Jk,Jk,Jk,Jk,Jk,Jk,Jk,Jk,Jk,Jk,Jk,Jk,Jk,Jk,Jk,Jk,Jk,Jk,Jk,Jk,Jk,Jk,Jk,Jk,Jk,Jk,Jk,Jk,Jk,Jk,Jk,Jk,Jk,Jk,Jk,Jk,Jk,Jk,Jk,Jk,Jk,Jk,Jk,Jk,Jk,Jk,Jk,Jk,Jk,Jk,Jk,Jk],[(Blk.d 1 [(D.list Z1sa Z1sb Z1sc)]),(Blk.d 1 Z1sd),(Blk.d Z1qn Z1xw)]⟩
  (contK Tg (Zs Z1 Z2 Z3 Zb Zc Z7 Zh Zf Z8 Za Z4 Ze Zi).sp ⟨0,[],false,[]⟩ (inlK Tg (Zs Z1 Z2 Z3 Zb Zc Z7 Zh Zf Z8 Za Z4 Ze Zi) m 4) m Zl (endK Tg Tryz.f4 endV) [.loop (bm 226 135) 3 (subc [1,1,1,0,1,0,0] (bodyOf Tryz.f4)) n0,.block 0,.code (subc [1,1,1,1] (bodyOf Tryz.f4))]))
theorem Z115 (Z1 Z2 Z3 Zb Zc Z7 Zh Zf Z8 Za Z4 Ze Zi : List D → Option D) (m n0 : Nat) (Z1p3 : Int) (Z1jl : Nat) (Z1s9 : Int) (Z1sa : Nat) (Z1sb : Option Nat) (Z1sc : List D) (Z1sd : List D) (Z1qn : Nat) (Z1xw : List D) : Zpb Z1 Z2 Z3 Zb Zc Z7 Zh Zf Z8 Za Z4 Ze Zi m n0 Z1p3 Z1jl Z1s9 Z1sa Z1sb Z1sc Z1sd Z1qn Z1xw =
 (Z4n Z1 Z2 Z3 Zb Zc Z7 Zh Zf Z8 Za Z4 Ze Zi m n0 Z1p3 Z1jl (IntKind.wrap .i64 (Z1s9 + (1 : Int))) Z1sa Z1sb Z1sc Z1sd Z1qn Z1xw) := (Z1w m _).trans (by kernel_rfl)
theorem Z116 (Z1 Z2 Z3 Zb Zc Z7 Zh Zf Z8 Za Z4 Ze Zi : List D → Option D) (m n0 : Nat) (Z10h : Int) (Z15c : Nat) (Zx2 : Int) (Z13s : Nat) (Z13t : Option Nat) (Z16d : List D) (Z117 : List D) (Z1bg : Nat) (Z1ch : List D) : Zbv Z1 Z2 Z3 Zb Zc Z7 Zh Zf Z8 Za Z4 Ze Zi m n0 Z10h Z15c Zx2 Z13s Z13t Z16d Z117 Z1bg Z1ch =
 ((Zc [(D.agg Z117),(D.v (.int .i64 Zx2))]).bind fun d147 =>
 (rdT d147).bind fun r148 =>
 if List.length r148 = 2 then
 (rdI .i64 r148[0]?).bind fun x149 =>
 (rdI .i64 r148[1]?).bind fun x150 =>
 (Z7 [(D.agg Z117),(D.v (.int .i64 Zx2))]).bind fun d151 =>
 (rdT d151).bind fun r152 =>
 if List.length r152 = 2 then
 (rdL r152[0]?).bind fun q153 =>
 (rdI .i64 r152[1]?).bind fun x154 =>
 (Zh [(D.agg Z117),(D.v (.int .i64 Zx2))]).bind fun d155 =>
 (rdT d155).bind fun r156 =>
 if List.length r156 = 2 then
 (rdL r156[0]?).bind fun q157 =>
 (rdI .i64 r156[1]?).bind fun x158 =>
 (Z3 [(D.agg Z117),(D.list q157.n q157.cap q157.cs)]).bind fun d159 =>
 (rdT d159).bind fun r160 =>
 if List.length r160 = 2 then
 (rdI .i64 r160[0]?).bind fun x161 =>
 (rdI .i64 r160[1]?).bind fun x162 =>
 cond (x150 != (0 : Int))
 (some (D.v (.bool false)))
 (cond (x154 != (0 : Int))
 (some (D.v (.bool false)))
 (cond (x158 != (0 : Int))
 (some (D.v (.bool false)))
 (cond (x162 != (0 : Int))
 (some (D.v (.bool false)))
 ((Zb [(D.agg Z117),(D.v (.int .i64 Zx2))]).bind fun d163 =>
 (rdI .i64 (some d163)).bind fun x164 =>
 cond (x149 != x164)
 (some (D.v (.bool false)))
 ((Z8 [(D.agg Z117),(D.v (.int .i64 Zx2))]).bind fun d165 =>
 (rdL (some d165)).bind fun q166 =>
 (Zf [(D.list q153.n q153.cap q153.cs),(D.list q166.n q166.cap q166.cs)]).bind fun d167 =>
 (rdB (some d167)).bind fun b168 =>
 cond (!b168)
 (some (D.v (.bool false)))
 ((Z4 [(D.agg Z117),(D.v (.int .i64 Zx2))]).bind fun d169 =>
 (rdL (some d169)).bind fun q170 =>
 (Za [(D.list q157.n q157.cap q157.cs),(D.list q170.n q170.cap q170.cs)]).bind fun d171 =>
 (rdI .i64 (some d171)).bind fun x172 =>
 cond (x172 == (0 : Int))
 (some (D.v (.bool false)))
 (capO (q157.cap) fun n173 =>
 cond ((n173 : Int) != (q157.n : Int))
 (some (D.v (.bool false)))
 (cond (x161 != Zx2)
 (some (D.v (.bool false)))
 (Zpb Z1 Z2 Z3 Zb Zc Z7 Zh Zf Z8 Za Z4 Ze Zi m n0 Z10h Z15c Zx2 Z13s Z13t Z16d Z117 Z1bg Z1ch)))))))))
 else none
 else none
 else none
 else none) := (Z1w m _).trans (by kernel_rfl)
theorem Z16i (Z1 Z2 Z3 Zb Zc Z7 Zh Zf Z8 Za Z4 Ze Zi : List D → Option D) (m n0 : Nat) (Zq : Int) (Zv : Nat) (Zz : Int) (Zy : Nat) (Z11 : Option Nat) (Z13 : List D) (Z1d : List D) (Z1q : Nat) (Z4t : List D) : Z4n Z1 Z2 Z3 Zb Zc Z7 Zh Zf Z8 Za Z4 Ze Zi m (n0 + 1) Zq Zv Zz Zy Z11 Z13 Z1d Z1q Z4t =
 ((rdL Z1d[0]?).bind fun q117 =>
 cond (decide (Zz < (q117.n : Int)))
 ((Zb [(D.agg Z1d),(D.v (.int .i64 Zz))]).bind fun d118 =>
 (rdI .i64 (some d118)).bind fun x119 =>
 cond (x119 == (IntKind.wrap .i64 Zq))
 (if ownB ⟨0,[],false,[]⟩ 2 = true ∧ Z1q = (Zv * 1) ∧ Z2v (Zv + 1) 8 ∧ 1 = 1 then
 Zge Z1 Z2 Z3 Zb Zc Z7 Zh Zf Z8 Za Z4 Ze Zi m n0 Zq (Zv + 1) Zz Zy Z11 Z13 Z1d ((Zv + 1) * 1) (Z4t ++ [(D.v (.int .i64 Zz))]) Zz
 else none)
 (Zbv Z1 Z2 Z3 Zb Zc Z7 Zh Zf Z8 Za Z4 Ze Zi m n0 Zq Zv Zz Zy Z11 Z13 Z1d Z1q Z4t))
 ((Ze [(D.agg Z1d),(D.v (.int .i64 (IntKind.wrap .i64 Zq)))]).bind fun d174 =>
 (rdT d174).bind fun r175 =>
 if List.length r175 = 2 then
 (rdL r175[0]?).bind fun q176 =>
 (rdI .i64 r175[1]?).bind fun x177 =>
 cond (x177 == (0 : Int))
 (if (0 + (Zv * 1)) ≤ Z1q then
 (Zf [(D.list q176.n q176.cap q176.cs),(D.list Zv none (cutL Z1q Z4t 0 (Zv * 1)))]).bind fun d178 =>
 (rdB (some d178)).bind fun b179 =>
 cond b179
 ((Zi [(D.agg Z1d)]).bind fun d180 =>
 (rdI .i64 (some d180)).bind fun x181 =>
 (rdL Z1d[0]?).bind fun q182 =>
 cond (x181 == (q182.n : Int))
 ((Z1 []).bind fun d183 =>
 (rdB (some d183)).bind fun b184 =>
 some (D.v (.bool b184)))
 (some (D.v (.bool false))))
 (some (D.v (.bool false)))
 else none)
 (some (D.v (.bool false)))
 else none)) := by kernel_rfl
noncomputable def Zdm (Z1 Z2 Z3 Zb Zc Z7 Zh Zf Z8 Za Z4 Ze Zi : List D → Option D) (m : Nat) (a0_0n : Nat) (a0_0c : Option Nat) (a0_0 : List D) (a1 : Int) : Option D :=
 (Z2 [(D.agg [(D.list a0_0n a0_0c a0_0)])]).bind fun d1 =>
 (rdA (some d1)).bind fun c2 =>
 if (List.length c2) = 1 then
 Z4n Z1 Z2 Z3 Zb Zc Z7 Zh Zf Z8 Za Z4 Ze Zi m m a1 0 (0 : Int) a0_0n a0_0c a0_0 c2 0 []
 else none
theorem Z19m (Z1 Z2 Z3 Zb Zc Z7 Zh Zf Z8 Za Z4 Ze Zi : List D → Option D) (m : Nat) (a0_0n : Nat) (a0_0c : Option Nat) (a0_0 : List D) (a1 : Int) : funD Tg (Zs Z1 Z2 Z3 Zb Zc Z7 Zh Zf Z8 Za Z4 Ze Zi) m 4 Zl Tryz.f4 [(D.agg [(D.list a0_0n a0_0c a0_0)]),(D.v (.int .u8 a1))] = Zdm Z1 Z2 Z3 Zb Zc Z7 Zh Zf Z8 Za Z4 Ze Zi m a0_0n a0_0c a0_0 a1 := by kernel_rfl
theorem Z1d6 : Enters Tg 4 := ⟨Tryz.f4,Tryz.func4,by kernel_rfl,by kernel_rfl⟩
theorem Z1d7 {ds : List D} {d : D} (h : funD Tg (Zs Z12 Z16 Z1z Z2n Z3o Z2i Z4h Z4g Z2h Z29 Z26 Z3p Z4e) M 4 Zl Tryz.f4 ds = some d) : DataSem Tg 4 ds d := Z5 (H := (Zs Z12 Z16 Z1z Z2n Z3o Z2i Z4h Z4g Z2h Z29 Z26 Z3p Z4e)) (SpOk.cons Z113 (SpOk.cons Z13y (SpOk.cons Z1fe (SpOk.cons Z1bh (SpOk.cons Z1pp (SpOk.cons Z1hl (SpOk.cons Z1tj (SpOk.cons Z1t2 (SpOk.cons Z1gx (SpOk.cons Z15f (SpOk.cons Z1f6 (SpOk.cons Z1ps (SpOk.cons Z1so SpOk.nil))))))))))))) mixed InlOk.nil Tryz.func4 Z1d6 h
noncomputable def Zlk : List D → Option D
 | [.agg [.list a0_0n a0_0c a0_0],.v (.int .u8 a1)] => Zdm Z12 Z16 Z1z Z2n Z3o Z2i Z4h Z4g Z2h Z29 Z26 Z3p Z4e M a0_0n a0_0c a0_0 a1
 | _ => none
theorem Z1d8 : ∀ ds d,Zlk ds = some d → DataSem Tg 4 ds d := by
 intro ds d h
 unfold Zlk at h
 split at h
 ·exact Z1d7 ((Z19m Z12 Z16 Z1z Z2n Z3o Z2i Z4h Z4g Z2h Z29 Z26 Z3p Z4e M _ _ _ _).trans h)
 ·cases h
end Go.Ev