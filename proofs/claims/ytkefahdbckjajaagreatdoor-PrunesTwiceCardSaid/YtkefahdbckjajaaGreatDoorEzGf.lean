/- Functions of the given program in plain form,printed: each with the proof that it is what the evaluator comes to,and that the program function returns what it says. No conditions. -/
import Derived.Test.YtkefahdbckjajaaGreatDoorEzGa
set_option linter.unusedVariables false
set_option maxRecDepth 100000
namespace Go.Ev
open Go Go.Proofs

def Zz : FnH := ⟨[(11,⟨(bm 394112 108),[],(some 3)⟩)],[(9,⟨(bm 896 108),[],(some 3)⟩),(12,⟨(bm 394112 108),[],(some 3)⟩)]⟩
noncomputable def Z1k (Z4 Z1 Z5 Z7 Z9 Za Zn : List D → Option D) : Hints := ⟨[(16,Z4),(20,Z1),(24,Z5),(31,Z7),(32,Z9),(33,Za),(34,Zn)],[],[]⟩
noncomputable def Zkw (Z4 Z1 Z5 Z7 Z9 Za Zn : List D → Option D) (m : Nat) (Z2o : Int) (Z43 : Nat) (Z3v : Option Nat) (Z3o : List D) (Z2d : List D) (Z6d : List D) : Option D :=
 cutK m (codeK Tg (Z1k Z4 Z1 Z5 Z7 Z9 Za Zn).sp ⟨0,[],false,[]⟩ (inlK Tg (Z1k Z4 Z1 Z5 Z7 Z9 Za Zn) m 4) m Zz (subc [1,1,1,1,1,1,1,1] (bodyOf Tryz.f7)) ⟨[Jk,Jk,Jk,Jk,Jk,Jk,Jk,(AV.ptr 1 0),(AV.d (D.v (.int .i64 Z2o))),(AV.ptr 2 0),Jk,Jk,Jk,Jk,Jk,Jk,Jk,Jk,Jk,Jk,Jk,Jk,Jk,Jk,Jk,Jk,Jk,Jk,Jk,Jk,Jk,Jk,Jk,Jk,Jk,Jk,Jk,Jk,Jk,Jk,Jk,Jk,Jk,Jk,Jk,Jk,Jk,Jk,Jk,Jk,Jk,Jk,Jk,Jk,Jk,Jk,Jk,Jk,Jk,Jk,Jk,Jk,Jk,Jk,Jk,Jk,Jk,Jk,Jk,Jk,Jk,Jk,Jk,Jk,Jk,Jk,Jk,Jk,Jk,Jk,Jk,Jk,Jk,Jk,Jk,Jk,Jk,Jk,Jk,Jk,Jk,Jk,Jk,Jk,Jk,Jk,Jk,Jk,Jk,Jk,Jk,Jk,Jk,Jk,Jk,Jk,Jk,Jk],[(Blk.d 1 [(D.list Z43 Z3v Z3o)]),(Blk.d 1 Z2d),(Blk.d 1 Z6d)]⟩
  (contK Tg (Z1k Z4 Z1 Z5 Z7 Z9 Za Zn).sp ⟨0,[],false,[]⟩ (inlK Tg (Z1k Z4 Z1 Z5 Z7 Z9 Za Zn) m 4) m Zz (endK Tg Tryz.f7 (fun v L => viewK L 8 v some)) []))
noncomputable def Z81 (Z4 Z1 Z5 Z7 Z9 Za Zn : List D → Option D) (m n0 : Nat) (Zl : Int) (Zt : Int) (Zy : Int) (Z11 : Nat) (Zs : Option Nat) (Z1b : List D) (Z1o : List D) (Z2r : List D) : Option D :=
 Z15 (bm 394112 108) 0 3 (codeK Tg (Z1k Z4 Z1 Z5 Z7 Z9 Za Zn).sp ⟨0,[],false,[]⟩ (inlK Tg (Z1k Z4 Z1 Z5 Z7 Z9 Za Zn) m 4) m Zz (subc [1,1,1,1,1,1,1,1,1,0,1,0,0] (bodyOf Tryz.f7))) n0 ⟨[Jk,Jk,Jk,Jk,Jk,Jk,Jk,(AV.ptr 1 0),(AV.d (D.v (.int .i64 Zl))),(AV.ptr 2 0),Jk,Jk,Jk,Jk,Jk,Jk,Jk,(AV.d (D.v (.int .i64 Zt))),(AV.d (D.v (.int .i64 Zy))),Jk,Jk,Jk,Jk,Jk,Jk,Jk,Jk,Jk,Jk,Jk,Jk,Jk,Jk,Jk,Jk,Jk,Jk,Jk,Jk,Jk,Jk,Jk,Jk,Jk,Jk,Jk,Jk,Jk,Jk,Jk,Jk,Jk,Jk,Jk,Jk,Jk,Jk,Jk,Jk,Jk,Jk,Jk,Jk,Jk,Jk,Jk,Jk,Jk,Jk,Jk,Jk,Jk,Jk,Jk,Jk,Jk,Jk,Jk,Jk,Jk,Jk,Jk,Jk,Jk,Jk,Jk,Jk,Jk,Jk,Jk,Jk,Jk,Jk,Jk,Jk,Jk,Jk,Jk,Jk,Jk,Jk,Jk,Jk,Jk,Jk,Jk,Jk,Jk],[(Blk.d 1 [(D.list Z11 Zs Z1b)]),(Blk.d 1 Z1o),(Blk.d 1 Z2r)]⟩
  (contK Tg (Z1k Z4 Z1 Z5 Z7 Z9 Za Zn).sp ⟨0,[],false,[]⟩ (inlK Tg (Z1k Z4 Z1 Z5 Z7 Z9 Za Zn) m 4) m Zz (endK Tg Tryz.f7 (fun v L => viewK L 8 v some)) [.block 0,.code (subc [1,1,1,1,1,1,1,1,1,1] (bodyOf Tryz.f7))])
noncomputable def Zaw (Z4 Z1 Z5 Z7 Z9 Za Zn : List D → Option D) (m n0 : Nat) (Z8i : Int) (Z9q : Int) (Z9r : Int) (Za9 : Nat) (Z80 : Option Nat) (Z8s : List D) (Zf3 : List D) (Zif : List D) : Option D :=
 cutK m (codeK Tg (Z1k Z4 Z1 Z5 Z7 Z9 Za Zn).sp ⟨0,[],false,[]⟩ (inlK Tg (Z1k Z4 Z1 Z5 Z7 Z9 Za Zn) m 4) m Zz (subc [1,1,1,1,1,1,1,1,1,0,1,0,0,1,1] (bodyOf Tryz.f7)) ⟨[Jk,Jk,Jk,Jk,Jk,Jk,Jk,(AV.ptr 1 0),(AV.d (D.v (.int .i64 Z8i))),(AV.ptr 2 0),Jk,Jk,Jk,Jk,Jk,Jk,Jk,(AV.d (D.v (.int .i64 Z9q))),(AV.d (D.v (.int .i64 Z9r))),Jk,Jk,Jk,Jk,Jk,Jk,Jk,Jk,Jk,Jk,Jk,Jk,Jk,Jk,Jk,Jk,Jk,Jk,Jk,Jk,Jk,Jk,Jk,Jk,Jk,Jk,Jk,Jk,Jk,Jk,Jk,Jk,Jk,Jk,Jk,Jk,Jk,Jk,Jk,Jk,Jk,Jk,Jk,Jk,Jk,Jk,Jk,Jk,Jk,Jk,Jk,Jk,Jk,Jk,Jk,Jk,Jk,Jk,Jk,Jk,Jk,Jk,Jk,Jk,Jk,Jk,Jk,Jk,Jk,Jk,Jk,Jk,Jk,Jk,Jk,Jk,Jk,Jk,Jk,Jk,Jk,Jk,Jk,Jk,Jk,Jk,Jk,Jk,Jk],[(Blk.d 1 [(D.list Za9 Z80 Z8s)]),(Blk.d 1 Zf3),(Blk.d 1 Zif)]⟩
  (contK Tg (Z1k Z4 Z1 Z5 Z7 Z9 Za Zn).sp ⟨0,[],false,[]⟩ (inlK Tg (Z1k Z4 Z1 Z5 Z7 Z9 Za Zn) m 4) m Zz (endK Tg Tryz.f7 (fun v L => viewK L 8 v some)) [.loop (bm 394112 108) 3 (subc [1,1,1,1,1,1,1,1,1,0,1,0,0] (bodyOf Tryz.f7)) n0,.block 0,.code (subc [1,1,1,1,1,1,1,1,1,1] (bodyOf Tryz.f7))]))
theorem Zgr (Z4 Z1 Z5 Z7 Z9 Za Zn : List D → Option D) (m n0 : Nat) (Z8i : Int) (Z9q : Int) (Z9r : Int) (Za9 : Nat) (Z80 : Option Nat) (Z8s : List D) (Zf3 : List D) (Zif : List D) : Zaw Z4 Z1 Z5 Z7 Z9 Za Zn m n0 Z8i Z9q Z9r Za9 Z80 Z8s Zf3 Zif =
 (Z81 Z4 Z1 Z5 Z7 Z9 Za Zn m n0 Z8i Z9q (IntKind.wrap .i64 (Z9r + (1 : Int))) Za9 Z80 Z8s Zf3 Zif) := (Z1t m _).trans (by kernel_rfl)
theorem Ztq (Z4 Z1 Z5 Z7 Z9 Za Zn : List D → Option D) (m n0 : Nat) (Zl : Int) (Zt : Int) (Zy : Int) (Z11 : Nat) (Zs : Option Nat) (Z1b : List D) (Z1o : List D) (Z2r : List D) : Z81 Z4 Z1 Z5 Z7 Z9 Za Zn m (n0 + 1) Zl Zt Zy Z11 Zs Z1b Z1o Z2r =
 ((rdL Z1o[0]?).bind fun q37 =>
 cond (decide (Zy < (q37.n : Int)))
 ((Zn [(D.agg Z1o),(D.v (.int .i64 Zy))]).bind fun d38 =>
 (rdI .i64 (some d38)).bind fun x39 =>
 cond (x39 == Zl)
 ((Za [(D.agg Z1o),(D.v (.int .i64 Zy))]).bind fun d40 =>
 (rdL (some d40)).bind fun q41 =>
 (Z9 [(D.agg Z2r),(D.list q41.n q41.cap q41.cs)]).bind fun d42 =>
 (rdI .i64 (some d42)).bind fun x43 =>
 cond (decide (x43 < (0 : Int)))
 (some (D.v (.bool false)))
 (Zaw Z4 Z1 Z5 Z7 Z9 Za Zn m n0 Zl (IntKind.wrap .i64 (Zt + (1 : Int))) Zy Z11 Zs Z1b Z1o Z2r))
 (Zaw Z4 Z1 Z5 Z7 Z9 Za Zn m n0 Zl Zt Zy Z11 Zs Z1b Z1o Z2r))
 ((rdL Z2r[0]?).bind fun q44 =>
 cond ((Zt == (0 : Int)) == ((q44.n : Int) == (0 : Int)))
 ((Z4 []).bind fun d45 =>
 (rdB (some d45)).bind fun b46 =>
 some (D.v (.bool b46)))
 (some (D.v (.bool false))))) := by kernel_rfl
theorem Ztr (Z4 Z1 Z5 Z7 Z9 Za Zn : List D → Option D) (m : Nat) (Z2o : Int) (Z43 : Nat) (Z3v : Option Nat) (Z3o : List D) (Z2d : List D) (Z6d : List D) : Zkw Z4 Z1 Z5 Z7 Z9 Za Zn m Z2o Z43 Z3v Z3o Z2d Z6d =
 (Z81 Z4 Z1 Z5 Z7 Z9 Za Zn m m Z2o (0 : Int) (0 : Int) Z43 Z3v Z3o Z2d Z6d) := (Z1t m _).trans (by kernel_rfl)
noncomputable def Zax (Z4 Z1 Z5 Z7 Z9 Za Zn : List D → Option D) (m : Nat) (a0_0n : Nat) (a0_0c : Option Nat) (a0_0 : List D) (a1 : Int) (a2 : Int) : Option D :=
 (Z5 [(D.agg [(D.list a0_0n a0_0c a0_0)])]).bind fun d1 =>
 (rdA (some d1)).bind fun c2 =>
 if (List.length c2) = 1 then
 (Z1 [(D.agg c2),(D.v (.int .i64 (IntKind.wrap .i64 (Int.tmod a1 (8 : Int)))))]).bind fun d3 =>
 (rdT d3).bind fun r4 =>
 if List.length r4 = 2 then
 (rdA r4[0]?).bind fun c5 =>
 (rdI .i64 r4[1]?).bind fun x6 =>
 if (List.length c5) = 1 then
 (Z1 [(D.agg c5),(D.v (.int .i64 (IntKind.wrap .i64 (Int.tmod a1 (8 : Int)))))]).bind fun d7 =>
 (rdT d7).bind fun r8 =>
 if List.length r8 = 2 then
 (rdA r8[0]?).bind fun c9 =>
 (rdI .i64 r8[1]?).bind fun x10 =>
 if (List.length c9) = 1 then
 if (IntKind.wrap .i64 ((IntKind.wrap .i64 (Int.tmod a1 (8 : Int))) + (1 : Int))) = 0 then none else
 (Z1 [(D.agg c2),(D.v (.int .i64 (Int.tmod (IntKind.wrap .i64 a2) (IntKind.wrap .i64 ((IntKind.wrap .i64 (Int.tmod a1 (8 : Int))) + (1 : Int))))))]).bind fun d11 =>
 (rdT d11).bind fun r12 =>
 if List.length r12 = 2 then
 (rdA r12[0]?).bind fun c13 =>
 (rdI .i64 r12[1]?).bind fun x14 =>
 if (List.length c13) = 1 then
 (Z1 [(D.agg c13),(D.v (.int .i64 (IntKind.wrap .i64 (Int.tmod a1 (8 : Int)))))]).bind fun d15 =>
 (rdT d15).bind fun r16 =>
 if List.length r16 = 2 then
 (rdA r16[0]?).bind fun c17 =>
 (rdI .i64 r16[1]?).bind fun x18 =>
 if (List.length c17) = 1 then
 cond (x6 != (0 : Int))
 (some (D.v (.bool false)))
 (cond (x10 != (0 : Int))
 (some (D.v (.bool false)))
 (cond (x14 != (0 : Int))
 (some (D.v (.bool false)))
 (cond (x18 != (0 : Int))
 (some (D.v (.bool false)))
 ((Z7 [(D.agg c5),(D.agg c9)]).bind fun d19 =>
 (rdI .i64 (some d19)).bind fun x20 =>
 cond (x20 == (0 : Int))
 (some (D.v (.bool false)))
 ((Z7 [(D.agg c5),(D.agg c17)]).bind fun d21 =>
 (rdI .i64 (some d21)).bind fun x22 =>
 cond (x22 == (0 : Int))
 (some (D.v (.bool false)))
 (Zkw Z4 Z1 Z5 Z7 Z9 Za Zn m (IntKind.wrap .i64 (Int.tmod a1 (8 : Int))) a0_0n a0_0c a0_0 c2 c5))))))
 else none
 else none
 else none
 else none
 else none
 else none
 else none
 else none
 else none
theorem Zw6 (Z4 Z1 Z5 Z7 Z9 Za Zn : List D → Option D) (m : Nat) (a0_0n : Nat) (a0_0c : Option Nat) (a0_0 : List D) (a1 : Int) (a2 : Int) : funD Tg (Z1k Z4 Z1 Z5 Z7 Z9 Za Zn) m 4 Zz Tryz.f7 [(D.agg [(D.list a0_0n a0_0c a0_0)]),(D.v (.int .u8 a1)),(D.v (.int .u8 a2))] = Zax Z4 Z1 Z5 Z7 Z9 Za Zn m a0_0n a0_0c a0_0 a1 a2 := by kernel_rfl
theorem Zz6 : Enters Tg 7 := ⟨Tryz.f7,Tryz.func7,by kernel_rfl,by kernel_rfl⟩
theorem Zz7 {ds : List D} {d : D} (h : funD Tg (Z1k Z1v Zr Z27 Z2x Z38 Z2w Z29) M 4 Zz Tryz.f7 ds = some d) : DataSem Tg 7 ds d := Z8 (H := (Z1k Z1v Zr Z27 Z2x Z38 Z2w Z29)) (SpOk.cons Zsn (SpOk.cons Zqg (SpOk.cons Zui (SpOk.cons Zut (SpOk.cons Z13k (SpOk.cons Zus (SpOk.cons Zgh SpOk.nil))))))) mixed InlOk.nil Tryz.func7 Zz6 h
noncomputable def Zg5 : List D → Option D
  | [.agg [.list a0_0n a0_0c a0_0],.v (.int .u8 a1),.v (.int .u8 a2)] => Zax Z1v Zr Z27 Z2x Z38 Z2w Z29 M a0_0n a0_0c a0_0 a1 a2
  | _ => none
theorem Zz8 : ∀ ds d,Zg5 ds = some d → DataSem Tg 7 ds d := by
  intro ds d h
  unfold Zg5 at h
  split at h
  · exact Zz7 ((Zw6 Z1v Zr Z27 Z2x Z38 Z2w Z29 M _ _ _ _ _).trans h)
  · cases h

end Go.Ev
