/- Functions of the given program in plain form,printed: each with the proof that it is what the evaluator comes to,and that the program function returns what it says. No conditions. -/
import Derived.Test.YtkefahdbckjajaaGreatDoorEzGa
set_option linter.unusedVariables false
set_option maxRecDepth 100000
namespace Go.Ev
open Go Go.Proofs

def Z20 : FnH := ⟨[(11,⟨(bm 49792 96),[],(some 3)⟩)],[(10,⟨(bm 17024 96),[],(some 3)⟩)]⟩
noncomputable def Z3k (Z4 Z1 Z2 Z5 Z1e Z13 Z1f Z7 Z9 Za : List D → Option D) : Hints := ⟨[(16,Z4),(20,Z1),(21,Z2),(24,Z5),(26,Z1e),(27,Z13),(30,Z1f),(31,Z7),(32,Z9),(33,Za)],[],[]⟩
noncomputable def Znc (Z4 Z1 Z2 Z5 Z1e Z13 Z1f Z7 Z9 Za : List D → Option D) (m : Nat) (Z2o : Nat) (Z43 : Option Nat) (Z3v : List D) (Z3o : Nat) (Z2d : Option Nat) (Z6d : List D) (Z7a : List D) (Zki : List D) : Option D :=
 cutK m (codeK Tg (Z3k Z4 Z1 Z2 Z5 Z1e Z13 Z1f Z7 Z9 Za).sp ⟨0,[],false,[]⟩ (inlK Tg (Z3k Z4 Z1 Z2 Z5 Z1e Z13 Z1f Z7 Z9 Za) m 4) m Z20 (subc [1,1,1,1,1,1,1,1] (bodyOf Tryz.f6)) ⟨[Jk,Jk,Jk,Jk,Jk,Jk,Jk,(AV.ptr 1 0),Jk,(AV.ptr 2 0),Jk,Jk,Jk,Jk,(AV.d (D.list Z2o Z43 Z3v)),Jk,Jk,Jk,Jk,Jk,Jk,Jk,Jk,Jk,Jk,Jk,Jk,Jk,Jk,Jk,Jk,Jk,Jk,Jk,Jk,Jk,Jk,Jk,Jk,Jk,Jk,Jk,Jk,Jk,Jk,Jk,Jk,Jk,Jk,Jk,Jk,Jk,Jk,Jk,Jk,Jk,Jk,Jk,Jk,Jk,Jk,Jk,Jk,Jk,Jk,Jk,Jk,Jk,Jk,Jk,Jk,Jk,Jk,Jk,Jk,Jk,Jk,Jk,Jk,Jk,Jk,Jk,Jk,Jk,Jk,Jk,Jk,Jk,Jk,Jk,Jk,Jk,Jk,Jk,Jk,Jk],[(Blk.d 1 [(D.list Z3o Z2d Z6d)]),(Blk.d 1 Z7a),(Blk.d 1 Zki)]⟩
  (contK Tg (Z3k Z4 Z1 Z2 Z5 Z1e Z13 Z1f Z7 Z9 Za).sp ⟨0,[],false,[]⟩ (inlK Tg (Z3k Z4 Z1 Z2 Z5 Z1e Z13 Z1f Z7 Z9 Za) m 4) m Z20 (endK Tg Tryz.f6 (fun v L => viewK L 8 v some)) []))
noncomputable def Z9a (Z4 Z1 Z2 Z5 Z1e Z13 Z1f Z7 Z9 Za : List D → Option D) (m n0 : Nat) (Zl : Nat) (Zt : Option Nat) (Zy : List D) (Z11 : Int) (Zs : Nat) (Z1b : Option Nat) (Z1o : List D) (Z2r : List D) (Z3x : List D) : Option D :=
 Z15 (bm 49792 96) 0 3 (codeK Tg (Z3k Z4 Z1 Z2 Z5 Z1e Z13 Z1f Z7 Z9 Za).sp ⟨0,[],false,[]⟩ (inlK Tg (Z3k Z4 Z1 Z2 Z5 Z1e Z13 Z1f Z7 Z9 Za) m 4) m Z20 (subc [1,1,1,1,1,1,1,1,0,1,0,0] (bodyOf Tryz.f6))) n0 ⟨[Jk,Jk,Jk,Jk,Jk,Jk,Jk,(AV.ptr 1 0),Jk,(AV.ptr 2 0),Jk,Jk,Jk,Jk,(AV.d (D.list Zl Zt Zy)),(AV.d (D.v (.int .i64 Z11))),Jk,Jk,Jk,Jk,Jk,Jk,Jk,Jk,Jk,Jk,Jk,Jk,Jk,Jk,Jk,Jk,Jk,Jk,Jk,Jk,Jk,Jk,Jk,Jk,Jk,Jk,Jk,Jk,Jk,Jk,Jk,Jk,Jk,Jk,Jk,Jk,Jk,Jk,Jk,Jk,Jk,Jk,Jk,Jk,Jk,Jk,Jk,Jk,Jk,Jk,Jk,Jk,Jk,Jk,Jk,Jk,Jk,Jk,Jk,Jk,Jk,Jk,Jk,Jk,Jk,Jk,Jk,Jk,Jk,Jk,Jk,Jk,Jk,Jk,Jk,Jk,Jk,Jk,Jk,Jk],[(Blk.d 1 [(D.list Zs Z1b Z1o)]),(Blk.d 1 Z2r),(Blk.d 1 Z3x)]⟩
  (contK Tg (Z3k Z4 Z1 Z2 Z5 Z1e Z13 Z1f Z7 Z9 Za).sp ⟨0,[],false,[]⟩ (inlK Tg (Z3k Z4 Z1 Z2 Z5 Z1e Z13 Z1f Z7 Z9 Za) m 4) m Z20 (endK Tg Tryz.f6 (fun v L => viewK L 8 v some)) [.block 0,.code (subc [1,1,1,1,1,1,1,1,1] (bodyOf Tryz.f6))])
theorem Zw5 (Z4 Z1 Z2 Z5 Z1e Z13 Z1f Z7 Z9 Za : List D → Option D) (m n0 : Nat) (Zl : Nat) (Zt : Option Nat) (Zy : List D) (Z11 : Int) (Zs : Nat) (Z1b : Option Nat) (Z1o : List D) (Z2r : List D) (Z3x : List D) : Z9a Z4 Z1 Z2 Z5 Z1e Z13 Z1f Z7 Z9 Za m (n0 + 1) Zl Zt Zy Z11 Zs Z1b Z1o Z2r Z3x =
 (cond (decide (Z11 < (Zl : Int)))
 (if 0 ≤ Z11 ∧ Z11 < (Zl : Int) then
 (rdI .i64 Zy[((Int.toNat Z11) * 1)]?).bind fun x34 =>
 (Za [(D.agg Z2r),(D.v (.int .i64 x34))]).bind fun d35 =>
 (rdL (some d35)).bind fun q36 =>
 (Z9 [(D.agg Z3x),(D.list q36.n q36.cap q36.cs)]).bind fun d37 =>
 (rdI .i64 (some d37)).bind fun x38 =>
 cond (decide (x38 < (0 : Int)))
 (some (D.v (.bool false)))
 (Z9a Z4 Z1 Z2 Z5 Z1e Z13 Z1f Z7 Z9 Za m n0 Zl Zt Zy (IntKind.wrap .i64 (Z11 + (1 : Int))) Zs Z1b Z1o Z2r Z3x)
 else none)
 ((Z4 []).bind fun d39 =>
 (rdB (some d39)).bind fun b40 =>
 some (D.v (.bool b40)))) := by kernel_rfl
theorem Zuv (Z4 Z1 Z2 Z5 Z1e Z13 Z1f Z7 Z9 Za : List D → Option D) (m : Nat) (Z2o : Nat) (Z43 : Option Nat) (Z3v : List D) (Z3o : Nat) (Z2d : Option Nat) (Z6d : List D) (Z7a : List D) (Zki : List D) : Znc Z4 Z1 Z2 Z5 Z1e Z13 Z1f Z7 Z9 Za m Z2o Z43 Z3v Z3o Z2d Z6d Z7a Zki =
 (Z9a Z4 Z1 Z2 Z5 Z1e Z13 Z1f Z7 Z9 Za m m Z2o Z43 Z3v (0 : Int) Z3o Z2d Z6d Z7a Zki) := (Z1t m _).trans (by kernel_rfl)
noncomputable def Zfd (Z4 Z1 Z2 Z5 Z1e Z13 Z1f Z7 Z9 Za : List D → Option D) (m : Nat) (a0_0n : Nat) (a0_0c : Option Nat) (a0_0 : List D) (a1 : Int) (a2n : Nat) (a2c : Option Nat) (a2 : List D) : Option D :=
 cond (decide ((a2n : Int) > (40 : Int)))
 ((Z4 []).bind fun d1 =>
 (rdB (some d1)).bind fun b2 =>
 some (D.v (.bool b2)))
 ((Z5 [(D.agg [(D.list a0_0n a0_0c a0_0)])]).bind fun d3 =>
 (rdA (some d3)).bind fun c4 =>
 if (List.length c4) = 1 then
 (Z1 [(D.agg c4),(D.v (.int .i64 (IntKind.wrap .i64 (Int.tmod a1 (8 : Int)))))]).bind fun d5 =>
 (rdT d5).bind fun r6 =>
 if List.length r6 = 2 then
 (rdA r6[0]?).bind fun c7 =>
 (rdI .i64 r6[1]?).bind fun x8 =>
 if (List.length c7) = 1 then
 (Z2 [(D.agg c4),(D.v (.int .i64 (IntKind.wrap .i64 (Int.tmod a1 (8 : Int))))),(D.list a2n a2c a2)]).bind fun d9 =>
 (rdT d9).bind fun r10 =>
 if List.length r10 = 3 then
 (rdA r10[0]?).bind fun c11 =>
 (rdI .i64 r10[1]?).bind fun x12 =>
 (rdI .i64 r10[2]?).bind fun x13 =>
 if (List.length c11) = 1 then
 (Z1e [(D.agg c4),(D.v (.int .i64 (IntKind.wrap .i64 (Int.tmod a1 (8 : Int)))))]).bind fun d14 =>
 (rdL (some d14)).bind fun q15 =>
 cond (x8 != (0 : Int))
 (some (D.v (.bool false)))
 (cond (x13 != (0 : Int))
 (some (D.v (.bool false)))
 ((Z1f [(D.agg c4),(D.v (.int .i64 (IntKind.wrap .i64 (Int.tmod a1 (8 : Int)))))]).bind fun d16 =>
 (rdA (some d16)).bind fun c17 =>
 (Z13 [(D.agg c7),(D.agg c17)]).bind fun d18 =>
 (rdB (some d18)).bind fun b19 =>
 cond (!b19)
 (some (D.v (.bool false)))
 ((Z7 [(D.agg c7),(D.agg c11)]).bind fun d20 =>
 (rdI .i64 (some d20)).bind fun x21 =>
 cond (x21 == (0 : Int))
 (some (D.v (.bool false)))
 ((rdL c7[0]?).bind fun q22 =>
 cond ((q22.n : Int) != (q15.n : Int))
 (some (D.v (.bool false)))
 ((rdL c4[0]?).bind fun q23 =>
 cond (x12 != (IntKind.wrap .i64 ((q23.n : Int) - (q15.n : Int))))
 (some (D.v (.bool false)))
 (Znc Z4 Z1 Z2 Z5 Z1e Z13 Z1f Z7 Z9 Za m q15.n q15.cap q15.cs a0_0n a0_0c a0_0 c4 c7))))))
 else none
 else none
 else none
 else none
 else none)
theorem Zz5 (Z4 Z1 Z2 Z5 Z1e Z13 Z1f Z7 Z9 Za : List D → Option D) (m : Nat) (a0_0n : Nat) (a0_0c : Option Nat) (a0_0 : List D) (a1 : Int) (a2n : Nat) (a2c : Option Nat) (a2 : List D) : funD Tg (Z3k Z4 Z1 Z2 Z5 Z1e Z13 Z1f Z7 Z9 Za) m 4 Z20 Tryz.f6 [(D.agg [(D.list a0_0n a0_0c a0_0)]),(D.v (.int .u8 a1)),(D.list a2n a2c a2)] = Zfd Z4 Z1 Z2 Z5 Z1e Z13 Z1f Z7 Z9 Za m a0_0n a0_0c a0_0 a1 a2n a2c a2 := by kernel_rfl
theorem Z13w : Enters Tg 6 := ⟨Tryz.f6,Tryz.func6,by kernel_rfl,by kernel_rfl⟩
theorem Z13x {ds : List D} {d : D} (h : funD Tg (Z3k Z1v Zr Zq Z27 Z6l Z4b Z6k Z2x Z38 Z2w) M 4 Z20 Tryz.f6 ds = some d) : DataSem Tg 6 ds d := Z8 (H := (Z3k Z1v Zr Zq Z27 Z6l Z4b Z6k Z2x Z38 Z2w)) (SpOk.cons Zsn (SpOk.cons Zqg (SpOk.cons Zle (SpOk.cons Zui (SpOk.cons Z1ce (SpOk.cons Z13s (SpOk.cons Z1c9 (SpOk.cons Zut (SpOk.cons Z13k (SpOk.cons Zus SpOk.nil)))))))))) mixed InlOk.nil Tryz.func6 Z13w h
noncomputable def Zkd : List D → Option D
  | [.agg [.list a0_0n a0_0c a0_0],.v (.int .u8 a1),.list a2n a2c a2] => Zfd Z1v Zr Zq Z27 Z6l Z4b Z6k Z2x Z38 Z2w M a0_0n a0_0c a0_0 a1 a2n a2c a2
  | _ => none
theorem Z13y : ∀ ds d,Zkd ds = some d → DataSem Tg 6 ds d := by
  intro ds d h
  unfold Zkd at h
  split at h
  · exact Z13x ((Zz5 Z1v Zr Zq Z27 Z6l Z4b Z6k Z2x Z38 Z2w M _ _ _ _ _ _ _).trans h)
  · cases h

end Go.Ev
