/- Functions of the given program in plain form,printed: each with the proof that it is what the evaluator comes to,and that the program function returns what it says. No conditions. -/
import Derived.Test.YtkefahdbckjajaaGreatDoorEzGa
set_option linter.unusedVariables false
set_option maxRecDepth 100000
namespace Go.Ev
open Go Go.Proofs
def Z29 : FnH := ⟨[(11,⟨(bm 49792 96),[],(some 3)⟩)],[(10,⟨(bm 17024 96),[],(some 3)⟩)]⟩
noncomputable def Z3y (Z4 Z1 Z3 Zb Zt Zx Z1p Ze Zg Zh : List D → Option D) : Hints := ⟨[(16,Z4),(20,Z1),(21,Z3),(24,Zb),(26,Zt),(27,Zx),(30,Z1p),(31,Ze),(32,Zg),(33,Zh)],[],[]⟩
noncomputable def Znr (Z4 Z1 Z3 Zb Zt Zx Z1p Ze Zg Zh : List D → Option D) (m : Nat) (Z2y : Nat) (Z4c : Option Nat) (Z40 : List D) (Z3k : Nat) (Z2j : Option Nat) (Z6i : List D) (Z7k : List D) (Zjw : List D) : Option D :=
 cutK m (codeK Tg (Z3y Z4 Z1 Z3 Zb Zt Zx Z1p Ze Zg Zh).sp ⟨0,[],false,[]⟩ (inlK Tg (Z3y Z4 Z1 Z3 Zb Zt Zx Z1p Ze Zg Zh) m 4) m Z29 (subc [1,1,1,1,1,1,1,1] (bodyOf Tryz.f6)) ⟨[Jk,Jk,Jk,Jk,Jk,Jk,Jk,(AV.ptr 1 0),Jk,(AV.ptr 2 0),Jk,Jk,Jk,Jk,(AV.d (D.list Z2y Z4c Z40)),Jk,Jk,Jk,Jk,Jk,Jk,Jk,Jk,Jk,Jk,Jk,Jk,Jk,Jk,Jk,Jk,Jk,Jk,Jk,Jk,Jk,Jk,Jk,Jk,Jk,Jk,Jk,Jk,Jk,Jk,Jk,Jk,Jk,Jk,Jk,Jk,Jk,Jk,Jk,Jk,Jk,Jk,Jk,Jk,Jk,Jk,Jk,Jk,Jk,Jk,Jk,Jk,Jk,Jk,Jk,Jk,Jk,Jk,Jk,Jk,Jk,Jk,Jk,Jk,Jk,Jk,Jk,Jk,Jk,Jk,Jk,Jk,Jk,Jk,Jk,Jk,Jk,Jk,Jk,Jk,Jk],[(Blk.d 1 [(D.list Z3k Z2j Z6i)]),(Blk.d 1 Z7k),(Blk.d 1 Zjw)]⟩
  (contK Tg (Z3y Z4 Z1 Z3 Zb Zt Zx Z1p Ze Zg Zh).sp ⟨0,[],false,[]⟩ (inlK Tg (Z3y Z4 Z1 Z3 Zb Zt Zx Z1p Ze Zg Zh) m 4) m Z29 (endK Tg Tryz.f6 (fun v L => viewK L 8 v some)) []))
noncomputable def Z9q (Z4 Z1 Z3 Zb Zt Zx Z1p Ze Zg Zh : List D → Option D) (m n0 : Nat) (Zz : Nat) (Z13 : Option Nat) (Z18 : List D) (Z1b : Int) (Z14 : Nat) (Z1q : Option Nat) (Z1z : List D) (Z32 : List D) (Z4e : List D) : Option D :=
 Z1e (bm 49792 96) 0 3 (codeK Tg (Z3y Z4 Z1 Z3 Zb Zt Zx Z1p Ze Zg Zh).sp ⟨0,[],false,[]⟩ (inlK Tg (Z3y Z4 Z1 Z3 Zb Zt Zx Z1p Ze Zg Zh) m 4) m Z29 (subc [1,1,1,1,1,1,1,1,0,1,0,0] (bodyOf Tryz.f6))) n0 ⟨[Jk,Jk,Jk,Jk,Jk,Jk,Jk,(AV.ptr 1 0),Jk,(AV.ptr 2 0),Jk,Jk,Jk,Jk,(AV.d (D.list Zz Z13 Z18)),(AV.d (D.v (.int .i64 Z1b))),Jk,Jk,Jk,Jk,Jk,Jk,Jk,Jk,Jk,Jk,Jk,Jk,Jk,Jk,Jk,Jk,Jk,Jk,Jk,Jk,Jk,Jk,Jk,Jk,Jk,Jk,Jk,Jk,Jk,Jk,Jk,Jk,Jk,Jk,Jk,Jk,Jk,Jk,Jk,Jk,Jk,Jk,Jk,Jk,Jk,Jk,Jk,Jk,Jk,Jk,Jk,Jk,Jk,Jk,Jk,Jk,Jk,Jk,Jk,Jk,Jk,Jk,Jk,Jk,Jk,Jk,Jk,Jk,Jk,Jk,Jk,Jk,Jk,Jk,Jk,Jk,Jk,Jk,Jk,Jk],[(Blk.d 1 [(D.list Z14 Z1q Z1z)]),(Blk.d 1 Z32),(Blk.d 1 Z4e)]⟩
  (contK Tg (Z3y Z4 Z1 Z3 Zb Zt Zx Z1p Ze Zg Zh).sp ⟨0,[],false,[]⟩ (inlK Tg (Z3y Z4 Z1 Z3 Zb Zt Zx Z1p Ze Zg Zh) m 4) m Z29 (endK Tg Tryz.f6 (fun v L => viewK L 8 v some)) [.block 0,.code (subc [1,1,1,1,1,1,1,1,1] (bodyOf Tryz.f6))])
theorem Zwz (Z4 Z1 Z3 Zb Zt Zx Z1p Ze Zg Zh : List D → Option D) (m n0 : Nat) (Zz : Nat) (Z13 : Option Nat) (Z18 : List D) (Z1b : Int) (Z14 : Nat) (Z1q : Option Nat) (Z1z : List D) (Z32 : List D) (Z4e : List D) : Z9q Z4 Z1 Z3 Zb Zt Zx Z1p Ze Zg Zh m (n0 + 1) Zz Z13 Z18 Z1b Z14 Z1q Z1z Z32 Z4e =
 (cond (decide (Z1b < (Zz : Int)))
 (if 0 ≤ Z1b ∧ Z1b < (Zz : Int) then
 (rdI .i64 Z18[((Int.toNat Z1b) * 1)]?).bind fun x34 =>
 (Zh [(D.agg Z32),(D.v (.int .i64 x34))]).bind fun d35 =>
 (rdL (some d35)).bind fun q36 =>
 (Zg [(D.agg Z4e),(D.list q36.n q36.cap q36.cs)]).bind fun d37 =>
 (rdI .i64 (some d37)).bind fun x38 =>
 cond (decide (x38 < (0 : Int)))
 (some (D.v (.bool false)))
 (Z9q Z4 Z1 Z3 Zb Zt Zx Z1p Ze Zg Zh m n0 Zz Z13 Z18 (IntKind.wrap .i64 (Z1b + (1 : Int))) Z14 Z1q Z1z Z32 Z4e)
 else none)
 ((Z4 []).bind fun d39 =>
 (rdB (some d39)).bind fun b40 =>
 some (D.v (.bool b40)))) := by kernel_rfl
theorem Zvm (Z4 Z1 Z3 Zb Zt Zx Z1p Ze Zg Zh : List D → Option D) (m : Nat) (Z2y : Nat) (Z4c : Option Nat) (Z40 : List D) (Z3k : Nat) (Z2j : Option Nat) (Z6i : List D) (Z7k : List D) (Zjw : List D) : Znr Z4 Z1 Z3 Zb Zt Zx Z1p Ze Zg Zh m Z2y Z4c Z40 Z3k Z2j Z6i Z7k Zjw =
 (Z9q Z4 Z1 Z3 Zb Zt Zx Z1p Ze Zg Zh m m Z2y Z4c Z40 (0 : Int) Z3k Z2j Z6i Z7k Zjw) := (Z1y m _).trans (by kernel_rfl)
noncomputable def Zfs (Z4 Z1 Z3 Zb Zt Zx Z1p Ze Zg Zh : List D → Option D) (m : Nat) (a0_0n : Nat) (a0_0c : Option Nat) (a0_0 : List D) (a1 : Int) (a2n : Nat) (a2c : Option Nat) (a2 : List D) : Option D :=
 cond (decide ((a2n : Int) > (40 : Int)))
 ((Z4 []).bind fun d1 =>
 (rdB (some d1)).bind fun b2 =>
 some (D.v (.bool b2)))
 ((Zb [(D.agg [(D.list a0_0n a0_0c a0_0)])]).bind fun d3 =>
 (rdA (some d3)).bind fun c4 =>
 if (List.length c4) = 1 then
 (Z1 [(D.agg c4),(D.v (.int .i64 (IntKind.wrap .i64 (Int.tmod a1 (8 : Int)))))]).bind fun d5 =>
 (rdT d5).bind fun r6 =>
 if List.length r6 = 2 then
 (rdA r6[0]?).bind fun c7 =>
 (rdI .i64 r6[1]?).bind fun x8 =>
 if (List.length c7) = 1 then
 (Z3 [(D.agg c4),(D.v (.int .i64 (IntKind.wrap .i64 (Int.tmod a1 (8 : Int))))),(D.list a2n a2c a2)]).bind fun d9 =>
 (rdT d9).bind fun r10 =>
 if List.length r10 = 3 then
 (rdA r10[0]?).bind fun c11 =>
 (rdI .i64 r10[1]?).bind fun x12 =>
 (rdI .i64 r10[2]?).bind fun x13 =>
 if (List.length c11) = 1 then
 (Zt [(D.agg c4),(D.v (.int .i64 (IntKind.wrap .i64 (Int.tmod a1 (8 : Int)))))]).bind fun d14 =>
 (rdL (some d14)).bind fun q15 =>
 cond (x8 != (0 : Int))
 (some (D.v (.bool false)))
 (cond (x13 != (0 : Int))
 (some (D.v (.bool false)))
 ((Z1p [(D.agg c4),(D.v (.int .i64 (IntKind.wrap .i64 (Int.tmod a1 (8 : Int)))))]).bind fun d16 =>
 (rdA (some d16)).bind fun c17 =>
 (Zx [(D.agg c7),(D.agg c17)]).bind fun d18 =>
 (rdB (some d18)).bind fun b19 =>
 cond (!b19)
 (some (D.v (.bool false)))
 ((Ze [(D.agg c7),(D.agg c11)]).bind fun d20 =>
 (rdI .i64 (some d20)).bind fun x21 =>
 cond (x21 == (0 : Int))
 (some (D.v (.bool false)))
 ((rdL c7[0]?).bind fun q22 =>
 cond ((q22.n : Int) != (q15.n : Int))
 (some (D.v (.bool false)))
 ((rdL c4[0]?).bind fun q23 =>
 cond (x12 != (IntKind.wrap .i64 ((q23.n : Int) - (q15.n : Int))))
 (some (D.v (.bool false)))
 (Znr Z4 Z1 Z3 Zb Zt Zx Z1p Ze Zg Zh m q15.n q15.cap q15.cs a0_0n a0_0c a0_0 c4 c7))))))
 else none
 else none
 else none
 else none
 else none)
theorem Zzz (Z4 Z1 Z3 Zb Zt Zx Z1p Ze Zg Zh : List D → Option D) (m : Nat) (a0_0n : Nat) (a0_0c : Option Nat) (a0_0 : List D) (a1 : Int) (a2n : Nat) (a2c : Option Nat) (a2 : List D) : funD Tg (Z3y Z4 Z1 Z3 Zb Zt Zx Z1p Ze Zg Zh) m 4 Z29 Tryz.f6 [(D.agg [(D.list a0_0n a0_0c a0_0)]),(D.v (.int .u8 a1)),(D.list a2n a2c a2)] = Zfs Z4 Z1 Z3 Zb Zt Zx Z1p Ze Zg Zh m a0_0n a0_0c a0_0 a1 a2n a2c a2 := by kernel_rfl
theorem Z14s : Enters Tg 6 := ⟨Tryz.f6,Tryz.func6,by kernel_rfl,by kernel_rfl⟩
theorem Z14t {ds : List D} {d : D} (h : funD Tg (Z3y Z15 Zp Zw Z2c Z3d Z49 Z6w Z38 Z3n Z37) M 4 Z29 Tryz.f6 ds = some d) : DataSem Tg 6 ds d := Zf (H := (Z3y Z15 Zp Zw Z2c Z3d Z49 Z6w Z38 Z3n Z37)) (SpOk.cons Zml (SpOk.cons Zke (SpOk.cons Zlu (SpOk.cons Zv5 (SpOk.cons Z10w (SpOk.cons Z14o (SpOk.cons Z1d1 (SpOk.cons Zvj (SpOk.cons Z14h (SpOk.cons Zvi SpOk.nil)))))))))) mixed InlOk.nil Tryz.func6 Z14s h
noncomputable def Z2u : List D → Option D
 | [.agg [.list a0_0n a0_0c a0_0],.v (.int .u8 a1),.list a2n a2c a2] => Zfs Z15 Zp Zw Z2c Z3d Z49 Z6w Z38 Z3n Z37 M a0_0n a0_0c a0_0 a1 a2n a2c a2
 | _ => none
theorem Z14u : ∀ ds d,Z2u ds = some d → DataSem Tg 6 ds d := by
 intro ds d h
 unfold Z2u at h
 split at h
 ·exact Z14t ((Zzz Z15 Zp Zw Z2c Z3d Z49 Z6w Z38 Z3n Z37 M _ _ _ _ _ _ _).trans h)
 ·cases h
end Go.Ev