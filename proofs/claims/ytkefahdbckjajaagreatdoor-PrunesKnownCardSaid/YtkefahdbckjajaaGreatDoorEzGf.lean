/- Functions of the given program in plain form,printed: each with the proof that it is what the evaluator comes to,and that the program function returns what it says. No conditions. -/
import Derived.Test.YtkefahdbckjajaaGreatDoorEzGa
set_option linter.unusedVariables false
set_option maxRecDepth 100000
namespace Go.Ev
open Go Go.Proofs
def Z19 : FnH := ⟨[(11,⟨(bm 394112 108),[],(some 3)⟩)],[(9,⟨(bm 896 108),[],(some 3)⟩),(12,⟨(bm 394112 108),[],(some 3)⟩)]⟩
noncomputable def Z1u (Z4 Z1 Zb Ze Zg Zh Z10 : List D → Option D) : Hints := ⟨[(16,Z4),(20,Z1),(24,Zb),(31,Ze),(32,Zg),(33,Zh),(34,Z10)],[],[]⟩
noncomputable def Zlc (Z4 Z1 Zb Ze Zg Zh Z10 : List D → Option D) (m : Nat) (Z2y : Int) (Z4c : Nat) (Z40 : Option Nat) (Z3k : List D) (Z2j : List D) (Z6i : List D) : Option D :=
 cutK m (codeK Tg (Z1u Z4 Z1 Zb Ze Zg Zh Z10).sp ⟨0,[],false,[]⟩ (inlK Tg (Z1u Z4 Z1 Zb Ze Zg Zh Z10) m 4) m Z19 (subc [1,1,1,1,1,1,1,1] (bodyOf Tryz.f7)) ⟨[Jk,Jk,Jk,Jk,Jk,Jk,Jk,(AV.ptr 1 0),(AV.d (D.v (.int .i64 Z2y))),(AV.ptr 2 0),Jk,Jk,Jk,Jk,Jk,Jk,Jk,Jk,Jk,Jk,Jk,Jk,Jk,Jk,Jk,Jk,Jk,Jk,Jk,Jk,Jk,Jk,Jk,Jk,Jk,Jk,Jk,Jk,Jk,Jk,Jk,Jk,Jk,Jk,Jk,Jk,Jk,Jk,Jk,Jk,Jk,Jk,Jk,Jk,Jk,Jk,Jk,Jk,Jk,Jk,Jk,Jk,Jk,Jk,Jk,Jk,Jk,Jk,Jk,Jk,Jk,Jk,Jk,Jk,Jk,Jk,Jk,Jk,Jk,Jk,Jk,Jk,Jk,Jk,Jk,Jk,Jk,Jk,Jk,Jk,Jk,Jk,Jk,Jk,Jk,Jk,Jk,Jk,Jk,Jk,Jk,Jk,Jk,Jk,Jk,Jk,Jk,Jk],[(Blk.d 1 [(D.list Z4c Z40 Z3k)]),(Blk.d 1 Z2j),(Blk.d 1 Z6i)]⟩
  (contK Tg (Z1u Z4 Z1 Zb Ze Zg Zh Z10).sp ⟨0,[],false,[]⟩ (inlK Tg (Z1u Z4 Z1 Zb Ze Zg Zh Z10) m 4) m Z19 (endK Tg Tryz.f7 (fun v L => viewK L 8 v some)) []))
noncomputable def Z8d (Z4 Z1 Zb Ze Zg Zh Z10 : List D → Option D) (m n0 : Nat) (Zz : Int) (Z13 : Int) (Z18 : Int) (Z1b : Nat) (Z14 : Option Nat) (Z1q : List D) (Z1z : List D) (Z32 : List D) : Option D :=
 Z1e (bm 394112 108) 0 3 (codeK Tg (Z1u Z4 Z1 Zb Ze Zg Zh Z10).sp ⟨0,[],false,[]⟩ (inlK Tg (Z1u Z4 Z1 Zb Ze Zg Zh Z10) m 4) m Z19 (subc [1,1,1,1,1,1,1,1,1,0,1,0,0] (bodyOf Tryz.f7))) n0 ⟨[Jk,Jk,Jk,Jk,Jk,Jk,Jk,(AV.ptr 1 0),(AV.d (D.v (.int .i64 Zz))),(AV.ptr 2 0),Jk,Jk,Jk,Jk,Jk,Jk,Jk,(AV.d (D.v (.int .i64 Z13))),(AV.d (D.v (.int .i64 Z18))),Jk,Jk,Jk,Jk,Jk,Jk,Jk,Jk,Jk,Jk,Jk,Jk,Jk,Jk,Jk,Jk,Jk,Jk,Jk,Jk,Jk,Jk,Jk,Jk,Jk,Jk,Jk,Jk,Jk,Jk,Jk,Jk,Jk,Jk,Jk,Jk,Jk,Jk,Jk,Jk,Jk,Jk,Jk,Jk,Jk,Jk,Jk,Jk,Jk,Jk,Jk,Jk,Jk,Jk,Jk,Jk,Jk,Jk,Jk,Jk,Jk,Jk,Jk,Jk,Jk,Jk,Jk,Jk,Jk,Jk,Jk,Jk,Jk,Jk,Jk,Jk,Jk,Jk,Jk,Jk,Jk,Jk,Jk,Jk,Jk,Jk,Jk,Jk,Jk],[(Blk.d 1 [(D.list Z1b Z14 Z1q)]),(Blk.d 1 Z1z),(Blk.d 1 Z32)]⟩
  (contK Tg (Z1u Z4 Z1 Zb Ze Zg Zh Z10).sp ⟨0,[],false,[]⟩ (inlK Tg (Z1u Z4 Z1 Zb Ze Zg Zh Z10) m 4) m Z19 (endK Tg Tryz.f7 (fun v L => viewK L 8 v some)) [.block 0,.code (subc [1,1,1,1,1,1,1,1,1,1] (bodyOf Tryz.f7))])
noncomputable def Zb9 (Z4 Z1 Zb Ze Zg Zh Z10 : List D → Option D) (m n0 : Nat) (Z9n : Int) (Zbt : Int) (Zbv : Int) (Zcj : Nat) (Z8v : Option Nat) (Zaj : List D) (Zha : List D) (Zla : List D) : Option D :=
 cutK m (codeK Tg (Z1u Z4 Z1 Zb Ze Zg Zh Z10).sp ⟨0,[],false,[]⟩ (inlK Tg (Z1u Z4 Z1 Zb Ze Zg Zh Z10) m 4) m Z19 (subc [1,1,1,1,1,1,1,1,1,0,1,0,0,1,1] (bodyOf Tryz.f7)) ⟨[Jk,Jk,Jk,Jk,Jk,Jk,Jk,(AV.ptr 1 0),(AV.d (D.v (.int .i64 Z9n))),(AV.ptr 2 0),Jk,Jk,Jk,Jk,Jk,Jk,Jk,(AV.d (D.v (.int .i64 Zbt))),(AV.d (D.v (.int .i64 Zbv))),Jk,Jk,Jk,Jk,Jk,Jk,Jk,Jk,Jk,Jk,Jk,Jk,Jk,Jk,Jk,Jk,Jk,Jk,Jk,Jk,Jk,Jk,Jk,Jk,Jk,Jk,Jk,Jk,Jk,Jk,Jk,Jk,Jk,Jk,Jk,Jk,Jk,Jk,Jk,Jk,Jk,Jk,Jk,Jk,Jk,Jk,Jk,Jk,Jk,Jk,Jk,Jk,Jk,Jk,Jk,Jk,Jk,Jk,Jk,Jk,Jk,Jk,Jk,Jk,Jk,Jk,Jk,Jk,Jk,Jk,Jk,Jk,Jk,Jk,Jk,Jk,Jk,Jk,Jk,Jk,Jk,Jk,Jk,Jk,Jk,Jk,Jk,Jk,Jk],[(Blk.d 1 [(D.list Zcj Z8v Zaj)]),(Blk.d 1 Zha),(Blk.d 1 Zla)]⟩
  (contK Tg (Z1u Z4 Z1 Zb Ze Zg Zh Z10).sp ⟨0,[],false,[]⟩ (inlK Tg (Z1u Z4 Z1 Zb Ze Zg Zh Z10) m 4) m Z19 (endK Tg Tryz.f7 (fun v L => viewK L 8 v some)) [.loop (bm 394112 108) 3 (subc [1,1,1,1,1,1,1,1,1,0,1,0,0] (bodyOf Tryz.f7)) n0,.block 0,.code (subc [1,1,1,1,1,1,1,1,1,1] (bodyOf Tryz.f7))]))
theorem Zh5 (Z4 Z1 Zb Ze Zg Zh Z10 : List D → Option D) (m n0 : Nat) (Z9n : Int) (Zbt : Int) (Zbv : Int) (Zcj : Nat) (Z8v : Option Nat) (Zaj : List D) (Zha : List D) (Zla : List D) : Zb9 Z4 Z1 Zb Ze Zg Zh Z10 m n0 Z9n Zbt Zbv Zcj Z8v Zaj Zha Zla =
 (Z8d Z4 Z1 Zb Ze Zg Zh Z10 m n0 Z9n Zbt (IntKind.wrap .i64 (Zbv + (1 : Int))) Zcj Z8v Zaj Zha Zla) := (Z1y m _).trans (by kernel_rfl)
theorem Zuc (Z4 Z1 Zb Ze Zg Zh Z10 : List D → Option D) (m n0 : Nat) (Zz : Int) (Z13 : Int) (Z18 : Int) (Z1b : Nat) (Z14 : Option Nat) (Z1q : List D) (Z1z : List D) (Z32 : List D) : Z8d Z4 Z1 Zb Ze Zg Zh Z10 m (n0 + 1) Zz Z13 Z18 Z1b Z14 Z1q Z1z Z32 =
 ((rdL Z1z[0]?).bind fun q37 =>
 cond (decide (Z18 < (q37.n : Int)))
 ((Z10 [(D.agg Z1z),(D.v (.int .i64 Z18))]).bind fun d38 =>
 (rdI .i64 (some d38)).bind fun x39 =>
 cond (x39 == Zz)
 ((Zh [(D.agg Z1z),(D.v (.int .i64 Z18))]).bind fun d40 =>
 (rdL (some d40)).bind fun q41 =>
 (Zg [(D.agg Z32),(D.list q41.n q41.cap q41.cs)]).bind fun d42 =>
 (rdI .i64 (some d42)).bind fun x43 =>
 cond (decide (x43 < (0 : Int)))
 (some (D.v (.bool false)))
 (Zb9 Z4 Z1 Zb Ze Zg Zh Z10 m n0 Zz (IntKind.wrap .i64 (Z13 + (1 : Int))) Z18 Z1b Z14 Z1q Z1z Z32))
 (Zb9 Z4 Z1 Zb Ze Zg Zh Z10 m n0 Zz Z13 Z18 Z1b Z14 Z1q Z1z Z32))
 ((rdL Z32[0]?).bind fun q44 =>
 cond ((Z13 == (0 : Int)) == ((q44.n : Int) == (0 : Int)))
 ((Z4 []).bind fun d45 =>
 (rdB (some d45)).bind fun b46 =>
 some (D.v (.bool b46)))
 (some (D.v (.bool false))))) := by kernel_rfl
theorem Zud (Z4 Z1 Zb Ze Zg Zh Z10 : List D → Option D) (m : Nat) (Z2y : Int) (Z4c : Nat) (Z40 : Option Nat) (Z3k : List D) (Z2j : List D) (Z6i : List D) : Zlc Z4 Z1 Zb Ze Zg Zh Z10 m Z2y Z4c Z40 Z3k Z2j Z6i =
 (Z8d Z4 Z1 Zb Ze Zg Zh Z10 m m Z2y (0 : Int) (0 : Int) Z4c Z40 Z3k Z2j Z6i) := (Z1y m _).trans (by kernel_rfl)
noncomputable def Zba (Z4 Z1 Zb Ze Zg Zh Z10 : List D → Option D) (m : Nat) (a0_0n : Nat) (a0_0c : Option Nat) (a0_0 : List D) (a1 : Int) (a2 : Int) : Option D :=
 (Zb [(D.agg [(D.list a0_0n a0_0c a0_0)])]).bind fun d1 =>
 (rdA (some d1)).bind fun c2 =>
 if (List.length c2) = 1 then
 (Z1 [(D.agg c2),(D.v (.int .i64 (IntKind.wrap .i64 (Int.tmod a1 (8 : Int)))))]).bind fun d3 =>
 (rdT d3).bind fun r4 =>
 if List.length r4 = 2 then
 (rdA r4[0]?).bind fun c5 =>
 (rdI .i64 r4[1]?).bind fun x6 =>
 if (List.length c5) = 1 then
 (Z1 [(D.agg c5),(D.v (.int .i64 (IntKind.wrap .i64 (Int.tmod a1 (8 : Int)))))]).bind fun d7 =>
 (rdT d7).bind fun r8 =>
 if List.length r8 = 2 then
 (rdA r8[0]?).bind fun c9 =>
 (rdI .i64 r8[1]?).bind fun x10 =>
 if (List.length c9) = 1 then
 if (IntKind.wrap .i64 ((IntKind.wrap .i64 (Int.tmod a1 (8 : Int))) + (1 : Int))) = 0 then none else
 (Z1 [(D.agg c2),(D.v (.int .i64 (Int.tmod (IntKind.wrap .i64 a2) (IntKind.wrap .i64 ((IntKind.wrap .i64 (Int.tmod a1 (8 : Int))) + (1 : Int))))))]).bind fun d11 =>
 (rdT d11).bind fun r12 =>
 if List.length r12 = 2 then
 (rdA r12[0]?).bind fun c13 =>
 (rdI .i64 r12[1]?).bind fun x14 =>
 if (List.length c13) = 1 then
 (Z1 [(D.agg c13),(D.v (.int .i64 (IntKind.wrap .i64 (Int.tmod a1 (8 : Int)))))]).bind fun d15 =>
 (rdT d15).bind fun r16 =>
 if List.length r16 = 2 then
 (rdA r16[0]?).bind fun c17 =>
 (rdI .i64 r16[1]?).bind fun x18 =>
 if (List.length c17) = 1 then
 cond (x6 != (0 : Int))
 (some (D.v (.bool false)))
 (cond (x10 != (0 : Int))
 (some (D.v (.bool false)))
 (cond (x14 != (0 : Int))
 (some (D.v (.bool false)))
 (cond (x18 != (0 : Int))
 (some (D.v (.bool false)))
 ((Ze [(D.agg c5),(D.agg c9)]).bind fun d19 =>
 (rdI .i64 (some d19)).bind fun x20 =>
 cond (x20 == (0 : Int))
 (some (D.v (.bool false)))
 ((Ze [(D.agg c5),(D.agg c17)]).bind fun d21 =>
 (rdI .i64 (some d21)).bind fun x22 =>
 cond (x22 == (0 : Int))
 (some (D.v (.bool false)))
 (Zlc Z4 Z1 Zb Ze Zg Zh Z10 m (IntKind.wrap .i64 (Int.tmod a1 (8 : Int))) a0_0n a0_0c a0_0 c2 c5))))))
 else none
 else none
 else none
 else none
 else none
 else none
 else none
 else none
 else none
theorem Zx0 (Z4 Z1 Zb Ze Zg Zh Z10 : List D → Option D) (m : Nat) (a0_0n : Nat) (a0_0c : Option Nat) (a0_0 : List D) (a1 : Int) (a2 : Int) : funD Tg (Z1u Z4 Z1 Zb Ze Zg Zh Z10) m 4 Z19 Tryz.f7 [(D.agg [(D.list a0_0n a0_0c a0_0)]),(D.v (.int .u8 a1)),(D.v (.int .u8 a2))] = Zba Z4 Z1 Zb Ze Zg Zh Z10 m a0_0n a0_0c a0_0 a1 a2 := by kernel_rfl
theorem Z100 : Enters Tg 7 := ⟨Tryz.f7,Tryz.func7,by kernel_rfl,by kernel_rfl⟩
theorem Z101 {ds : List D} {d : D} (h : funD Tg (Z1u Z15 Zp Z2c Z38 Z3n Z37 Z2m) M 4 Z19 Tryz.f7 ds = some d) : DataSem Tg 7 ds d := Zf (H := (Z1u Z15 Zp Z2c Z38 Z3n Z37 Z2m)) (SpOk.cons Zml (SpOk.cons Zke (SpOk.cons Zv5 (SpOk.cons Zvj (SpOk.cons Z14h (SpOk.cons Zvi (SpOk.cons Zgv SpOk.nil))))))) mixed InlOk.nil Tryz.func7 Z100 h
noncomputable def Z2a : List D → Option D
 | [.agg [.list a0_0n a0_0c a0_0],.v (.int .u8 a1),.v (.int .u8 a2)] => Zba Z15 Zp Z2c Z38 Z3n Z37 Z2m M a0_0n a0_0c a0_0 a1 a2
 | _ => none
theorem Z102 : ∀ ds d,Z2a ds = some d → DataSem Tg 7 ds d := by
 intro ds d h
 unfold Z2a at h
 split at h
 ·exact Z101 ((Zx0 Z15 Zp Z2c Z38 Z3n Z37 Z2m M _ _ _ _ _).trans h)
 ·cases h
end Go.Ev