/- Functions of the given program in plain form,printed: each with the proof that it is what the evaluator comes to,and that the program function returns what it says. No conditions. -/
import Derived.Test.YtkefahdbckjajaaGreatDoorEzG8
set_option linter.unusedVariables false
set_option maxRecDepth 100000
namespace Go.Ev
open Go Go.Proofs
def Z4n : FnH := ⟨[(4,⟨(bm 35 33),[],(some 0)⟩)],[(3,⟨(bm 3 33),[],(some 0)⟩)]⟩
noncomputable def Z7c : Hints := ⟨[],[],[]⟩
noncomputable def Zz2 (m : Nat) (Z2y : Nat) (Z4c : Option Nat) (Z40 : List D) (Z3k : Nat) (Z2j : Option Nat) (Z6i : List D) : Option D :=
 cutK m (codeK Tg Z7c.sp ⟨0,[],false,[]⟩ (inlK Tg Z7c m 4) m Z4n (subc [1,1] (bodyOf Tryz.f25)) ⟨[(AV.d (D.list Z2y Z4c Z40)),(AV.d (D.list Z3k Z2j Z6i)),Jk,Jk,Jk,Jk,Jk,Jk,Jk,Jk,Jk,Jk,Jk,Jk,Jk,Jk,Jk,Jk,Jk,Jk,Jk,Jk,Jk,Jk,Jk,Jk,Jk,Jk,Jk,Jk,Jk,Jk,Jk],[]⟩
  (contK Tg Z7c.sp ⟨0,[],false,[]⟩ (inlK Tg Z7c m 4) m Z4n (endK Tg Tryz.f25 (fun v L => viewK L 8 v some)) []))
noncomputable def Zmk (m n0 : Nat) (Zz : Nat) (Z13 : Option Nat) (Z18 : List D) (Z1b : Nat) (Z14 : Option Nat) (Z1q : List D) (Z1z : Int) : Option D :=
 Z1e (bm 35 33) 0 0 (codeK Tg Z7c.sp ⟨0,[],false,[]⟩ (inlK Tg Z7c m 4) m Z4n (subc [1,1,0,1,0,0] (bodyOf Tryz.f25))) n0 ⟨[(AV.d (D.list Zz Z13 Z18)),(AV.d (D.list Z1b Z14 Z1q)),Jk,Jk,Jk,(AV.d (D.v (.int .i64 Z1z))),Jk,Jk,Jk,Jk,Jk,Jk,Jk,Jk,Jk,Jk,Jk,Jk,Jk,Jk,Jk,Jk,Jk,Jk,Jk,Jk,Jk,Jk,Jk,Jk,Jk,Jk,Jk],[]⟩
  (contK Tg Z7c.sp ⟨0,[],false,[]⟩ (inlK Tg Z7c m 4) m Z4n (endK Tg Tryz.f25 (fun v L => viewK L 8 v some)) [.block 0,.code (subc [1,1,1] (bodyOf Tryz.f25))])
theorem Z18l (m n0 : Nat) (Zz : Nat) (Z13 : Option Nat) (Z18 : List D) (Z1b : Nat) (Z14 : Option Nat) (Z1q : List D) (Z1z : Int) : Zmk m (n0 + 1) Zz Z13 Z18 Z1b Z14 Z1q Z1z =
 (cond (decide (Z1z < (Zz : Int)))
 (if 0 ≤ Z1z ∧ Z1z < (Zz : Int) then
 (rdI .i64 Z18[((Int.toNat Z1z) * 1)]?).bind fun x6 =>
 if 0 ≤ Z1z ∧ Z1z < (Z1b : Int) then
 (rdI .i64 Z1q[((Int.toNat Z1z) * 1)]?).bind fun x7 =>
 cond (x6 != x7)
 (some (D.v (.bool false)))
 (Zmk m n0 Zz Z13 Z18 Z1b Z14 Z1q (IntKind.wrap .i64 (Z1z + (1 : Int))))
 else none
 else none)
 (some (D.v (.bool true)))) := by kernel_rfl
theorem Z16l (m : Nat) (Z2y : Nat) (Z4c : Option Nat) (Z40 : List D) (Z3k : Nat) (Z2j : Option Nat) (Z6i : List D) : Zz2 m Z2y Z4c Z40 Z3k Z2j Z6i =
 (Zmk m m Z2y Z4c Z40 Z3k Z2j Z6i (0 : Int)) := (Z1y m _).trans (by kernel_rfl)
noncomputable def Zsh (m : Nat) (a0n : Nat) (a0c : Option Nat) (a0 : List D) (a1n : Nat) (a1c : Option Nat) (a1 : List D) : Option D :=
 cond ((a0n : Int) != (a1n : Int))
 (some (D.v (.bool false)))
 (capO (a0c) fun n1 =>
 cond ((n1 : Int) != (a0n : Int))
 (some (D.v (.bool false)))
 (Zz2 m a0n a0c a0 a1n a1c a1))
theorem Z1bl (m : Nat) (a0n : Nat) (a0c : Option Nat) (a0 : List D) (a1n : Nat) (a1c : Option Nat) (a1 : List D) : funD Tg Z7c m 4 Z4n Tryz.f25 [(D.list a0n a0c a0),(D.list a1n a1c a1)] = Zsh m a0n a0c a0 a1n a1c a1 := by kernel_rfl
theorem Z1gb : Enters Tg 25 := ⟨Tryz.f25,Tryz.func25,by kernel_rfl,by kernel_rfl⟩
theorem Z1gc {ds : List D} {d : D} (h : funD Tg Z7c M 4 Z4n Tryz.f25 ds = some d) : DataSem Tg 25 ds d := Zf (H := Z7c) SpOk.nil mixed InlOk.nil Tryz.func25 Z1gb h
noncomputable def Z1f : List D → Option D
 | [.list a0n a0c a0,.list a1n a1c a1] => Zsh M a0n a0c a0 a1n a1c a1
 | _ => none
theorem Zvk : ∀ ds d,Z1f ds = some d → DataSem Tg 25 ds d := by
 intro ds d h
 unfold Z1f at h
 split at h
 ·exact Z1gc ((Z1bl M _ _ _ _ _ _).trans h)
 ·cases h
def Zh4 : FnH := ⟨[],[]⟩
noncomputable def Zz3 : Hints := ⟨[(31,Z38)],[],[]⟩
noncomputable def Zsi (m : Nat) (a0_0n : Nat) (a0_0c : Option Nat) (a0_0 : List D) (a1_0n : Nat) (a1_0c : Option Nat) (a1_0 : List D) : Option D :=
 (Z38 [(D.agg [(D.list a0_0n a0_0c a0_0)]),(D.agg [(D.list a1_0n a1_0c a1_0)])]).bind fun d1 =>
 (rdI .i64 (some d1)).bind fun x2 =>
 cond (x2 == (1 : Int))
 (capO (a0_0c) fun n3 =>
 some (D.v (.bool ((n3 : Int) == (a0_0n : Int)))))
 (some (D.v (.bool false)))
theorem Z1bm (m : Nat) (a0_0n : Nat) (a0_0c : Option Nat) (a0_0 : List D) (a1_0n : Nat) (a1_0c : Option Nat) (a1_0 : List D) : funD Tg Zz3 m 4 Zh4 Tryz.f27 [(D.agg [(D.list a0_0n a0_0c a0_0)]),(D.agg [(D.list a1_0n a1_0c a1_0)])] = Zsi m a0_0n a0_0c a0_0 a1_0n a1_0c a1_0 := by kernel_rfl
theorem Z1gd : Enters Tg 27 := ⟨Tryz.f27,Tryz.func27,by kernel_rfl,by kernel_rfl⟩
theorem Z1ge {ds : List D} {d : D} (h : funD Tg Zz3 M 4 Zh4 Tryz.f27 ds = some d) : DataSem Tg 27 ds d := Zf (H := Zz3) (SpOk.cons Zvj SpOk.nil) mixed InlOk.nil Tryz.func27 Z1gd h
noncomputable def Z49 : List D → Option D
 | [.agg [.list a0_0n a0_0c a0_0],.agg [.list a1_0n a1_0c a1_0]] => Zsi M a0_0n a0_0c a0_0 a1_0n a1_0c a1_0
 | _ => none
theorem Z14o : ∀ ds d,Z49 ds = some d → DataSem Tg 27 ds d := by
 intro ds d h
 unfold Z49 at h
 split at h
 ·exact Z1ge ((Z1bm M _ _ _ _ _ _).trans h)
 ·cases h
def Z2i : FnH := ⟨[],[(6,⟨(bm 0 176),[],(some 0)⟩),(10,⟨(bm 0 176),[],(some 0)⟩),(16,⟨(bm 0 176),[],(some 0)⟩)]⟩
noncomputable def Z4a (Z2 Zi Z1 Z3 Zc Z6 Z8 Zs : List D → Option D) : Hints := ⟨[(18,Z2),(19,Zi),(20,Z1),(21,Z3),(23,Zc),(25,Z6),(36,Z8),(61,Zs)],[],[]⟩
noncomputable def Zok (Z2 Zi Z1 Z3 Zc Z6 Z8 Zs : List D → Option D) (m : Nat)  : Option D :=
 cutK m (codeK Tg (Z4a Z2 Zi Z1 Z3 Zc Z6 Z8 Zs).sp ⟨0,[],false,[]⟩ (inlK Tg (Z4a Z2 Zi Z1 Z3 Zc Z6 Z8 Zs) m 4) m Z2i (subc [1,1,1,1,1] (bodyOf Tryz.f16)) ⟨[Jk,Jk,Jk,Jk,Jk,Jk,Jk,Jk,Jk,Jk,Jk,Jk,Jk,Jk,Jk,Jk,Jk,Jk,Jk,Jk,Jk,Jk,Jk,Jk,Jk,Jk,Jk,Jk,Jk,Jk,Jk,Jk,Jk,Jk,Jk,Jk,Jk,Jk,Jk,Jk,Jk,Jk,Jk,Jk,Jk,Jk,Jk,Jk,Jk,Jk,Jk,Jk,Jk,Jk,Jk,Jk,Jk,Jk,Jk,Jk,Jk,Jk,Jk,Jk,Jk,Jk,Jk,Jk,Jk,Jk,Jk,Jk,Jk,Jk,Jk,Jk,Jk,Jk,Jk,Jk,Jk,Jk,Jk,Jk,Jk,Jk,Jk,Jk,Jk,Jk,Jk,Jk,Jk,Jk,Jk,Jk,Jk,Jk,Jk,Jk,Jk,Jk,Jk,Jk,Jk,Jk,Jk,Jk,Jk,Jk,Jk,Jk,Jk,Jk,Jk,Jk,Jk,Jk,Jk,Jk,Jk,Jk,Jk,Jk,Jk,Jk,Jk,Jk,Jk,Jk,Jk,Jk,Jk,Jk,Jk,Jk,Jk,Jk,Jk,Jk,Jk,Jk,Jk,Jk,Jk,Jk,Jk,Jk,Jk,Jk,Jk,Jk,Jk,Jk,Jk,Jk,Jk,Jk,Jk,Jk,Jk,Jk,Jk,Jk,Jk,Jk,Jk,Jk,Jk,Jk,Jk,Jk,Jk,Jk,Jk,Jk],[]⟩
  (contK Tg (Z4a Z2 Zi Z1 Z3 Zc Z6 Z8 Zs).sp ⟨0,[],false,[]⟩ (inlK Tg (Z4a Z2 Zi Z1 Z3 Zc Z6 Z8 Zs) m 4) m Z2i (endK Tg Tryz.f16 (fun v L => viewK L 8 v some)) []))
noncomputable def Zlw (Z2 Zi Z1 Z3 Zc Z6 Z8 Zs : List D → Option D) (m : Nat)  : Option D :=
 cutK m (codeK Tg (Z4a Z2 Zi Z1 Z3 Zc Z6 Z8 Zs).sp ⟨0,[],false,[]⟩ (inlK Tg (Z4a Z2 Zi Z1 Z3 Zc Z6 Z8 Zs) m 4) m Z2i (subc [1,1,1,1,1,1,1,1] (bodyOf Tryz.f16)) ⟨[Jk,Jk,Jk,Jk,Jk,Jk,Jk,Jk,Jk,Jk,Jk,Jk,Jk,Jk,Jk,Jk,Jk,Jk,Jk,Jk,Jk,Jk,Jk,Jk,Jk,Jk,Jk,Jk,Jk,Jk,Jk,Jk,Jk,Jk,Jk,Jk,Jk,Jk,Jk,Jk,Jk,Jk,Jk,Jk,Jk,Jk,Jk,Jk,Jk,Jk,Jk,Jk,Jk,Jk,Jk,Jk,Jk,Jk,Jk,Jk,Jk,Jk,Jk,Jk,Jk,Jk,Jk,Jk,Jk,Jk,Jk,Jk,Jk,Jk,Jk,Jk,Jk,Jk,Jk,Jk,Jk,Jk,Jk,Jk,Jk,Jk,Jk,Jk,Jk,Jk,Jk,Jk,Jk,Jk,Jk,Jk,Jk,Jk,Jk,Jk,Jk,Jk,Jk,Jk,Jk,Jk,Jk,Jk,Jk,Jk,Jk,Jk,Jk,Jk,Jk,Jk,Jk,Jk,Jk,Jk,Jk,Jk,Jk,Jk,Jk,Jk,Jk,Jk,Jk,Jk,Jk,Jk,Jk,Jk,Jk,Jk,Jk,Jk,Jk,Jk,Jk,Jk,Jk,Jk,Jk,Jk,Jk,Jk,Jk,Jk,Jk,Jk,Jk,Jk,Jk,Jk,Jk,Jk,Jk,Jk,Jk,Jk,Jk,Jk,Jk,Jk,Jk,Jk,Jk,Jk,Jk,Jk,Jk,Jk,Jk,Jk],[]⟩
  (contK Tg (Z4a Z2 Zi Z1 Z3 Zc Z6 Z8 Zs).sp ⟨0,[],false,[]⟩ (inlK Tg (Z4a Z2 Zi Z1 Z3 Zc Z6 Z8 Zs) m 4) m Z2i (endK Tg Tryz.f16 (fun v L => viewK L 8 v some)) []))
noncomputable def Zlx (Z2 Zi Z1 Z3 Zc Z6 Z8 Zs : List D → Option D) (m : Nat)  : Option D :=
 cutK m (codeK Tg (Z4a Z2 Zi Z1 Z3 Zc Z6 Z8 Zs).sp ⟨0,[],false,[]⟩ (inlK Tg (Z4a Z2 Zi Z1 Z3 Zc Z6 Z8 Zs) m 4) m Z2i (subc [1,1,1,1,1,1,1,1,1,1,1,1,1] (bodyOf Tryz.f16)) ⟨[Jk,Jk,Jk,Jk,Jk,Jk,Jk,Jk,Jk,Jk,Jk,Jk,Jk,Jk,Jk,Jk,Jk,Jk,Jk,Jk,Jk,Jk,Jk,Jk,Jk,Jk,Jk,Jk,Jk,Jk,Jk,Jk,Jk,Jk,Jk,Jk,Jk,Jk,Jk,Jk,Jk,Jk,Jk,Jk,Jk,Jk,Jk,Jk,Jk,Jk,Jk,Jk,Jk,Jk,Jk,Jk,Jk,Jk,Jk,Jk,Jk,Jk,Jk,Jk,Jk,Jk,Jk,Jk,Jk,Jk,Jk,Jk,Jk,Jk,Jk,Jk,Jk,Jk,Jk,Jk,Jk,Jk,Jk,Jk,Jk,Jk,Jk,Jk,Jk,Jk,Jk,Jk,Jk,Jk,Jk,Jk,Jk,Jk,Jk,Jk,Jk,Jk,Jk,Jk,Jk,Jk,Jk,Jk,Jk,Jk,Jk,Jk,Jk,Jk,Jk,Jk,Jk,Jk,Jk,Jk,Jk,Jk,Jk,Jk,Jk,Jk,Jk,Jk,Jk,Jk,Jk,Jk,Jk,Jk,Jk,Jk,Jk,Jk,Jk,Jk,Jk,Jk,Jk,Jk,Jk,Jk,Jk,Jk,Jk,Jk,Jk,Jk,Jk,Jk,Jk,Jk,Jk,Jk,Jk,Jk,Jk,Jk,Jk,Jk,Jk,Jk,Jk,Jk,Jk,Jk,Jk,Jk,Jk,Jk,Jk,Jk],[]⟩
  (contK Tg (Z4a Z2 Zi Z1 Z3 Zc Z6 Z8 Zs).sp ⟨0,[],false,[]⟩ (inlK Tg (Z4a Z2 Zi Z1 Z3 Zc Z6 Z8 Zs) m 4) m Z2i (endK Tg Tryz.f16 (fun v L => viewK L 8 v some)) []))
theorem Z12b (Z2 Zi Z1 Z3 Zc Z6 Z8 Zs : List D → Option D) (m : Nat)  : Zlx Z2 Zi Z1 Z3 Zc Z6 Z8 Zs m  =
 ((Zs []).bind fun d70 =>
 (rdA (some d70)).bind fun c71 =>
 (Zc [(D.agg c71),(D.v (.int .i64 (2 : Int))),(D.v (.int .i64 (2 : Int)))]).bind fun d72 =>
 (rdT d72).bind fun r73 =>
 if List.length r73 = 2 then
 (rdA r73[0]?).bind fun c74 =>
 (rdI .i64 r73[1]?).bind fun x75 =>
 (Zs []).bind fun d76 =>
 (rdA (some d76)).bind fun c77 =>
 (Zc [(D.agg c77),(D.v (.int .i64 (2 : Int))),(D.v (.int .i64 (1 : Int)))]).bind fun d78 =>
 (rdT d78).bind fun r79 =>
 if List.length r79 = 2 then
 (rdA r79[0]?).bind fun c80 =>
 (rdI .i64 r79[1]?).bind fun x81 =>
 (Zs []).bind fun d82 =>
 (rdA (some d82)).bind fun c83 =>
 (Zc [(D.agg c83),(D.v (.int .i64 (2 : Int))),(D.v (.int .i64 (5 : Int)))]).bind fun d84 =>
 (rdT d84).bind fun r85 =>
 if List.length r85 = 2 then
 (rdA r85[0]?).bind fun c86 =>
 (rdI .i64 r85[1]?).bind fun x87 =>
 (Zs []).bind fun d88 =>
 (rdA (some d88)).bind fun c89 =>
 (Z2 [(D.agg c89),(D.v (.int .i64 (65 : Int)))]).bind fun d90 =>
 (rdT d90).bind fun r91 =>
 if List.length r91 = 2 then
 (rdL r91[0]?).bind fun q92 =>
 (rdI .i64 r91[1]?).bind fun x93 =>
 cond (x75 == (0 : Int))
 (cond (x81 == (21 : Int))
 (cond (x87 == (19 : Int))
 (some (D.v (.bool (x93 == (1 : Int)))))
 (some (D.v (.bool false))))
 (some (D.v (.bool false))))
 (some (D.v (.bool false)))
 else none
 else none
 else none
 else none) := (Z1y m _).trans (by kernel_rfl)
theorem Z12c (Z2 Zi Z1 Z3 Zc Z6 Z8 Zs : List D → Option D) (m : Nat)  : Zlw Z2 Zi Z1 Z3 Zc Z6 Z8 Zs m  =
 ((Zs []).bind fun d37 =>
 (rdA (some d37)).bind fun c38 =>
 (Z1 [(D.agg c38),(D.v (.int .i64 (2 : Int)))]).bind fun d39 =>
 (rdT d39).bind fun r40 =>
 if List.length r40 = 2 then
 (rdA r40[0]?).bind fun c41 =>
 (rdI .i64 r40[1]?).bind fun x42 =>
 if (List.length c41) = 1 then
 (Zs []).bind fun d43 =>
 (rdA (some d43)).bind fun c44 =>
 (Z1 [(D.agg c44),(D.v (.int .i64 (3 : Int)))]).bind fun d45 =>
 (rdT d45).bind fun r46 =>
 if List.length r46 = 2 then
 (rdA r46[0]?).bind fun c47 =>
 (rdI .i64 r46[1]?).bind fun x48 =>
 if (List.length c47) = 1 then
 (Zs []).bind fun d49 =>
 (rdA (some d49)).bind fun c50 =>
 (Z1 [(D.agg c50),zI]).bind fun d51 =>
 (rdT d51).bind fun r52 =>
 if List.length r52 = 2 then
 (rdA r52[0]?).bind fun c53 =>
 (rdI .i64 r52[1]?).bind fun x54 =>
 if (List.length c53) = 1 then
 (Zs []).bind fun d55 =>
 (rdA (some d55)).bind fun c56 =>
 (Z3 [(D.agg c56),(D.v (.int .i64 (3 : Int))),(D.list 2 (some 2) [(D.v (.int .i64 (1 : Int))),(D.v (.int .i64 (-1 : Int)))])]).bind fun d57 =>
 (rdT d57).bind fun r58 =>
 if List.length r58 = 3 then
 (rdA r58[0]?).bind fun c59 =>
 (rdI .i64 r58[1]?).bind fun x60 =>
 (rdI .i64 r58[2]?).bind fun x61 =>
 if (List.length c59) = 1 then
 cond (x42 != (0 : Int))
 (some (D.v (.bool false)))
 (cond (x48 != (0 : Int))
 (some (D.v (.bool false)))
 (cond (x54 != (0 : Int))
 (some (D.v (.bool false)))
 (cond (x61 != (0 : Int))
 (some (D.v (.bool false)))
 ((Z8 [(D.agg c41)]).bind fun d62 =>
 (rdI .i64 (some d62)).bind fun x63 =>
 cond (x63 != (4 : Int))
 (some (D.v (.bool false)))
 ((Z8 [(D.agg c47)]).bind fun d64 =>
 (rdI .i64 (some d64)).bind fun x65 =>
 cond (x65 != (0 : Int))
 (some (D.v (.bool false)))
 ((Z8 [(D.agg c53)]).bind fun d66 =>
 (rdI .i64 (some d66)).bind fun x67 =>
 cond (x67 != (5 : Int))
 (some (D.v (.bool false)))
 ((Z8 [(D.agg c59)]).bind fun d68 =>
 (rdI .i64 (some d68)).bind fun x69 =>
 cond (x69 != (0 : Int))
 (some (D.v (.bool false)))
 (cond (x60 != (5 : Int))
 (some (D.v (.bool false)))
 (Zlx Z2 Zi Z1 Z3 Zc Z6 Z8 Zs m )))))))))
 else none
 else none
 else none
 else none
 else none
 else none
 else none
 else none) := (Z1y m _).trans (by kernel_rfl)
theorem Z14p (Z2 Zi Z1 Z3 Zc Z6 Z8 Zs : List D → Option D) (m : Nat)  : Zok Z2 Zi Z1 Z3 Zc Z6 Z8 Zs m  =
 ((Zs []).bind fun d23 =>
 (rdA (some d23)).bind fun c24 =>
 (Zi [(D.agg c24),(D.v (.int .i64 (2 : Int)))]).bind fun d25 =>
 (rdT d25).bind fun r26 =>
 if List.length r26 = 2 then
 (rdL r26[0]?).bind fun q27 =>
 (rdI .i64 r26[1]?).bind fun x28 =>
 (Zs []).bind fun d29 =>
 (rdA (some d29)).bind fun c30 =>
 (Zi [(D.agg c30),(D.v (.int .i64 (3 : Int)))]).bind fun d31 =>
 (rdT d31).bind fun r32 =>
 if List.length r32 = 2 then
 (rdL r32[0]?).bind fun q33 =>
 (rdI .i64 r32[1]?).bind fun x34 =>
 cond (x28 != (0 : Int))
 (some (D.v (.bool false)))
 (cond (x34 != (0 : Int))
 (some (D.v (.bool false)))
 ((Z6 [(D.list q27.n q27.cap q27.cs),(D.list 4 (some 4) [zI,(D.v (.int .i64 (1 : Int))),(D.v (.int .i64 (3 : Int))),(D.v (.int .i64 (4 : Int)))])]).bind fun d35 =>
 (rdB (some d35)).bind fun b36 =>
 cond (!b36)
 (some (D.v (.bool false)))
 (cond ((q33.n : Int) != (0 : Int))
 (some (D.v (.bool false)))
 (Zlw Z2 Zi Z1 Z3 Zc Z6 Z8 Zs m ))))
 else none
 else none) := (Z1y m _).trans (by kernel_rfl)
noncomputable def Zpn (Z2 Zi Z1 Z3 Zc Z6 Z8 Zs : List D → Option D) (m : Nat)  : Option D :=
 (Zs []).bind fun d1 =>
 (rdA (some d1)).bind fun c2 =>
 (Z2 [(D.agg c2),(D.v (.int .i64 (2 : Int)))]).bind fun d3 =>
 (rdT d3).bind fun r4 =>
 if List.length r4 = 2 then
 (rdL r4[0]?).bind fun q5 =>
 (rdI .i64 r4[1]?).bind fun x6 =>
 (Zs []).bind fun d7 =>
 (rdA (some d7)).bind fun c8 =>
 (Z2 [(D.agg c8),(D.v (.int .i64 (3 : Int)))]).bind fun d9 =>
 (rdT d9).bind fun r10 =>
 if List.length r10 = 2 then
 (rdL r10[0]?).bind fun q11 =>
 (rdI .i64 r10[1]?).bind fun x12 =>
 (Zs []).bind fun d13 =>
 (rdA (some d13)).bind fun c14 =>
 (Z2 [(D.agg c14),(D.v (.int .i64 (1 : Int)))]).bind fun d15 =>
 (rdT d15).bind fun r16 =>
 if List.length r16 = 2 then
 (rdL r16[0]?).bind fun q17 =>
 (rdI .i64 r16[1]?).bind fun x18 =>
 cond (x6 != (0 : Int))
 (some (D.v (.bool false)))
 (cond (x12 != (0 : Int))
 (some (D.v (.bool false)))
 (cond (x18 != (0 : Int))
 (some (D.v (.bool false)))
 ((Z6 [(D.list q5.n q5.cap q5.cs),(D.list 1 (some 1) [(D.v (.int .i64 (2 : Int)))])]).bind fun d19 =>
 (rdB (some d19)).bind fun b20 =>
 cond (!b20)
 (some (D.v (.bool false)))
 ((Z6 [(D.list q11.n q11.cap q11.cs),(D.list 3 (some 3) [(D.v (.int .i64 (2 : Int))),(D.v (.int .i64 (3 : Int))),(D.v (.int .i64 (4 : Int)))])]).bind fun d21 =>
 (rdB (some d21)).bind fun b22 =>
 cond (!b22)
 (some (D.v (.bool false)))
 (cond ((q17.n : Int) != (0 : Int))
 (some (D.v (.bool false)))
 (Zok Z2 Zi Z1 Z3 Zc Z6 Z8 Zs m ))))))
 else none
 else none
 else none
theorem Z18m (Z2 Zi Z1 Z3 Zc Z6 Z8 Zs : List D → Option D) (m : Nat)  : funD Tg (Z4a Z2 Zi Z1 Z3 Zc Z6 Z8 Zs) m 4 Z2i Tryz.f16 [] = Zpn Z2 Zi Z1 Z3 Zc Z6 Z8 Zs m  := by kernel_rfl
theorem Z1d6 : Enters Tg 16 := ⟨Tryz.f16,Tryz.func16,by kernel_rfl,by kernel_rfl⟩
theorem Z1d7 {ds : List D} {d : D} (h : funD Tg (Z4a Zk Z1x Zp Zw Z1i Z1f Z2k Z6a) M 4 Z2i Tryz.f16 ds = some d) : DataSem Tg 16 ds d := Zf (H := (Z4a Zk Z1x Zp Zw Z1i Z1f Z2k Z6a)) (SpOk.cons Zi3 (SpOk.cons Zyu (SpOk.cons Zke (SpOk.cons Zlu (SpOk.cons Zwj (SpOk.cons Zvk (SpOk.cons Z145 (SpOk.cons Z1ga SpOk.nil)))))))) mixed InlOk.nil Tryz.func16 Z1d6 h
noncomputable def Z15 : List D → Option D
 | [] => Zpn Zk Z1x Zp Zw Z1i Z1f Z2k Z6a M 
 | _ => none
theorem Zml : ∀ ds d,Z15 ds = some d → DataSem Tg 16 ds d := by
 intro ds d h
 unfold Z15 at h
 split at h
 ·exact Z1d7 ((Z18m Zk Z1x Zp Zw Z1i Z1f Z2k Z6a M ).trans h)
 ·cases h
end Go.Ev