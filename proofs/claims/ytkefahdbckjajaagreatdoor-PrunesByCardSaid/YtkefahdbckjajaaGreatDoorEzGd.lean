/- Functions of the given program in plain form,printed: each with the proof that it is what the evaluator comes to,and that the program function returns what it says. No conditions. -/
import Derived.Test.YtkefahdbckjajaaGreatDoorEzGa
set_option linter.unusedVariables false
set_option maxRecDepth 100000
namespace Go.Ev
open Go Go.Proofs

def Z8m : FnH := ⟨[],[]⟩
noncomputable def Zo8 (Z4 Z2 Z5 Z13 Z89 : List D → Option D) : Hints := ⟨[(16,Z4),(21,Z2),(24,Z5),(27,Z13),(29,Z89)],[],[]⟩
noncomputable def Zh3 (Z4 Z2 Z5 Z13 Z89 : List D → Option D) (m : Nat) (a0_0n : Nat) (a0_0c : Option Nat) (a0_0 : List D) (a1 : Int) (a2n : Nat) (a2c : Option Nat) (a2 : List D) : Option D :=
 cond (decide ((a2n : Int) > (40 : Int)))
 ((Z4 []).bind fun d1 =>
 (rdB (some d1)).bind fun b2 =>
 some (D.v (.bool b2)))
 ((Z5 [(D.agg [(D.list a0_0n a0_0c a0_0)])]).bind fun d3 =>
 (rdA (some d3)).bind fun c4 =>
 if (List.length c4) = 1 then
 (Z2 [(D.agg c4),(D.v (.int .i64 (IntKind.wrap .i64 (Int.tmod a1 (8 : Int))))),(D.list a2n a2c a2)]).bind fun d5 =>
 (rdT d5).bind fun r6 =>
 if List.length r6 = 3 then
 (rdA r6[0]?).bind fun c7 =>
 (rdI .i64 r6[1]?).bind fun x8 =>
 (rdI .i64 r6[2]?).bind fun x9 =>
 if (List.length c7) = 1 then
 (Z89 [(D.agg c4),(D.v (.int .i64 (IntKind.wrap .i64 (Int.tmod a1 (8 : Int))))),(D.list a2n a2c a2)]).bind fun d10 =>
 (rdT d10).bind fun r11 =>
 if List.length r11 = 2 then
 (rdA r11[0]?).bind fun c12 =>
 (rdI .i64 r11[1]?).bind fun x13 =>
 if (List.length c12) = 1 then
 cond (x9 == (0 : Int))
 (cond (x8 == x13)
 ((Z13 [(D.agg c7),(D.agg c12)]).bind fun d14 =>
 (rdB (some d14)).bind fun b15 =>
 cond b15
 ((Z4 []).bind fun d16 =>
 (rdB (some d16)).bind fun b17 =>
 some (D.v (.bool b17)))
 (some (D.v (.bool false))))
 (some (D.v (.bool false))))
 (some (D.v (.bool false)))
 else none
 else none
 else none
 else none
 else none)
theorem Z11h (Z4 Z2 Z5 Z13 Z89 : List D → Option D) (m : Nat) (a0_0n : Nat) (a0_0c : Option Nat) (a0_0 : List D) (a1 : Int) (a2n : Nat) (a2c : Option Nat) (a2 : List D) : funD Tg (Zo8 Z4 Z2 Z5 Z13 Z89) m 4 Z8m Tryz.f5 [(D.agg [(D.list a0_0n a0_0c a0_0)]),(D.v (.int .u8 a1)),(D.list a2n a2c a2)] = Zh3 Z4 Z2 Z5 Z13 Z89 m a0_0n a0_0c a0_0 a1 a2n a2c a2 := by kernel_rfl
theorem Z15p : Enters Tg 5 := ⟨Tryz.f5,Tryz.func5,by kernel_rfl,by kernel_rfl⟩
theorem Z15q {ds : List D} {d : D} (h : funD Tg (Zo8 Z1v Zq Z27 Z4b Z53) M 4 Z8m Tryz.f5 ds = some d) : DataSem Tg 5 ds d := Z8 (H := (Zo8 Z1v Zq Z27 Z4b Z53)) (SpOk.cons Zsn (SpOk.cons Zle (SpOk.cons Zui (SpOk.cons Z13s (SpOk.cons Z17r SpOk.nil))))) mixed InlOk.nil Tryz.func5 Z15p h
noncomputable def Zli : List D → Option D
  | [.agg [.list a0_0n a0_0c a0_0],.v (.int .u8 a1),.list a2n a2c a2] => Zh3 Z1v Zq Z27 Z4b Z53 M a0_0n a0_0c a0_0 a1 a2n a2c a2
  | _ => none
theorem Z15r : ∀ ds d,Zli ds = some d → DataSem Tg 5 ds d := by
  intro ds d h
  unfold Zli at h
  split at h
  · exact Z15q ((Z11h Z1v Zq Z27 Z4b Z53 M _ _ _ _ _ _ _).trans h)
  · cases h

end Go.Ev
