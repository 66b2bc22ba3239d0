/- Functions of the given program in plain form,printed: each with the proof that it is what the evaluator comes to,and that the program function returns what it says. No conditions. -/
import Derived.Test.YtnghcoghbbapgaaGreatDoorEzG5
set_option linter.unusedVariables false
set_option maxRecDepth 100000
namespace Go.Ev
open Go Go.Proofs
def Zj9 : FnH := ⟨[],[]⟩
noncomputable def Z18h : Hints := ⟨[(34,Z52)],[],[]⟩
noncomputable def Zze (m : Nat) (a0_0n : Nat) (a0_0c : Option Nat) (a0_0 : List D) (a1_0n : Nat) (a1_0c : Option Nat) (a1_0 : List D) : Option D :=
 (Z52 [(D.agg [(D.list a0_0n a0_0c a0_0)]),(D.agg [(D.list a1_0n a1_0c a1_0)])]).bind fun d1 =>
 (rdI .i64 (some d1)).bind fun x2 =>
 cond (x2 == (1 : Int))
 (capO (a0_0c) fun n3 =>
 some (D.v (.bool ((n3 : Int) == (a0_0n : Int)))))
 (some (D.v (.bool false)))
theorem Z1n6 (m : Nat) (a0_0n : Nat) (a0_0c : Option Nat) (a0_0 : List D) (a1_0n : Nat) (a1_0c : Option Nat) (a1_0 : List D) : funD Tg Z18h m 4 Zj9 Tryz.f29 [(D.agg [(D.list a0_0n a0_0c a0_0)]),(D.agg [(D.list a1_0n a1_0c a1_0)])] = Zze m a0_0n a0_0c a0_0 a1_0n a1_0c a1_0 := by kernel_rfl
theorem Z1t3 : Enters Tg 29 := ⟨Tryz.f29,Tryz.func29,by kernel_rfl,by kernel_rfl⟩
theorem Z1t4 {ds : List D} {d : D} (h : funD Tg Z18h M 4 Zj9 Tryz.f29 ds = some d) : DataSem Tg 29 ds d := Z5 (H := Z18h) (SpOk.cons Z1f9 SpOk.nil) mixed InlOk.nil Tryz.func29 Z1t3 h
noncomputable def Z2s : List D → Option D
 | [.agg [.list a0_0n a0_0c a0_0],.agg [.list a1_0n a1_0c a1_0]] => Zze M a0_0n a0_0c a0_0 a1_0n a1_0c a1_0
 | _ => none
theorem Z1fb : ∀ ds d,Z2s ds = some d → DataSem Tg 29 ds d := by
 intro ds d h
 unfold Z2s at h
 split at h
 ·exact Z1t4 ((Z1n6 M _ _ _ _ _ _).trans h)
 ·cases h
end Go.Ev