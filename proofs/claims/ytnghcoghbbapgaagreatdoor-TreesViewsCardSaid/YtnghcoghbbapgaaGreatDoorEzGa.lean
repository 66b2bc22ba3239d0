/- Functions of the given program in plain form,printed: each with the proof that it is what the evaluator comes to,and that the program function returns what it says. No conditions. -/
import Derived.Test.YtnghcoghbbapgaaGreatDoorEzG5
set_option linter.unusedVariables false
set_option maxRecDepth 100000
namespace Go.Ev
open Go Go.Proofs
def Z3n : FnH := ⟨[(4,⟨(bm 35 33),[],(some 0)⟩)],[(3,⟨(bm 3 33),[],(some 0)⟩)]⟩
noncomputable def Z6w : Hints := ⟨[],[],[]⟩
noncomputable def Z18g (m : Nat) (Z2z : Nat) (Z4j : Option Nat) (Z3v : List D) (Z3t : Nat) (Z6p : Option Nat) (Za0 : List D) : Option D :=
 cutK m (codeK Tg Z6w.sp ⟨0,[],false,[]⟩ (inlK Tg Z6w m 4) m Z3n (subc [1,1] (bodyOf Tryz.f19)) ⟨[(AV.d (D.list Z2z Z4j Z3v)),(AV.d (D.list Z3t Z6p Za0)),Jk,Jk,Jk,Jk,Jk,Jk,Jk,Jk,Jk,Jk,Jk,Jk,Jk,Jk,Jk,Jk,Jk,Jk,Jk,Jk,Jk,Jk,Jk,Jk,Jk,Jk,Jk,Jk,Jk,Jk,Jk],[]⟩
  (contK Tg Z6w.sp ⟨0,[],false,[]⟩ (inlK Tg Z6w m 4) m Z3n (endK Tg Tryz.f19 endV) []))
noncomputable def Zrq (m n0 : Nat) (Zq : Nat) (Zv : Option Nat) (Zz : List D) (Zy : Nat) (Z11 : Option Nat) (Z13 : List D) (Z1d : Int) : Option D :=
 Z1k (bm 35 33) 0 0 (codeK Tg Z6w.sp ⟨0,[],false,[]⟩ (inlK Tg Z6w m 4) m Z3n (subc [1,1,0,1,0,0] (bodyOf Tryz.f19))) n0 ⟨[(AV.d (D.list Zq Zv Zz)),(AV.d (D.list Zy Z11 Z13)),Jk,Jk,Jk,(AV.d (D.v (.int .i64 Z1d))),Jk,Jk,Jk,Jk,Jk,Jk,Jk,Jk,Jk,Jk,Jk,Jk,Jk,Jk,Jk,Jk,Jk,Jk,Jk,Jk,Jk,Jk,Jk,Jk,Jk,Jk,Jk],[]⟩
  (contK Tg Z6w.sp ⟨0,[],false,[]⟩ (inlK Tg Z6w m 4) m Z3n (endK Tg Tryz.f19 endV) [.block 0,.code (subc [1,1,1] (bodyOf Tryz.f19))])
theorem Z1k0 (m n0 : Nat) (Zq : Nat) (Zv : Option Nat) (Zz : List D) (Zy : Nat) (Z11 : Option Nat) (Z13 : List D) (Z1d : Int) : Zrq m (n0 + 1) Zq Zv Zz Zy Z11 Z13 Z1d =
 (cond (decide (Z1d < (Zq : Int)))
 (if 0 ≤ Z1d ∧ Z1d < (Zq : Int) then
 (rdI .i64 Zz[((Int.toNat Z1d) * 1)]?).bind fun x6 =>
 if 0 ≤ Z1d ∧ Z1d < (Zy : Int) then
 (rdI .i64 Z13[((Int.toNat Z1d) * 1)]?).bind fun x7 =>
 cond (x6 != x7)
 (some (D.v (.bool false)))
 (Zrq m n0 Zq Zv Zz Zy Z11 Z13 (IntKind.wrap .i64 (Z1d + (1 : Int))))
 else none
 else none)
 (some (D.v (.bool true)))) := by kernel_rfl
theorem Z1hf (m : Nat) (Z2z : Nat) (Z4j : Option Nat) (Z3v : List D) (Z3t : Nat) (Z6p : Option Nat) (Za0 : List D) : Z18g m Z2z Z4j Z3v Z3t Z6p Za0 =
 (Zrq m m Z2z Z4j Z3v Z3t Z6p Za0 (0 : Int)) := (Z1w m _).trans (by kernel_rfl)
noncomputable def Zzd (m : Nat) (a0n : Nat) (a0c : Option Nat) (a0 : List D) (a1n : Nat) (a1c : Option Nat) (a1 : List D) : Option D :=
 cond ((a0n : Int) != (a1n : Int))
 (some (D.v (.bool false)))
 (capO (a0c) fun n1 =>
 cond ((n1 : Int) != (a0n : Int))
 (some (D.v (.bool false)))
 (Z18g m a0n a0c a0 a1n a1c a1))
theorem Z1n5 (m : Nat) (a0n : Nat) (a0c : Option Nat) (a0 : List D) (a1n : Nat) (a1c : Option Nat) (a1 : List D) : funD Tg Z6w m 4 Z3n Tryz.f19 [(D.list a0n a0c a0),(D.list a1n a1c a1)] = Zzd m a0n a0c a0 a1n a1c a1 := by kernel_rfl
theorem Z1t0 : Enters Tg 19 := ⟨Tryz.f19,Tryz.func19,by kernel_rfl,by kernel_rfl⟩
theorem Z1t1 {ds : List D} {d : D} (h : funD Tg Z6w M 4 Z3n Tryz.f19 ds = some d) : DataSem Tg 19 ds d := Z5 (H := Z6w) SpOk.nil mixed InlOk.nil Tryz.func19 Z1t0 h
noncomputable def Z4g : List D → Option D
 | [.list a0n a0c a0,.list a1n a1c a1] => Zzd M a0n a0c a0 a1n a1c a1
 | _ => none
theorem Z1t2 : ∀ ds d,Z4g ds = some d → DataSem Tg 19 ds d := by
 intro ds d h
 unfold Z4g at h
 split at h
 ·exact Z1t1 ((Z1n5 M _ _ _ _ _ _).trans h)
 ·cases h
def Zj9 : FnH := ⟨[],[]⟩
noncomputable def Z18h : Hints := ⟨[(34,Z52)],[],[]⟩
noncomputable def Zze (m : Nat) (a0_0n : Nat) (a0_0c : Option Nat) (a0_0 : List D) (a1_0n : Nat) (a1_0c : Option Nat) (a1_0 : List D) : Option D :=
 (Z52 [(D.agg [(D.list a0_0n a0_0c a0_0)]),(D.agg [(D.list a1_0n a1_0c a1_0)])]).bind fun d1 =>
 (rdI .i64 (some d1)).bind fun x2 =>
 cond (x2 == (1 : Int))
 (capO (a0_0c) fun n3 =>
 some (D.v (.bool ((n3 : Int) == (a0_0n : Int)))))
 (some (D.v (.bool false)))
theorem Z1n6 (m : Nat) (a0_0n : Nat) (a0_0c : Option Nat) (a0_0 : List D) (a1_0n : Nat) (a1_0c : Option Nat) (a1_0 : List D) : funD Tg Z18h m 4 Zj9 Tryz.f29 [(D.agg [(D.list a0_0n a0_0c a0_0)]),(D.agg [(D.list a1_0n a1_0c a1_0)])] = Zze m a0_0n a0_0c a0_0 a1_0n a1_0c a1_0 := by kernel_rfl
theorem Z1t3 : Enters Tg 29 := ⟨Tryz.f29,Tryz.func29,by kernel_rfl,by kernel_rfl⟩
theorem Z1t4 {ds : List D} {d : D} (h : funD Tg Z18h M 4 Zj9 Tryz.f29 ds = some d) : DataSem Tg 29 ds d := Z5 (H := Z18h) (SpOk.cons Z1f9 SpOk.nil) mixed InlOk.nil Tryz.func29 Z1t3 h
noncomputable def Z2s : List D → Option D
 | [.agg [.list a0_0n a0_0c a0_0],.agg [.list a1_0n a1_0c a1_0]] => Zze M a0_0n a0_0c a0_0 a1_0n a1_0c a1_0
 | _ => none
theorem Z1fb : ∀ ds d,Z2s ds = some d → DataSem Tg 29 ds d := by
 intro ds d h
 unfold Z2s at h
 split at h
 ·exact Z1t4 ((Z1n6 M _ _ _ _ _ _).trans h)
 ·cases h
end Go.Ev