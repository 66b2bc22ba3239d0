/- Functions of the given program in plain form,printed: each with the proof that it is what the evaluator comes to,and that the program function returns what it says. No conditions. -/
import Derived.Test.YtnghcoghbbapgaaGreatDoorEzH2
import Derived.Test.YtnghcoghbbapgaaGreatDoorEzHz
set_option linter.unusedVariables false
set_option maxRecDepth 100000
namespace Go.Ev
open Go Go.Proofs
def Z1i : FnH := ⟨[(6,⟨(bm 226 61),[(6,17)],(some 3)⟩)],[]⟩
noncomputable def Z3c (Zs Z1j Zw Z1k Z1l : List D → Option D) : Hints := ⟨[(10,Zs),(11,Z1j),(12,Zw),(13,Z1k),(14,Z1l)],[],[]⟩
noncomputable def Z7x (Zs Z1j Zw Z1k Z1l : List D → Option D) (m n0 : Nat) (Zi : Nat) (Zt : Option Nat) (Z10 : List D) (Zq : Nat) (Zu : Int) (Z1m : Nat) (Z37 : Option Nat) (Z8j : List D) (Z91 : List D) (Z1g7 : Nat) (Z133 : List D) : Option D :=
 Z2a (bm 226 61) 0 3 (codeK Tg (Z3c Zs Z1j Zw Z1k Z1l).sp ⟨0,[],false,[]⟩ (inlK Tg (Z3c Zs Z1j Zw Z1k Z1l) m 4) m Z1i (subc [1,1,1,1,0,1,0,0] (bodyOf Tryz.f3))) n0 ⟨[Jk,(AV.d (D.list Zi Zt Z10)),Jk,Jk,Jk,(AV.ptr 1 0),(AV.sl 2 0 Zq none 17),(AV.d (D.v (.int .i64 Zu))),Jk,Jk,Jk,Jk,Jk,Jk,Jk,Jk,Jk,Jk,Jk,Jk,Jk,Jk,Jk,Jk,Jk,Jk,Jk,Jk,Jk,Jk,Jk,Jk,Jk,Jk,Jk,Jk,Jk,Jk,Jk,Jk,Jk,Jk,Jk,Jk,Jk,Jk,Jk,Jk,Jk,Jk,Jk,Jk,Jk,Jk,Jk,Jk,Jk,Jk,Jk,Jk,Jk],[(Blk.d 1 [(D.list Z1m Z37 Z8j)]),(Blk.d 1 Z91),(Blk.d Z1g7 Z133)]⟩
  (contK Tg (Z3c Zs Z1j Zw Z1k Z1l).sp ⟨0,[],false,[]⟩ (inlK Tg (Z3c Zs Z1j Zw Z1k Z1l) m 4) m Z1i (endK Tg Tryz.f3 endV) [.block 0,.code (subc [1,1,1,1,1] (bodyOf Tryz.f3))])
theorem Z10z (Zs Z1j Zw Z1k Z1l : List D → Option D) (m n0 : Nat) (Zi : Nat) (Zt : Option Nat) (Z10 : List D) (Zq : Nat) (Zu : Int) (Z1m : Nat) (Z37 : Option Nat) (Z8j : List D) (Z91 : List D) (Z1g7 : Nat) (Z133 : List D) : Z7x Zs Z1j Zw Z1k Z1l m (n0 + 1) Zi Zt Z10 Zq Zu Z1m Z37 Z8j Z91 Z1g7 Z133 =
 (cond (decide (Zu < (Zi : Int)))
 (if 0 ≤ Zu ∧ Zu < (Zi : Int) then
 (rdI .u8 Z10[((Int.toNat Zu) * 1)]?).bind fun x11 =>
 (Zw [(D.v (.int .u8 x11))]).bind fun d12 =>
 (rdA (some d12)).bind fun c13 =>
 if (List.length c13) = 17 then
 if ownB ⟨0,[],false,[]⟩ 2 = true ∧ Z1g7 = (Zq * 17) ∧ Z6a (Zq + 1) 68 ∧ (List.length c13) = 17 then
 Z7x Zs Z1j Zw Z1k Z1l m n0 Zi Zt Z10 (Zq + 1) (IntKind.wrap .i64 (Zu + (1 : Int))) Z1m Z37 Z8j Z91 ((Zq + 1) * 17) (Z133 ++ c13)
 else none
 else none
 else none)
 (if (0 + (Zq * 17)) ≤ Z1g7 then
 (Z1k [(D.agg Z91),(D.list Zq none (cutL Z1g7 Z133 0 (Zq * 17)))]).bind fun d14 =>
 (rdT d14).bind fun r15 =>
 if List.length r15 = 2 then
 (rdI .i64 r15[0]?).bind fun x16 =>
 (rdI .i64 r15[1]?).bind fun x17 =>
 if (0 + (Zq * 17)) ≤ Z1g7 then
 (Z1l [(D.agg Z91),(D.list Zq none (cutL Z1g7 Z133 0 (Zq * 17)))]).bind fun d18 =>
 (rdI .i64 (some d18)).bind fun x19 =>
 cond (decide (x19 < (0 : Int)))
 (cond (x17 == (19 : Int))
 (cond (x16 == (0 : Int))
 ((Zs []).bind fun d20 =>
 (rdB (some d20)).bind fun b21 =>
 some (D.v (.bool b21)))
 (some (D.v (.bool false))))
 (some (D.v (.bool false))))
 (cond (x17 == (0 : Int))
 (cond (x16 == x19)
 ((Zs []).bind fun d22 =>
 (rdB (some d22)).bind fun b23 =>
 some (D.v (.bool b23)))
 (some (D.v (.bool false))))
 (some (D.v (.bool false))))
 else none
 else none
 else none)) := by kernel_rfl
noncomputable def Zcx (Zs Z1j Zw Z1k Z1l : List D → Option D) (m : Nat) (a0_0n : Nat) (a0_0c : Option Nat) (a0_0 : List D) (a1n : Nat) (a1c : Option Nat) (a1 : List D) : Option D :=
 cond (decide ((a1n : Int) > (70 : Int)))
 ((Zs []).bind fun d1 =>
 (rdB (some d1)).bind fun b2 =>
 some (D.v (.bool b2)))
 ((Z1j [(D.agg [(D.list a0_0n a0_0c a0_0)])]).bind fun d3 =>
 (rdA (some d3)).bind fun c4 =>
 if (List.length c4) = 1 then
 Z7x Zs Z1j Zw Z1k Z1l m m a1n a1c a1 0 (0 : Int) a0_0n a0_0c a0_0 c4 0 []
 else none)
theorem Z11i (Zs Z1j Zw Z1k Z1l : List D → Option D) (m : Nat) (a0_0n : Nat) (a0_0c : Option Nat) (a0_0 : List D) (a1n : Nat) (a1c : Option Nat) (a1 : List D) : funD Tg (Z3c Zs Z1j Zw Z1k Z1l) m 4 Z1i Tryz.f3 [(D.agg [(D.list a0_0n a0_0c a0_0)]),(D.list a1n a1c a1)] = Zcx Zs Z1j Zw Z1k Z1l m a0_0n a0_0c a0_0 a1n a1c a1 := by kernel_rfl
theorem Z15m : Enters Tg 3 := ⟨Tryz.f3,Tryz.func3,by kernel_rfl,by kernel_rfl⟩
theorem Z15n {ds : List D} {d : D} (h : funD Tg (Z3c Z3h Z45 Z18 Z47 Z46) M 4 Z1i Tryz.f3 ds = some d) : DataSem Tg 3 ds d := Z0 (H := (Z3c Z3h Z45 Z18 Z47 Z46)) (SpOk.cons Z1df (SpOk.cons Z1fl (SpOk.cons Zqp (SpOk.cons Z1g1 (SpOk.cons Z1fx SpOk.nil))))) mixed InlOk.nil Tryz.func3 Z15m h
noncomputable def Zjy : List D → Option D
 | [.agg [.list a0_0n a0_0c a0_0],.list a1n a1c a1] => Zcx Z3h Z45 Z18 Z47 Z46 M a0_0n a0_0c a0_0 a1n a1c a1
 | _ => none
theorem Z15o : ∀ ds d,Zjy ds = some d → DataSem Tg 3 ds d := by
 intro ds d h
 unfold Zjy at h
 split at h
 ·exact Z15n ((Z11i Z3h Z45 Z18 Z47 Z46 M _ _ _ _ _ _).trans h)
 ·cases h
end Go.Ev