/- Functions of the given program in plain form,printed: each with the proof that it is what the evaluator comes to,and that the program function returns what it says. No conditions. -/
import Derived.Test.YthakkigkdhaihaaGreatDoorEzG3
import Derived.Test.YthakkigkdhaihaaGreatDoorEzFr
set_option linter.unusedVariables false
set_option maxRecDepth 100000
namespace Go.Ev
open Go Go.Proofs
def Z2f : FnH := ⟨[(6,⟨(bm 176 29),[],none,none⟩)],[(9,⟨(bm 128 29),[],(some 3),none⟩)]⟩
def Zfl : FnH := ⟨[],[]⟩
def Z3w : FnH := ⟨[(2,⟨(bm 14353 27),[],(some 1),none⟩)],[]⟩
noncomputable def Z21 : Hints := ⟨[(44,Z2v),(105,Z2b),(106,Z1f)],[(45,Tryz.f45,Zfl),(104,Tryz.f104,Z3w)],[]⟩
noncomputable def Z2s (m n0 : Nat) (Z2h : Nat) (Z3b : Option Nat) (Z25 : List D) (Z2p : Int) (Z1q : Int) (Z48 : Nat) (Z49 : Option Nat) (Z4p : List D) (Z57 : Bool) (Z6o : Bool) (Z2l : Bool) (Z2k : Nat) (Z3o : List D) (Z3y : Nat) (Z45 : List D) : Option D :=
 Z26 (bm 14353 27) 6 7 (codeK Tg Z21.sp ⟨6,[0,1,3,4],true,[]⟩ (inlK Tg Z21 m 3) m Z3w (subc [1,1,0,0] (bodyOf Tryz.f104))) n0 ⟨[(AV.yld 5),Jk,Jk,Jk,(AV.ptr 6 0),Jk,Jk,Jk,Jk,Jk,Jk,(AV.d (D.list Z2h Z3b Z25)),(AV.d (D.v (.int .i64 Z2p))),(AV.d (D.v (.int .i64 Z1q))),Jk,Jk,Jk,Jk,Jk,Jk,Jk,Jk,Jk,Jk,Jk,Jk,Jk],[(Blk.d 4 [(D.list Z48 Z49 Z4p),(D.v (.bool Z57)),(D.v (.bool Z6o)),(D.v (.bool Z2l))]),(Blk.d Z2k Z3o),(Blk.a 1 [(AV.sl 1 0 Z3y (some Z3y) 3)]),(Blk.d 1 [(D.list Z2h Z3b Z25)]),(Blk.d 4 [(D.list Z48 Z49 Z4p),(D.v (.bool Z57)),(D.v (.bool Z6o)),(D.v (.bool Z2l))]),(Blk.loop 0 none [Jk,Jk,Jk,Jk,(AV.d (D.list 0 (some 0) [])),(AV.d zI),Jk,(AV.ptr 2 0),Jk,Jk,Jk,Jk,Jk,Jk,Jk,Jk,Jk,Jk,Jk,Jk,Jk,Jk,Jk,Jk,Jk,Jk,Jk,Jk,Jk] [22,23] (subc [1,1,1,0,1,0,0] (bodyOf Tryz.f8)) (subc [1,1,1,0,1,0,1] (bodyOf Tryz.f8)) Z2f),(Blk.d 3 Z45)]⟩
  (contK Tg Z21.sp ⟨6,[0,1,3,4],true,[]⟩ (inlK Tg Z21 m 3) m Z3w (endK Tg Tryz.f104 (Zmm 5 29 (contK Tg Z21.sp ⟨0,[],false,[]⟩ (inlK Tg Z21 m 4) m Z2f (endK Tg Tryz.f8 endF) [.block 0,.code (subc [1,1,1,1] (bodyOf Tryz.f8))]))) [.block 0])
noncomputable def Zkr (m : Nat) (Z3v : Nat) (Z4x : Option Nat) (Z44 : List D) (Z5s : Bool) (Z5q : Bool) (Z81 : Bool) (Z6g : Nat) (Z8e : List D) (Z6y : Nat) (Ze7 : Nat) : Option D :=
 cutK m (codeK Tg Z21.sp ⟨0,[],false,[]⟩ (inlK Tg Z21 m 4) m Z2f (subc [1,1,1,1] (bodyOf Tryz.f8)) ⟨[Jk,Jk,Jk,Jk,Jk,Jk,Jk,(AV.ptr 2 0),Jk,Jk,Jk,Jk,Jk,Jk,Jk,Jk,Jk,Jk,Jk,Jk,Jk,Jk,Jk,Jk,Jk,Jk,Jk,Jk,Jk],[(Blk.d 4 [(D.list Z3v Z4x Z44),(D.v (.bool Z5s)),(D.v (.bool Z5q)),(D.v (.bool Z81))]),(Blk.d Z6g Z8e),(Blk.a 1 [(AV.sl 1 0 Z6y (some Ze7) 3)])]⟩
  (contK Tg Z21.sp ⟨0,[],false,[]⟩ (inlK Tg Z21 m 4) m Z2f (endK Tg Tryz.f8 endF) []))
theorem Zrh (m : Nat) (Z3v : Nat) (Z4x : Option Nat) (Z44 : List D) (Z5s : Bool) (Z5q : Bool) (Z81 : Bool) (Z6g : Nat) (Z8e : List D) (Z6y : Nat) (Ze7 : Nat) : Zkr m Z3v Z4x Z44 Z5s Z5q Z81 Z6g Z8e Z6y Ze7 =
 (if (0 + (Z6y * 3)) ≤ Z6g then
 some (D.tup [(D.list Z6y (some Ze7) (cutL Z6g Z8e 0 (Z6y * 3))),zI])
 else none) := (Z12 m _).trans (by kernel_rfl)
theorem Zct (m n0 : Nat) (Z2h : Nat) (Z3b : Option Nat) (Z25 : List D) (Z2p : Int) (Z1q : Int) (Z48 : Nat) (Z49 : Option Nat) (Z4p : List D) (Z57 : Bool) (Z6o : Bool) (Z2l : Bool) (Z2k : Nat) (Z3o : List D) (Z3y : Nat) (Z45 : List D) : Z2s m (n0 + 1) Z2h Z3b Z25 Z2p Z1q Z48 Z49 Z4p Z57 Z6o Z2l Z2k Z3o Z3y Z45 =
 (cond (decide (Z1q < Z2p))
 (if 0 ≤ Z1q ∧ Z1q < (Z2h : Int) then
 if (((Int.toNat Z1q) * 8) + 8) ≤ (List.length Z25) then
 if (List.length ((List.drop ((Int.toNat Z1q) * 8) Z25).take 8)) = 8 then
 if (List.length Z45) = 3 then
 if 0 ≤ Z1q ∧ Z1q < (Z3y : Int) then
 if (List.length Z45) = 3 then
 if ((0 + ((Int.toNat Z1q) * 3)) + 3) ≤ Z2k then
 (Z1f [(D.agg Z45),(D.agg ((List.drop ((Int.toNat Z1q) * 8) Z25).take 8))]).bind fun d9 =>
 (rdA (some d9)).bind fun c10 =>
 if (List.length c10) = 3 then
 Z2s m n0 Z2h Z3b Z25 Z2p (IntKind.wrap .i64 (Z1q + (1 : Int))) Z48 Z49 Z4p Z57 Z6o Z2l Z2k (putL Z2k Z3o (0 + ((Int.toNat Z1q) * 3)) 3 Z45) Z3y c10
 else none
 else none
 else none
 else none
 else none
 else none
 else none
 else none)
 (Zkr m Z48 Z49 Z4p Z57 Z6o Z2l Z2k Z3o Z3y Z3y)) := by kernel_rfl
noncomputable def Z80 (m : Nat) (a0n : Nat) (a0c : Option Nat) (a0 : List D) (a1_0n : Nat) (a1_0c : Option Nat) (a1_0 : List D) (a1_1 : Bool) (a1_2 : Bool) (a1_3 : Bool) : Option D :=
 (Z2v [(D.list a0n a0c a0),(D.agg [(D.list a1_0n a1_0c a1_0),(D.v (.bool a1_1)),(D.v (.bool a1_2)),(D.v (.bool a1_3))])]).bind fun d1 =>
 (rdI .i64 (some d1)).bind fun x2 =>
 cond (x2 != (0 : Int))
 (none)
 (if 0 ≤ (a0n : Int) ∧ (a0n : Int) ≤ (a0n : Int) ∧ Z4y (Int.toNat (a0n : Int)) 24 then
 (Z2b [(D.v (.int .i64 (a0n : Int))),(D.agg [(D.list a1_0n a1_0c a1_0),(D.v (.bool a1_1)),(D.v (.bool a1_2)),(D.v (.bool a1_3))])]).bind fun d3 =>
 (rdA (some d3)).bind fun c4 =>
 if (List.length c4) = 3 then
 Z2s m m a0n a0c a0 (a0n : Int) (0 : Int) a1_0n a1_0c a1_0 a1_1 a1_2 a1_3 ((Int.toNat (a0n : Int)) * 3) (List.flatten (List.replicate (Int.toNat (a0n : Int)) [zI,zI,zI])) (Int.toNat (a0n : Int)) c4
 else none
 else none)
theorem Zu1 (m : Nat) (a0n : Nat) (a0c : Option Nat) (a0 : List D) (a1_0n : Nat) (a1_0c : Option Nat) (a1_0 : List D) (a1_1 : Bool) (a1_2 : Bool) (a1_3 : Bool) : funK Tg Z21.sp ⟨0,[],false,Z21.mv⟩ (inlK Tg Z21 m 4) m Z2f Tryz.f8 (List.map AV.d [(D.list a0n a0c a0),(D.agg [(D.list a1_0n a1_0c a1_0),(D.v (.bool a1_1)),(D.v (.bool a1_2)),(D.v (.bool a1_3))])]) [] endF = Z80 m a0n a0c a0 a1_0n a1_0c a1_0 a1_1 a1_2 a1_3 := by kernel_rfl
theorem Zxn : Enters Tg 8 := ⟨Tryz.f8,Tryz.func8,by kernel_rfl,by kernel_rfl⟩
noncomputable def Z5e : List D → Option D
 | [.list a0n a0c a0,.agg [.list a1_0n a1_0c a1_0,.v (.bool a1_1),.v (.bool a1_2),.v (.bool a1_3)]] => match Z80 M a0n a0c a0 a1_0n a1_0c a1_0 a1_1 a1_2 a1_3 with
  | some d => if leafs d = true then some d else none
  | none => none
 | _ => none
theorem frs_counters_All_fr : ∀ ds d,Z5e ds = some d → FreshSem Tg 8 ds d := by
 intro ds d h
 unfold Z5e at h
 split at h
 case h_2 => cases h
 split at h
 case h_2 => cases h
 rename_i hq
 split at h
 case isFalse => cases h
 rename_i hl
 cases h
 exact Z1cq (H := Z21) (SpOk.cons Z7v (SpOk.cons Z5r (SpOk.cons Z9l SpOk.nil))) mixed (Zrz (SpOk.cons Z7v (SpOk.cons Z5r (SpOk.cons Z9l SpOk.nil))) mixed (InlOk.cons Tryz.func45 Za5 (InlOk.cons Tryz.func104 Z7b InlOk.nil)) 4) Tryz.func8 Zxn hl ((Zu1 M _ _ _ _ _ _ _ _ _).trans hq)
end Go.Ev