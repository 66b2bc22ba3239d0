/- Functions of the given program in plain form,printed: each with the proof that it is what the evaluator comes to,and that the program function returns what it says. No conditions. -/
import Derived.Test.YtnghcoghbbapgaaGreatDoorEzH2
import Derived.Test.YtnghcoghbbapgaaGreatDoorEzHz
import Derived.Test.YtnghcoghbbapgaaGreatDoorEzHs
set_option linter.unusedVariables false
set_option maxRecDepth 100000
namespace Go.Ev
open Go Go.Proofs
def Zp : FnH := ⟨[(8,⟨(bm 226 100),[(6,1)],(some 3)⟩),(16,⟨(bm 3424 100),[],(some 5)⟩)],[(14,⟨(bm 352 100),[],(some 4)⟩),(17,⟨(bm 3424 100),[],(some 5)⟩)]⟩
noncomputable def Z10 (Z1 Z2 Z3 Z4 Z6 Z9 Zg Zm Zn : List D → Option D) : Hints := ⟨[(10,Z1),(11,Z2),(13,Z3),(22,Z4),(28,Z6),(29,Z9),(33,Zg),(34,Zm),(35,Zn)],[],[]⟩
noncomputable def Z8z (Z1 Z2 Z3 Z4 Z6 Z9 Zg Zm Zn : List D → Option D) (m n0 : Nat) (Zq : Nat) (Zv : Option Nat) (Zz : List D) (Zy : Nat) (Z11 : Int) (Z13 : Nat) (Z1d : Option Nat) (Z1q : List D) (Z4t : List D) (Zho : Nat) (Z6b : List D) : Option D :=
 Z1k (bm 226 100) 0 3 (codeK Tg (Z10 Z1 Z2 Z3 Z4 Z6 Z9 Zg Zm Zn).sp ⟨0,[],false,[]⟩ (inlK Tg (Z10 Z1 Z2 Z3 Z4 Z6 Z9 Zg Zm Zn) m 4) m Zp (subc [1,1,1,1,1,0,1,0,0] (bodyOf Tryz.f6))) n0 ⟨[Jk,(AV.d (D.list Zq Zv Zz)),Jk,Jk,Jk,(AV.ptr 1 0),(AV.sl 2 0 Zy none 1),(AV.d (D.v (.int .i64 Z11))),Jk,Jk,Jk,Jk,Jk,Jk,Jk,Jk,Jk,Jk,Jk,Jk,Jk,Jk,Jk,Jk,Jk,Jk,Jk,Jk,Jk,Jk,Jk,Jk,Jk,Jk,Jk,Jk,Jk,Jk,Jk,Jk,Jk,Jk,Jk,Jk,Jk,Jk,Jk,Jk,Jk,Jk,Jk,Jk,Jk,Jk,Jk,Jk,Jk,Jk,Jk,Jk,Jk,Jk,Jk,Jk,Jk,Jk,Jk,Jk,Jk,Jk,Jk,Jk,Jk,Jk,Jk,Jk,Jk,Jk,Jk,Jk,Jk,Jk,Jk,Jk,Jk,Jk,Jk,Jk,Jk,Jk,Jk,Jk,Jk,Jk,Jk,Jk,Jk,Jk,Jk,Jk],[(Blk.d 1 [(D.list Z13 Z1d Z1q)]),(Blk.d 1 Z4t),(Blk.d Zho Z6b)]⟩
  (contK Tg (Z10 Z1 Z2 Z3 Z4 Z6 Z9 Zg Zm Zn).sp ⟨0,[],false,[]⟩ (inlK Tg (Z10 Z1 Z2 Z3 Z4 Z6 Z9 Zg Zm Zn) m 4) m Zp (endK Tg Tryz.f6 endV) [.block 0,.code (subc [1,1,1,1,1,1] (bodyOf Tryz.f6))])
noncomputable def Zpa (Z1 Z2 Z3 Z4 Z6 Z9 Zg Zm Zn : List D → Option D) (m : Nat) (Z2z : Nat) (Z4j : List D) (Z3v : Nat) (Z3t : Option Nat) (Z6p : List D) (Za0 : List D) (Z91 : List D) : Option D :=
 cutK m (codeK Tg (Z10 Z1 Z2 Z3 Z4 Z6 Z9 Zg Zm Zn).sp ⟨0,[],false,[]⟩ (inlK Tg (Z10 Z1 Z2 Z3 Z4 Z6 Z9 Zg Zm Zn) m 4) m Zp (subc [1,1,1,1,1,1,1,1] (bodyOf Tryz.f6)) ⟨[Jk,Jk,Jk,Jk,Jk,(AV.ptr 1 0),(AV.d (D.list Z2z none Z4j)),Jk,(AV.ptr 3 0),Jk,Jk,Jk,Jk,Jk,Jk,Jk,Jk,Jk,Jk,Jk,Jk,Jk,Jk,Jk,Jk,Jk,Jk,Jk,Jk,Jk,Jk,Jk,Jk,Jk,Jk,Jk,Jk,Jk,Jk,Jk,Jk,Jk,Jk,Jk,Jk,Jk,Jk,Jk,Jk,Jk,Jk,Jk,Jk,Jk,Jk,Jk,Jk,Jk,Jk,Jk,Jk,Jk,Jk,Jk,Jk,Jk,Jk,Jk,Jk,Jk,Jk,Jk,Jk,Jk,Jk,Jk,Jk,Jk,Jk,Jk,Jk,Jk,Jk,Jk,Jk,Jk,Jk,Jk,Jk,Jk,Jk,Jk,Jk,Jk,Jk,Jk,Jk,Jk,Jk,Jk],[(Blk.d 1 [(D.list Z3v Z3t Z6p)]),(Blk.d 1 Za0),Blk.dead,(Blk.d 1 Z91)]⟩
  (contK Tg (Z10 Z1 Z2 Z3 Z4 Z6 Z9 Zg Zm Zn).sp ⟨0,[],false,[]⟩ (inlK Tg (Z10 Z1 Z2 Z3 Z4 Z6 Z9 Zg Zm Zn) m 4) m Zp (endK Tg Tryz.f6 endV) []))
noncomputable def Z8a (Z1 Z2 Z3 Z4 Z6 Z9 Zg Zm Zn : List D → Option D) (m n0 : Nat) (Zf5 : Nat) (Zav : List D) (Zic : Int) (Zug : Nat) (Zn0 : Option Nat) (Zq7 : List D) (Zpc : List D) (Zh1 : List D) (Zrj : List D) : Option D :=
 Z1k (bm 3424 100) 0 5 (codeK Tg (Z10 Z1 Z2 Z3 Z4 Z6 Z9 Zg Zm Zn).sp ⟨0,[],false,[]⟩ (inlK Tg (Z10 Z1 Z2 Z3 Z4 Z6 Z9 Zg Zm Zn) m 4) m Zp (subc [1,1,1,1,1,1,1,1,1,0,1,0,0] (bodyOf Tryz.f6))) n0 ⟨[Jk,Jk,Jk,Jk,Jk,(AV.ptr 1 0),(AV.d (D.list Zf5 none Zav)),Jk,(AV.ptr 3 0),Jk,(AV.ptr 4 0),(AV.d (D.v (.int .i64 Zic))),Jk,Jk,Jk,Jk,Jk,Jk,Jk,Jk,Jk,Jk,Jk,Jk,Jk,Jk,Jk,Jk,Jk,Jk,Jk,Jk,Jk,Jk,Jk,Jk,Jk,Jk,Jk,Jk,Jk,Jk,Jk,Jk,Jk,Jk,Jk,Jk,Jk,Jk,Jk,Jk,Jk,Jk,Jk,Jk,Jk,Jk,Jk,Jk,Jk,Jk,Jk,Jk,Jk,Jk,Jk,Jk,Jk,Jk,Jk,Jk,Jk,Jk,Jk,Jk,Jk,Jk,Jk,Jk,Jk,Jk,Jk,Jk,Jk,Jk,Jk,Jk,Jk,Jk,Jk,Jk,Jk,Jk,Jk,Jk,Jk,Jk,Jk,Jk],[(Blk.d 1 [(D.list Zug Zn0 Zq7)]),(Blk.d 1 Zpc),Blk.dead,(Blk.d 1 Zh1),(Blk.d 1 Zrj)]⟩
  (contK Tg (Z10 Z1 Z2 Z3 Z4 Z6 Z9 Zg Zm Zn).sp ⟨0,[],false,[]⟩ (inlK Tg (Z10 Z1 Z2 Z3 Z4 Z6 Z9 Zg Zm Zn) m 4) m Zp (endK Tg Tryz.f6 endV) [.block 2,.code (subc [1,1,1,1,1,1,1,1,1,1] (bodyOf Tryz.f6))])
noncomputable def Zbt (Z1 Z2 Z3 Z4 Z6 Z9 Zg Zm Zn : List D → Option D) (m n0 : Nat) (Zd7 : Nat) (Zis : List D) (Zit : Int) (Zgz : Nat) (Zo0 : Option Nat) (Zme : List D) (Zz4 : List D) (Z11x : List D) (Z16k : List D) : Option D :=
 cutK m (codeK Tg (Z10 Z1 Z2 Z3 Z4 Z6 Z9 Zg Zm Zn).sp ⟨0,[],false,[]⟩ (inlK Tg (Z10 Z1 Z2 Z3 Z4 Z6 Z9 Zg Zm Zn) m 4) m Zp (subc [1,1,1,1,1,1,1,1,1,0,1,0,0,1,1] (bodyOf Tryz.f6)) ⟨[Jk,Jk,Jk,Jk,Jk,(AV.ptr 1 0),(AV.d (D.list Zd7 none Zis)),Jk,(AV.ptr 3 0),Jk,(AV.ptr 4 0),(AV.d (D.v (.int .i64 Zit))),Jk,Jk,Jk,Jk,Jk,Jk,Jk,Jk,Jk,Jk,Jk,Jk,Jk,Jk,Jk,Jk,Jk,Jk,Jk,Jk,Jk,Jk,Jk,Jk,Jk,Jk,Jk,Jk,Jk,Jk,Jk,Jk,Jk,Jk,Jk,Jk,Jk,Jk,Jk,Jk,Jk,Jk,Jk,Jk,Jk,Jk,Jk,Jk,Jk,Jk,Jk,Jk,Jk,Jk,Jk,Jk,Jk,Jk,Jk,Jk,Jk,Jk,Jk,Jk,Jk,Jk,Jk,Jk,Jk,Jk,Jk,Jk,Jk,Jk,Jk,Jk,Jk,Jk,Jk,Jk,Jk,Jk,Jk,Jk,Jk,Jk,Jk,Jk],[(Blk.d 1 [(D.list Zgz Zo0 Zme)]),(Blk.d 1 Zz4),Blk.dead,(Blk.d 1 Z11x),(Blk.d 1 Z16k)]⟩
  (contK Tg (Z10 Z1 Z2 Z3 Z4 Z6 Z9 Zg Zm Zn).sp ⟨0,[],false,[]⟩ (inlK Tg (Z10 Z1 Z2 Z3 Z4 Z6 Z9 Zg Zm Zn) m 4) m Zp (endK Tg Tryz.f6 endV) [.loop (bm 3424 100) 5 (subc [1,1,1,1,1,1,1,1,1,0,1,0,0] (bodyOf Tryz.f6)) n0,.block 2,.code (subc [1,1,1,1,1,1,1,1,1,1] (bodyOf Tryz.f6))]))
theorem Zjx (Z1 Z2 Z3 Z4 Z6 Z9 Zg Zm Zn : List D → Option D) (m n0 : Nat) (Zd7 : Nat) (Zis : List D) (Zit : Int) (Zgz : Nat) (Zo0 : Option Nat) (Zme : List D) (Zz4 : List D) (Z11x : List D) (Z16k : List D) : Zbt Z1 Z2 Z3 Z4 Z6 Z9 Zg Zm Zn m n0 Zd7 Zis Zit Zgz Zo0 Zme Zz4 Z11x Z16k =
 (Z8a Z1 Z2 Z3 Z4 Z6 Z9 Zg Zm Zn m n0 Zd7 Zis (IntKind.wrap .i64 (Zit + (1 : Int))) Zgz Zo0 Zme Zz4 Z11x Z16k) := (Z1w m _).trans (by kernel_rfl)
theorem Z133 (Z1 Z2 Z3 Z4 Z6 Z9 Zg Zm Zn : List D → Option D) (m n0 : Nat) (Zf5 : Nat) (Zav : List D) (Zic : Int) (Zug : Nat) (Zn0 : Option Nat) (Zq7 : List D) (Zpc : List D) (Zh1 : List D) (Zrj : List D) : Z8a Z1 Z2 Z3 Z4 Z6 Z9 Zg Zm Zn m (n0 + 1) Zf5 Zav Zic Zug Zn0 Zq7 Zpc Zh1 Zrj =
 (cond (decide (Zic < (Zf5 : Int)))
 (if 0 ≤ Zic ∧ Zic < (Zf5 : Int) then
 (rdI .i64 Zav[((Int.toNat Zic) * 1)]?).bind fun x44 =>
 (Z4 [(D.agg Zpc),(D.v (.int .i64 x44))]).bind fun d45 =>
 (rdL (some d45)).bind fun q46 =>
 (Z3 [(D.agg Zrj),(D.list q46.n q46.cap q46.cs)]).bind fun d47 =>
 (rdT d47).bind fun r48 =>
 if List.length r48 = 2 then
 (rdI .i64 r48[0]?).bind fun x49 =>
 (rdI .i64 r48[1]?).bind fun x50 =>
 cond (x50 == (19 : Int))
 (Zbt Z1 Z2 Z3 Z4 Z6 Z9 Zg Zm Zn m n0 Zf5 Zav Zic Zug Zn0 Zq7 Zpc Zh1 Zrj)
 ((Z6 [(D.agg Zrj),(D.list 1 (some 1) [(D.v (.int .i64 x49))])]).bind fun d51 =>
 (rdT d51).bind fun r52 =>
 if List.length r52 = 2 then
 (rdA r52[0]?).bind fun c53 =>
 (rdI .i64 r52[1]?).bind fun x54 =>
 if (List.length c53) = 1 then
 cond (x54 != (0 : Int))
 (some (D.v (.bool false)))
 (Zbt Z1 Z2 Z3 Z4 Z6 Z9 Zg Zm Zn m n0 Zf5 Zav Zic Zug Zn0 Zq7 Zpc Zh1 c53)
 else none
 else none)
 else none
 else none)
 ((Zm [(D.agg Zh1),(D.agg Zrj)]).bind fun d55 =>
 (rdI .i64 (some d55)).bind fun x56 =>
 cond (x56 == (1 : Int))
 ((Zn [(D.agg Zh1),(D.agg Zrj)]).bind fun d57 =>
 (rdB (some d57)).bind fun b58 =>
 cond b58
 ((Z1 []).bind fun d59 =>
 (rdB (some d59)).bind fun b60 =>
 some (D.v (.bool b60)))
 (some (D.v (.bool false))))
 (some (D.v (.bool false))))) := by kernel_rfl
theorem Z114 (Z1 Z2 Z3 Z4 Z6 Z9 Zg Zm Zn : List D → Option D) (m : Nat) (Z2z : Nat) (Z4j : List D) (Z3v : Nat) (Z3t : Option Nat) (Z6p : List D) (Za0 : List D) (Z91 : List D) : Zpa Z1 Z2 Z3 Z4 Z6 Z9 Zg Zm Zn m Z2z Z4j Z3v Z3t Z6p Za0 Z91 =
 (if (List.length Za0) = 1 then
 Z8a Z1 Z2 Z3 Z4 Z6 Z9 Zg Zm Zn m m Z2z Z4j (0 : Int) Z3v Z3t Z6p Za0 Z91 Za0
 else none) := (Z1w m _).trans (by kernel_rfl)
theorem Z14i (Z1 Z2 Z3 Z4 Z6 Z9 Zg Zm Zn : List D → Option D) (m n0 : Nat) (Zq : Nat) (Zv : Option Nat) (Zz : List D) (Zy : Nat) (Z11 : Int) (Z13 : Nat) (Z1d : Option Nat) (Z1q : List D) (Z4t : List D) (Zho : Nat) (Z6b : List D) : Z8z Z1 Z2 Z3 Z4 Z6 Z9 Zg Zm Zn m (n0 + 1) Zq Zv Zz Zy Z11 Z13 Z1d Z1q Z4t Zho Z6b =
 (cond (decide (Z11 < (Zq : Int)))
 (if 0 ≤ Z11 ∧ Z11 < (Zq : Int) then
 (rdI .u8 Zz[((Int.toNat Z11) * 1)]?).bind fun x12 =>
 (rdL Z4t[0]?).bind fun q13 =>
 if (q13.n : Int) = 0 then none else
 if ownB ⟨0,[],false,[]⟩ 2 = true ∧ Zho = (Zy * 1) ∧ Z2v (Zy + 1) 8 ∧ 1 = 1 then
 Z8z Z1 Z2 Z3 Z4 Z6 Z9 Zg Zm Zn m n0 Zq Zv Zz (Zy + 1) (IntKind.wrap .i64 (Z11 + (1 : Int))) Z13 Z1d Z1q Z4t ((Zy + 1) * 1) (Z6b ++ [(D.v (.int .i64 (Int.tmod (IntKind.wrap .i64 x12) (q13.n : Int))))])
 else none
 else none)
 (if (0 + (Zy * 1)) ≤ Zho then
 (Z6 [(D.agg Z4t),(D.list Zy none (cutL Zho Z6b 0 (Zy * 1)))]).bind fun d14 =>
 (rdT d14).bind fun r15 =>
 if List.length r15 = 2 then
 (rdA r15[0]?).bind fun c16 =>
 (rdI .i64 r15[1]?).bind fun x17 =>
 if (0 + (Zy * 1)) ≤ Zho then
 if (0 + (Zy * 1)) ≤ Zho then
 if (List.length c16) = 1 then
 cond (x17 != (0 : Int))
 (some (D.v (.bool false)))
 ((Zg [(D.agg Z4t),(D.list Zy none (cutL Zho Z6b 0 (Zy * 1)))]).bind fun d18 =>
 (rdA (some d18)).bind fun c19 =>
 (Z9 [(D.agg c16),(D.agg c19)]).bind fun d20 =>
 (rdB (some d20)).bind fun b21 =>
 cond (!b21)
 (some (D.v (.bool false)))
 (Zpa Z1 Z2 Z3 Z4 Z6 Z9 Zg Zm Zn m Zy (cutL Zho Z6b 0 (Zy * 1)) Z13 Z1d Z1q Z4t c16))
 else none
 else none
 else none
 else none
 else none)) := by kernel_rfl
noncomputable def Zbu (Z1 Z2 Z3 Z4 Z6 Z9 Zg Zm Zn : List D → Option D) (m : Nat) (a0_0n : Nat) (a0_0c : Option Nat) (a0_0 : List D) (a1n : Nat) (a1c : Option Nat) (a1 : List D) : Option D :=
 cond (decide ((a1n : Int) > (12 : Int)))
 ((Z1 []).bind fun d1 =>
 (rdB (some d1)).bind fun b2 =>
 some (D.v (.bool b2)))
 ((Z2 [(D.agg [(D.list a0_0n a0_0c a0_0)])]).bind fun d3 =>
 (rdA (some d3)).bind fun c4 =>
 if (List.length c4) = 1 then
 (rdL c4[0]?).bind fun q5 =>
 cond ((q5.n : Int) == (0 : Int))
 ((Z1 []).bind fun d6 =>
 (rdB (some d6)).bind fun b7 =>
 some (D.v (.bool b7)))
 (Z8z Z1 Z2 Z3 Z4 Z6 Z9 Zg Zm Zn m m a1n a1c a1 0 (0 : Int) a0_0n a0_0c a0_0 c4 0 [])
 else none)
theorem Z16h (Z1 Z2 Z3 Z4 Z6 Z9 Zg Zm Zn : List D → Option D) (m : Nat) (a0_0n : Nat) (a0_0c : Option Nat) (a0_0 : List D) (a1n : Nat) (a1c : Option Nat) (a1 : List D) : funD Tg (Z10 Z1 Z2 Z3 Z4 Z6 Z9 Zg Zm Zn) m 4 Zp Tryz.f6 [(D.agg [(D.list a0_0n a0_0c a0_0)]),(D.list a1n a1c a1)] = Zbu Z1 Z2 Z3 Z4 Z6 Z9 Zg Zm Zn m a0_0n a0_0c a0_0 a1n a1c a1 := by kernel_rfl
theorem Z1aq : Enters Tg 6 := ⟨Tryz.f6,Tryz.func6,by kernel_rfl,by kernel_rfl⟩
theorem Z1ar {ds : List D} {d : D} (h : funD Tg (Z10 Z12 Z16 Z1z Z26 Z21 Z2s Z4w Z52 Z6h) M 4 Zp Tryz.f6 ds = some d) : DataSem Tg 6 ds d := Z5 (H := (Z10 Z12 Z16 Z1z Z26 Z21 Z2s Z4w Z52 Z6h)) (SpOk.cons Z113 (SpOk.cons Z13y (SpOk.cons Z1fe (SpOk.cons Z1f6 (SpOk.cons Z18c (SpOk.cons Z1fb (SpOk.cons Z1n0 (SpOk.cons Z1f9 (SpOk.cons Z1tm SpOk.nil))))))))) mixed InlOk.nil Tryz.func6 Z1aq h
noncomputable def Zir : List D → Option D
 | [.agg [.list a0_0n a0_0c a0_0],.list a1n a1c a1] => Zbu Z12 Z16 Z1z Z26 Z21 Z2s Z4w Z52 Z6h M a0_0n a0_0c a0_0 a1n a1c a1
 | _ => none
theorem Z1as : ∀ ds d,Zir ds = some d → DataSem Tg 6 ds d := by
 intro ds d h
 unfold Zir at h
 split at h
 ·exact Z1ar ((Z16h Z12 Z16 Z1z Z26 Z21 Z2s Z4w Z52 Z6h M _ _ _ _ _ _).trans h)
 ·cases h
end Go.Ev