/- Functions of the given program in plain form,printed: each with the proof that it is what the evaluator comes to,and that the program function returns what it says. No conditions. -/
import Derived.Test.YtnghcoghbbapgaaGreatDoorEzH1
import Derived.Test.YtnghcoghbbapgaaGreatDoorEzH3
import Derived.Test.YtnghcoghbbapgaaGreatDoorEzHz
set_option linter.unusedVariables false
set_option maxRecDepth 100000
namespace Go.Ev
open Go Go.Proofs
def Z27 : FnH := ⟨[],[(3,⟨(bm 12 143),[],(some 2)⟩),(13,⟨(bm 40 143),[],(some 3)⟩)]⟩
noncomputable def Z3i (Z1 Z2 Z24 Z1p Z25 Z6 Z9 Z19 Z1h Z1a : List D → Option D) : Hints := ⟨[(10,Z1),(11,Z2),(25,Z24),(26,Z1p),(27,Z25),(28,Z6),(29,Z9),(30,Z19),(31,Z1h),(32,Z1a)],[],[]⟩
noncomputable def Zll (Z1 Z2 Z24 Z1p Z25 Z6 Z9 Z19 Z1h Z1a : List D → Option D) (m : Nat) (Z2z : Nat) (Z4j : Option Nat) (Z3v : List D) (Z3t : List D) : Option D :=
 cutK m (codeK Tg (Z3i Z1 Z2 Z24 Z1p Z25 Z6 Z9 Z19 Z1h Z1a).sp ⟨0,[],false,[]⟩ (inlK Tg (Z3i Z1 Z2 Z24 Z1p Z25 Z6 Z9 Z19 Z1h Z1a) m 4) m Z27 (subc [1,1] (bodyOf Tryz.f5)) ⟨[Jk,Jk,(AV.ptr 0 0),(AV.ptr 1 0),Jk,Jk,Jk,Jk,Jk,Jk,Jk,Jk,Jk,Jk,Jk,Jk,Jk,Jk,Jk,Jk,Jk,Jk,Jk,Jk,Jk,Jk,Jk,Jk,Jk,Jk,Jk,Jk,Jk,Jk,Jk,Jk,Jk,Jk,Jk,Jk,Jk,Jk,Jk,Jk,Jk,Jk,Jk,Jk,Jk,Jk,Jk,Jk,Jk,Jk,Jk,Jk,Jk,Jk,Jk,Jk,Jk,Jk,Jk,Jk,Jk,Jk,Jk,Jk,Jk,Jk,Jk,Jk,Jk,Jk,Jk,Jk,Jk,Jk,Jk,Jk,Jk,Jk,Jk,Jk,Jk,Jk,Jk,Jk,Jk,Jk,Jk,Jk,Jk,Jk,Jk,Jk,Jk,Jk,Jk,Jk,Jk,Jk,Jk,Jk,Jk,Jk,Jk,Jk,Jk,Jk,Jk,Jk,Jk,Jk,Jk,Jk,Jk,Jk,Jk,Jk,Jk,Jk,Jk,Jk,Jk,Jk,Jk,Jk,Jk,Jk,Jk,Jk,Jk,Jk,Jk,Jk,Jk,Jk,Jk,Jk,Jk,Jk,Jk],[(Blk.d 1 [(D.list Z2z Z4j Z3v)]),(Blk.d 20 Z3t)]⟩
  (contK Tg (Z3i Z1 Z2 Z24 Z1p Z25 Z6 Z9 Z19 Z1h Z1a).sp ⟨0,[],false,[]⟩ (inlK Tg (Z3i Z1 Z2 Z24 Z1p Z25 Z6 Z9 Z19 Z1h Z1a) m 4) m Z27 (endK Tg Tryz.f5 endV) []))
noncomputable def Za1 (Z1 Z2 Z24 Z1p Z25 Z6 Z9 Z19 Z1h Z1a : List D → Option D) (m : Nat) (Zd7 : Nat) (Zis : Option Nat) (Zit : List D) (Zgz : List D) (Zo0 : List D) : Option D :=
 cutK m (codeK Tg (Z3i Z1 Z2 Z24 Z1p Z25 Z6 Z9 Z19 Z1h Z1a).sp ⟨0,[],false,[]⟩ (inlK Tg (Z3i Z1 Z2 Z24 Z1p Z25 Z6 Z9 Z19 Z1h Z1a) m 4) m Z27 (subc [1,1,1,1,1] (bodyOf Tryz.f5)) ⟨[Jk,Jk,Jk,(AV.ptr 1 0),Jk,(AV.ptr 2 0),Jk,Jk,Jk,Jk,Jk,Jk,Jk,Jk,Jk,Jk,Jk,Jk,Jk,Jk,Jk,Jk,Jk,Jk,Jk,Jk,Jk,Jk,Jk,Jk,Jk,Jk,Jk,Jk,Jk,Jk,Jk,Jk,Jk,Jk,Jk,Jk,Jk,Jk,Jk,Jk,Jk,Jk,Jk,Jk,Jk,Jk,Jk,Jk,Jk,Jk,Jk,Jk,Jk,Jk,Jk,Jk,Jk,Jk,Jk,Jk,Jk,Jk,Jk,Jk,Jk,Jk,Jk,Jk,Jk,Jk,Jk,Jk,Jk,Jk,Jk,Jk,Jk,Jk,Jk,Jk,Jk,Jk,Jk,Jk,Jk,Jk,Jk,Jk,Jk,Jk,Jk,Jk,Jk,Jk,Jk,Jk,Jk,Jk,Jk,Jk,Jk,Jk,Jk,Jk,Jk,Jk,Jk,Jk,Jk,Jk,Jk,Jk,Jk,Jk,Jk,Jk,Jk,Jk,Jk,Jk,Jk,Jk,Jk,Jk,Jk,Jk,Jk,Jk,Jk,Jk,Jk,Jk,Jk,Jk,Jk,Jk,Jk],[(Blk.d 1 [(D.list Zd7 Zis Zit)]),(Blk.d 20 Zgz),(Blk.d 1 Zo0)]⟩
  (contK Tg (Z3i Z1 Z2 Z24 Z1p Z25 Z6 Z9 Z19 Z1h Z1a).sp ⟨0,[],false,[]⟩ (inlK Tg (Z3i Z1 Z2 Z24 Z1p Z25 Z6 Z9 Z19 Z1h Z1a) m 4) m Z27 (endK Tg Tryz.f5 endV) []))
theorem Z16j (Z1 Z2 Z24 Z1p Z25 Z6 Z9 Z19 Z1h Z1a : List D → Option D) (m : Nat) (Zd7 : Nat) (Zis : Option Nat) (Zit : List D) (Zgz : List D) (Zo0 : List D) : Za1 Z1 Z2 Z24 Z1p Z25 Z6 Z9 Z19 Z1h Z1a m Zd7 Zis Zit Zgz Zo0 =
 ((rdL Zo0[0]?).bind fun q17 =>
 cond ((q17.n : Int) == (0 : Int))
 ((Z1 []).bind fun d18 =>
 (rdB (some d18)).bind fun b19 =>
 some (D.v (.bool b19)))
 ((rdL Zgz[18]?).bind fun q20 =>
 (rdL Zo0[0]?).bind fun q21 =>
 if (q21.n : Int) = 0 then none else
 (rdL Zgz[18]?).bind fun q22 =>
 (Z19 [(D.agg Zo0),(D.v (.int .i64 (Int.tmod (q20.n : Int) (q21.n : Int)))),(D.list q22.n q22.cap q22.cs)]).bind fun d23 =>
 (rdT d23).bind fun r24 =>
 if List.length r24 = 2 then
 (rdA r24[0]?).bind fun c25 =>
 (rdI .i64 r24[1]?).bind fun x26 =>
 if (List.length c25) = 1 then
 (rdL Zgz[18]?).bind fun q27 =>
 (Z1h [(D.list q27.n q27.cap q27.cs)]).bind fun d28 =>
 (rdI .i64 (some d28)).bind fun x29 =>
 cond (x29 != (0 : Int))
 (cond (x26 == x29)
 ((rdL c25[0]?).bind fun q30 =>
 cond ((q30.n : Int) == (0 : Int))
 ((Z1 []).bind fun d31 =>
 (rdB (some d31)).bind fun b32 =>
 some (D.v (.bool b32)))
 (some (D.v (.bool false))))
 (some (D.v (.bool false))))
 (cond (x26 == (0 : Int))
 ((rdL Zgz[18]?).bind fun q33 =>
 (Z1a [(D.agg Zo0),(D.v (.int .i64 (Int.tmod (q20.n : Int) (q21.n : Int)))),(D.list q33.n q33.cap q33.cs)]).bind fun d34 =>
 (rdA (some d34)).bind fun c35 =>
 (Z9 [(D.agg c25),(D.agg c35)]).bind fun d36 =>
 (rdB (some d36)).bind fun b37 =>
 cond b37
 ((Z1 []).bind fun d38 =>
 (rdB (some d38)).bind fun b39 =>
 some (D.v (.bool b39)))
 (some (D.v (.bool false))))
 (some (D.v (.bool false))))
 else none
 else none)) := (Z1w m _).trans (by kernel_rfl)
theorem Z19q (Z1 Z2 Z24 Z1p Z25 Z6 Z9 Z19 Z1h Z1a : List D → Option D) (m : Nat) (Z2z : Nat) (Z4j : Option Nat) (Z3v : List D) (Z3t : List D) : Zll Z1 Z2 Z24 Z1p Z25 Z6 Z9 Z19 Z1h Z1a m Z2z Z4j Z3v Z3t =
 ((Z2 [(D.agg [(D.list Z2z Z4j Z3v)])]).bind fun d7 =>
 (rdA (some d7)).bind fun c8 =>
 if (List.length c8) = 1 then
 (Z24 [(D.agg c8),(D.agg Z3t)]).bind fun d9 =>
 (rdT d9).bind fun r10 =>
 if List.length r10 = 3 then
 (rdA r10[0]?).bind fun c11 =>
 (rdI .i64 r10[1]?).bind fun x12 =>
 (rdI .i64 r10[2]?).bind fun x13 =>
 if (List.length c11) = 1 then
 (Z1p [(D.agg c8),(D.agg Z3t)]).bind fun d14 =>
 (rdI .i64 (some d14)).bind fun x15 =>
 cond (x15 != (0 : Int))
 (cond (x13 != x15)
 (some (D.v (.bool false)))
 ((rdL c11[0]?).bind fun q16 =>
 cond (decide ((q16.n : Int) > (0 : Int)))
 (some (D.v (.bool false)))
 (cond (x12 != (0 : Int))
 (some (D.v (.bool false)))
 (Za1 Z1 Z2 Z24 Z1p Z25 Z6 Z9 Z19 Z1h Z1a m Z2z Z4j Z3v Z3t c8))))
 ((Z25 [(D.agg c8),(D.agg Z3t)]).bind fun d40 =>
 (rdT d40).bind fun r41 =>
 if List.length r41 = 2 then
 (rdA r41[0]?).bind fun c42 =>
 (rdI .i64 r41[1]?).bind fun x43 =>
 if (List.length c42) = 1 then
 (Z6 [(D.agg c11),(D.list 1 (some 1) [(D.v (.int .i64 x12))])]).bind fun d44 =>
 (rdT d44).bind fun r45 =>
 if List.length r45 = 2 then
 (rdA r45[0]?).bind fun c46 =>
 (rdI .i64 r45[1]?).bind fun x47 =>
 if (List.length c46) = 1 then
 cond (x13 != (0 : Int))
 (some (D.v (.bool false)))
 (cond (x47 != (0 : Int))
 (some (D.v (.bool false)))
 (cond (x12 != x43)
 (some (D.v (.bool false)))
 ((Z9 [(D.agg c11),(D.agg c42)]).bind fun d48 =>
 (rdB (some d48)).bind fun b49 =>
 cond (!b49)
 (some (D.v (.bool false)))
 ((Z9 [(D.agg c46),(D.agg c8)]).bind fun d50 =>
 (rdB (some d50)).bind fun b51 =>
 cond (!b51)
 (some (D.v (.bool false)))
 (Za1 Z1 Z2 Z24 Z1p Z25 Z6 Z9 Z19 Z1h Z1a m Z2z Z4j Z3v Z3t c8)))))
 else none
 else none
 else none
 else none)
 else none
 else none
 else none) := (Z1w m _).trans (by kernel_rfl)
noncomputable def Zkd (Z1 Z2 Z24 Z1p Z25 Z6 Z9 Z19 Z1h Z1a : List D → Option D) (m : Nat) (a0_0n : Nat) (a0_0c : Option Nat) (a0_0 : List D) (a1 : List D) : Option D :=
 if (List.length a1) = 20 then
 (rdL a1[18]?).bind fun q1 =>
 cond (decide ((q1.n : Int) > (260 : Int)))
 ((Z1 []).bind fun d2 =>
 (rdB (some d2)).bind fun b3 =>
 some (D.v (.bool b3)))
 ((rdL a1[19]?).bind fun q4 =>
 cond (decide ((q4.n : Int) > (0 : Int)))
 ((Z1 []).bind fun d5 =>
 (rdB (some d5)).bind fun b6 =>
 some (D.v (.bool b6)))
 (Zll Z1 Z2 Z24 Z1p Z25 Z6 Z9 Z19 Z1h Z1a m a0_0n a0_0c a0_0 a1))
 else none
theorem Z1db (Z1 Z2 Z24 Z1p Z25 Z6 Z9 Z19 Z1h Z1a : List D → Option D) (m : Nat) (a0_0n : Nat) (a0_0c : Option Nat) (a0_0 : List D) (a1 : List D) : funD Tg (Z3i Z1 Z2 Z24 Z1p Z25 Z6 Z9 Z19 Z1h Z1a) m 4 Z27 Tryz.f5 [(D.agg [(D.list a0_0n a0_0c a0_0)]),(D.agg a1)] = Zkd Z1 Z2 Z24 Z1p Z25 Z6 Z9 Z19 Z1h Z1a m a0_0n a0_0c a0_0 a1 := by kernel_rfl
theorem Z1i6 : Enters Tg 5 := ⟨Tryz.f5,Tryz.func5,by kernel_rfl,by kernel_rfl⟩
theorem Z1i7 {ds : List D} {d : D} (h : funD Tg (Z3i Z12 Z16 Z6z Z51 Z5x Z21 Z2s Z4z Z46 Z4y) M 4 Z27 Tryz.f5 ds = some d) : DataSem Tg 5 ds d := Z5 (H := (Z3i Z12 Z16 Z6z Z51 Z5x Z21 Z2s Z4z Z46 Z4y)) (SpOk.cons Z113 (SpOk.cons Z13y (SpOk.cons Z1vv (SpOk.cons Z1es (SpOk.cons Z1ii (SpOk.cons Z18c (SpOk.cons Z1fb (SpOk.cons Z1nk (SpOk.cons Z1bd (SpOk.cons Z1nh SpOk.nil)))))))))) mixed InlOk.nil Tryz.func5 Z1i6 h
noncomputable def Zr6 : List D → Option D
 | [.agg [.list a0_0n a0_0c a0_0],.agg a1] => Zkd Z12 Z16 Z6z Z51 Z5x Z21 Z2s Z4z Z46 Z4y M a0_0n a0_0c a0_0 a1
 | _ => none
theorem Z1i8 : ∀ ds d,Zr6 ds = some d → DataSem Tg 5 ds d := by
 intro ds d h
 unfold Zr6 at h
 split at h
 ·exact Z1i7 ((Z1db Z12 Z16 Z6z Z51 Z5x Z21 Z2s Z4z Z46 Z4y M _ _ _ _).trans h)
 ·cases h
end Go.Ev