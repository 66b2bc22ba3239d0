/- Functions of the given program in plain form,printed: each with the proof that it is what the evaluator comes to,and that the program function returns what it says. No conditions. -/
import Derived.Test.YtkefahdbckjajaaGreatDoorEzGa
set_option linter.unusedVariables false
set_option maxRecDepth 100000
namespace Go.Ev
open Go Go.Proofs
def Z2e : FnH := ⟨[],[(7,⟨(bm 900 87),[],(some 2)⟩)]⟩
noncomputable def Z4b (Z4 Z2 Zi Z25 Zc Zb Z6 Zt Zx Z3a : List D → Option D) : Hints := ⟨[(16,Z4),(18,Z2),(19,Zi),(22,Z25),(23,Zc),(24,Zb),(25,Z6),(26,Zt),(27,Zx),(28,Z3a)],[],[]⟩
noncomputable def Z8l (Z4 Z2 Zi Z25 Zc Zb Z6 Zt Zx Z3a : List D → Option D) (m : Nat) (Z2y : Int) (Z4c : Int) (Z40 : Nat) (Z3k : Option Nat) (Z2j : List D) (Z6i : Nat) (Z7k : Option Nat) (Zjw : List D) (Zns : List D) : Option D :=
 cutK m (codeK Tg (Z4b Z4 Z2 Zi Z25 Zc Zb Z6 Zt Zx Z3a).sp ⟨0,[],false,[]⟩ (inlK Tg (Z4b Z4 Z2 Zi Z25 Zc Zb Z6 Zt Zx Z3a) m 4) m Z2e (subc [1,1,1,1,1,1] (bodyOf Tryz.f4)) ⟨[Jk,Jk,(AV.d (D.v (.int .u8 Z2y))),Jk,Jk,Jk,Jk,(AV.ptr 1 0),(AV.d (D.v (.int .i64 Z4c))),(AV.d (D.list Z40 Z3k Z2j)),Jk,Jk,Jk,Jk,Jk,Jk,Jk,Jk,Jk,Jk,Jk,Jk,Jk,Jk,Jk,Jk,Jk,Jk,Jk,Jk,Jk,Jk,Jk,Jk,Jk,Jk,Jk,Jk,Jk,Jk,Jk,Jk,Jk,Jk,Jk,Jk,Jk,Jk,Jk,Jk,Jk,Jk,Jk,Jk,Jk,Jk,Jk,Jk,Jk,Jk,Jk,Jk,Jk,Jk,Jk,Jk,Jk,Jk,Jk,Jk,Jk,Jk,Jk,Jk,Jk,Jk,Jk,Jk,Jk,Jk,Jk,Jk,Jk,Jk,Jk,Jk,Jk],[(Blk.d 1 [(D.list Z6i Z7k Zjw)]),(Blk.d 1 Zns)]⟩
  (contK Tg (Z4b Z4 Z2 Zi Z25 Zc Zb Z6 Zt Zx Z3a).sp ⟨0,[],false,[]⟩ (inlK Tg (Z4b Z4 Z2 Zi Z25 Zc Zb Z6 Zt Zx Z3a) m 4) m Z2e (endK Tg Tryz.f4 (fun v L => viewK L 8 v some)) []))
theorem Zpo (Z4 Z2 Zi Z25 Zc Zb Z6 Zt Zx Z3a : List D → Option D) (m : Nat) (Z2y : Int) (Z4c : Int) (Z40 : Nat) (Z3k : Option Nat) (Z2j : List D) (Z6i : Nat) (Z7k : Option Nat) (Zjw : List D) (Zns : List D) : Z8l Z4 Z2 Zi Z25 Zc Zb Z6 Zt Zx Z3a m Z2y Z4c Z40 Z3k Z2j Z6i Z7k Zjw Zns =
 (cond ((Z40 : Int) == (0 : Int))
 ((Z4 []).bind fun d19 =>
 (rdB (some d19)).bind fun b20 =>
 some (D.v (.bool b20)))
 (if (Z40 : Int) = 0 then none else
 if 0 ≤ (Int.tmod (IntKind.wrap .i64 Z2y) (Z40 : Int)) ∧ (Int.tmod (IntKind.wrap .i64 Z2y) (Z40 : Int)) < (Z40 : Int) then
 (rdI .i64 Z2j[((Int.toNat (Int.tmod (IntKind.wrap .i64 Z2y) (Z40 : Int))) * 1)]?).bind fun x21 =>
 (Zc [(D.agg Zns),(D.v (.int .i64 Z4c)),(D.v (.int .i64 x21))]).bind fun d22 =>
 (rdT d22).bind fun r23 =>
 if List.length r23 = 2 then
 (rdA r23[0]?).bind fun c24 =>
 (rdI .i64 r23[1]?).bind fun x25 =>
 if (List.length c24) = 1 then
 cond (x25 == (0 : Int))
 ((Z3a [(D.agg Zns),(D.list 1 (some 1) [(D.v (.int .i64 x21))])]).bind fun d26 =>
 (rdA (some d26)).bind fun c27 =>
 (Zx [(D.agg c24),(D.agg c27)]).bind fun d28 =>
 (rdB (some d28)).bind fun b29 =>
 cond b29
 ((Z4 []).bind fun d30 =>
 (rdB (some d30)).bind fun b31 =>
 some (D.v (.bool b31)))
 (some (D.v (.bool false))))
 (some (D.v (.bool false)))
 else none
 else none
 else none)) := (Z1y m _).trans (by kernel_rfl)
noncomputable def Z7q (Z4 Z2 Zi Z25 Zc Zb Z6 Zt Zx Z3a : List D → Option D) (m : Nat) (a0_0n : Nat) (a0_0c : Option Nat) (a0_0 : List D) (a1 : Int) (a2 : Int) : Option D :=
 (Zb [(D.agg [(D.list a0_0n a0_0c a0_0)])]).bind fun d1 =>
 (rdA (some d1)).bind fun c2 =>
 if (List.length c2) = 1 then
 (Z2 [(D.agg c2),(D.v (.int .i64 (IntKind.wrap .i64 (Int.tmod a1 (8 : Int)))))]).bind fun d3 =>
 (rdT d3).bind fun r4 =>
 if List.length r4 = 2 then
 (rdL r4[0]?).bind fun q5 =>
 (rdI .i64 r4[1]?).bind fun x6 =>
 (Zi [(D.agg c2),(D.v (.int .i64 (IntKind.wrap .i64 (Int.tmod a1 (8 : Int)))))]).bind fun d7 =>
 (rdT d7).bind fun r8 =>
 if List.length r8 = 2 then
 (rdL r8[0]?).bind fun q9 =>
 (rdI .i64 r8[1]?).bind fun x10 =>
 cond (x6 != (0 : Int))
 (some (D.v (.bool false)))
 (cond (x10 != (0 : Int))
 (some (D.v (.bool false)))
 ((Z25 [(D.agg c2),(D.v (.int .i64 (IntKind.wrap .i64 (Int.tmod a1 (8 : Int)))))]).bind fun d11 =>
 (rdL (some d11)).bind fun q12 =>
 (Z6 [(D.list q5.n q5.cap q5.cs),(D.list q12.n q12.cap q12.cs)]).bind fun d13 =>
 (rdB (some d13)).bind fun b14 =>
 cond (!b14)
 (some (D.v (.bool false)))
 ((Zt [(D.agg c2),(D.v (.int .i64 (IntKind.wrap .i64 (Int.tmod a1 (8 : Int)))))]).bind fun d15 =>
 (rdL (some d15)).bind fun q16 =>
 (Z6 [(D.list q9.n q9.cap q9.cs),(D.list q16.n q16.cap q16.cs)]).bind fun d17 =>
 (rdB (some d17)).bind fun b18 =>
 cond (!b18)
 (some (D.v (.bool false)))
 (Z8l Z4 Z2 Zi Z25 Zc Zb Z6 Zt Zx Z3a m a2 (IntKind.wrap .i64 (Int.tmod a1 (8 : Int))) q5.n q5.cap q5.cs a0_0n a0_0c a0_0 c2))))
 else none
 else none
 else none
theorem Zr6 (Z4 Z2 Zi Z25 Zc Zb Z6 Zt Zx Z3a : List D → Option D) (m : Nat) (a0_0n : Nat) (a0_0c : Option Nat) (a0_0 : List D) (a1 : Int) (a2 : Int) : funD Tg (Z4b Z4 Z2 Zi Z25 Zc Zb Z6 Zt Zx Z3a) m 4 Z2e Tryz.f4 [(D.agg [(D.list a0_0n a0_0c a0_0)]),(D.v (.int .u8 a1)),(D.v (.int .u8 a2))] = Z7q Z4 Z2 Zi Z25 Zc Zb Z6 Zt Zx Z3a m a0_0n a0_0c a0_0 a1 a2 := by kernel_rfl
theorem Zu9 : Enters Tg 4 := ⟨Tryz.f4,Tryz.func4,by kernel_rfl,by kernel_rfl⟩
theorem Zua {ds : List D} {d : D} (h : funD Tg (Z4b Z15 Zk Z1x Z39 Z1i Z2c Z1f Z3d Z49 Z50) M 4 Z2e Tryz.f4 ds = some d) : DataSem Tg 4 ds d := Zf (H := (Z4b Z15 Zk Z1x Z39 Z1i Z2c Z1f Z3d Z49 Z50)) (SpOk.cons Zml (SpOk.cons Zi3 (SpOk.cons Zyu (SpOk.cons Zse (SpOk.cons Zwj (SpOk.cons Zv5 (SpOk.cons Zvk (SpOk.cons Z10w (SpOk.cons Z14o (SpOk.cons Zyx SpOk.nil)))))))))) mixed InlOk.nil Tryz.func4 Zu9 h
noncomputable def Z1l : List D → Option D
 | [.agg [.list a0_0n a0_0c a0_0],.v (.int .u8 a1),.v (.int .u8 a2)] => Z7q Z15 Zk Z1x Z39 Z1i Z2c Z1f Z3d Z49 Z50 M a0_0n a0_0c a0_0 a1 a2
 | _ => none
theorem Zub : ∀ ds d,Z1l ds = some d → DataSem Tg 4 ds d := by
 intro ds d h
 unfold Z1l at h
 split at h
 ·exact Zua ((Zr6 Z15 Zk Z1x Z39 Z1i Z2c Z1f Z3d Z49 Z50 M _ _ _ _ _).trans h)
 ·cases h
end Go.Ev