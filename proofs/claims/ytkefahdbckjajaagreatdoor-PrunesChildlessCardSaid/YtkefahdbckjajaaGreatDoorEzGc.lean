/- Functions of the given program in plain form, printed: each with the proof that it is what the evaluator comes to, and that the program function returns what it says. No conditions. -/
import Derived.Test.YtkefahdbckjajaaGreatDoorEzGa
set_option linter.unusedVariables false
set_option maxRecDepth 100000
namespace Go.Ev
open Go Go.Proofs

-- ('str', '"vidimus/vidimuslaw27.PrunesChildless"')
def Z1b : FnH := ⟨[], [(7, ⟨(bm 900 87), [], (some 2)⟩)]⟩
noncomputable def Z2r (Z21 Z0 Z4 Z15 Z2 Z32 Z6 Z2j Z33 Z1y : List D → Option D) : Hints := ⟨[(16, Z21), (18, Z0), (19, Z4), (22, Z15), (23, Z2), (24, Z32), (25, Z6), (26, Z2j), (27, Z33), (28, Z1y)], [], []⟩
noncomputable def Z5z (Z21 Z0 Z4 Z15 Z2 Z32 Z6 Z2j Z33 Z1y : List D → Option D) (m : Nat) (u0_0 : Int) (u0_1 : Int) (u0_2 : Nat) (u0_3 : Option Nat) (u0_4 : List D) (u0_5 : Nat) (u0_6 : Option Nat) (u0_7 : List D) (u0_8 : List D) : Option D :=
 cutK m (codeK Tryz.prog (Z2r Z21 Z0 Z4 Z15 Z2 Z32 Z6 Z2j Z33 Z1y).sp ⟨0, [], false, []⟩ (inlK Tryz.prog (Z2r Z21 Z0 Z4 Z15 Z2 Z32 Z6 Z2j Z33 Z1y) m 4) m Z1b (subc [1, 1, 1, 1, 1, 1] (bodyOf Tryz.f4)) ⟨[.junk, .junk, (AV.d (D.v (.int .u8 u0_0))), .junk, .junk, .junk, .junk, (AV.ptr 1 0), (AV.d (D.v (.int .i64 u0_1))), (AV.d (D.list u0_2 u0_3 u0_4)), .junk, .junk, .junk, .junk, .junk, .junk, .junk, .junk, .junk, .junk, .junk, .junk, .junk, .junk, .junk, .junk, .junk, .junk, .junk, .junk, .junk, .junk, .junk, .junk, .junk, .junk, .junk, .junk, .junk, .junk, .junk, .junk, .junk, .junk, .junk, .junk, .junk, .junk, .junk, .junk, .junk, .junk, .junk, .junk, .junk, .junk, .junk, .junk, .junk, .junk, .junk, .junk, .junk, .junk, .junk, .junk, .junk, .junk, .junk, .junk, .junk, .junk, .junk, .junk, .junk, .junk, .junk, .junk, .junk, .junk, .junk, .junk, .junk, .junk, .junk, .junk, .junk], [(Blk.d 1 [(D.list u0_5 u0_6 u0_7)]), (Blk.d 1 u0_8)]⟩
  (contK Tryz.prog (Z2r Z21 Z0 Z4 Z15 Z2 Z32 Z6 Z2j Z33 Z1y).sp ⟨0, [], false, []⟩ (inlK Tryz.prog (Z2r Z21 Z0 Z4 Z15 Z2 Z32 Z6 Z2j Z33 Z1y) m 4) m Z1b (endK Tryz.prog Tryz.f4 (fun v L => viewK L 8 v some)) []))
theorem Zk3 (Z21 Z0 Z4 Z15 Z2 Z32 Z6 Z2j Z33 Z1y : List D → Option D) (m : Nat) (u0_0 : Int) (u0_1 : Int) (u0_2 : Nat) (u0_3 : Option Nat) (u0_4 : List D) (u0_5 : Nat) (u0_6 : Option Nat) (u0_7 : List D) (u0_8 : List D) : Z5z Z21 Z0 Z4 Z15 Z2 Z32 Z6 Z2j Z33 Z1y m u0_0 u0_1 u0_2 u0_3 u0_4 u0_5 u0_6 u0_7 u0_8 =
 (cond (((u0_2 : Nat) : Int) == (0 : Int))
 ((Z21 []).bind fun d19 =>
 (rdB (some d19)).bind fun b20 =>
 some (D.v (.bool b20)))
 (if ((u0_2 : Nat) : Int) = 0 then none else
 if 0 ≤ (Int.tmod (IntKind.wrap .i64 u0_0) ((u0_2 : Nat) : Int)) ∧ (Int.tmod (IntKind.wrap .i64 u0_0) ((u0_2 : Nat) : Int)) < ((u0_2 : Nat) : Int) then
 (rdI .i64 u0_4[((Int.toNat (Int.tmod (IntKind.wrap .i64 u0_0) ((u0_2 : Nat) : Int))) * 1)]?).bind fun x21 =>
 (Z2 [(D.agg u0_8), (D.v (.int .i64 u0_1)), (D.v (.int .i64 x21))]).bind fun d22 =>
 (rdT d22).bind fun r23 =>
 if List.length r23 = 2 then
 (rdA r23[0]?).bind fun c24 =>
 (rdI .i64 r23[1]?).bind fun x25 =>
 if (List.length c24) = 1 then
 cond (x25 == (0 : Int))
 ((Z1y [(D.agg u0_8), (D.list 1 (some 1) [(D.v (.int .i64 x21))])]).bind fun d26 =>
 (rdA (some d26)).bind fun c27 =>
 (Z33 [(D.agg c24), (D.agg c27)]).bind fun d28 =>
 (rdB (some d28)).bind fun b29 =>
 cond b29
 ((Z21 []).bind fun d30 =>
 (rdB (some d30)).bind fun b31 =>
 some (D.v (.bool b31)))
 (some (D.v (.bool false))))
 (some (D.v (.bool false)))
 else none
 else none
 else none)) := (cutK_eq m _).trans (by kernel_rfl)
noncomputable def Z5d (Z21 Z0 Z4 Z15 Z2 Z32 Z6 Z2j Z33 Z1y : List D → Option D) (m : Nat) (a0_0n : Nat) (a0_0c : Option Nat) (a0_0 : List D) (a1 : Int) (a2 : Int) : Option D :=
 (Z32 [(D.agg [(D.list a0_0n a0_0c a0_0)])]).bind fun d1 =>
 (rdA (some d1)).bind fun c2 =>
 if (List.length c2) = 1 then
 (Z0 [(D.agg c2), (D.v (.int .i64 (IntKind.wrap .i64 (Int.tmod a1 (8 : Int)))))]).bind fun d3 =>
 (rdT d3).bind fun r4 =>
 if List.length r4 = 2 then
 (rdL r4[0]?).bind fun q5 =>
 (rdI .i64 r4[1]?).bind fun x6 =>
 (Z4 [(D.agg c2), (D.v (.int .i64 (IntKind.wrap .i64 (Int.tmod a1 (8 : Int)))))]).bind fun d7 =>
 (rdT d7).bind fun r8 =>
 if List.length r8 = 2 then
 (rdL r8[0]?).bind fun q9 =>
 (rdI .i64 r8[1]?).bind fun x10 =>
 cond (x6 != (0 : Int))
 (some (D.v (.bool false)))
 (cond (x10 != (0 : Int))
 (some (D.v (.bool false)))
 ((Z15 [(D.agg c2), (D.v (.int .i64 (IntKind.wrap .i64 (Int.tmod a1 (8 : Int)))))]).bind fun d11 =>
 (rdL (some d11)).bind fun q12 =>
 (Z6 [(D.list q5.n q5.cap q5.cs), (D.list q12.n q12.cap q12.cs)]).bind fun d13 =>
 (rdB (some d13)).bind fun b14 =>
 cond (!b14)
 (some (D.v (.bool false)))
 ((Z2j [(D.agg c2), (D.v (.int .i64 (IntKind.wrap .i64 (Int.tmod a1 (8 : Int)))))]).bind fun d15 =>
 (rdL (some d15)).bind fun q16 =>
 (Z6 [(D.list q9.n q9.cap q9.cs), (D.list q16.n q16.cap q16.cs)]).bind fun d17 =>
 (rdB (some d17)).bind fun b18 =>
 cond (!b18)
 (some (D.v (.bool false)))
 (Z5z Z21 Z0 Z4 Z15 Z2 Z32 Z6 Z2j Z33 Z1y m a2 (IntKind.wrap .i64 (Int.tmod a1 (8 : Int))) q5.n q5.cap q5.cs a0_0n a0_0c a0_0 c2))))
 else none
 else none
 else none
theorem Zl5 (Z21 Z0 Z4 Z15 Z2 Z32 Z6 Z2j Z33 Z1y : List D → Option D) (m : Nat) (a0_0n : Nat) (a0_0c : Option Nat) (a0_0 : List D) (a1 : Int) (a2 : Int) : funD Tryz.prog (Z2r Z21 Z0 Z4 Z15 Z2 Z32 Z6 Z2j Z33 Z1y) m 4 Z1b Tryz.f4 [(D.agg [(D.list a0_0n a0_0c a0_0)]), (D.v (.int .u8 a1)), (D.v (.int .u8 a2))] = Z5d Z21 Z0 Z4 Z15 Z2 Z32 Z6 Z2j Z33 Z1y m a0_0n a0_0c a0_0 a1 a2 := by kernel_rfl
theorem Znd : Enters Tryz.prog 4 := ⟨Tryz.f4, Tryz.func4, by kernel_rfl, by kernel_rfl⟩
theorem Zne {ds : List D} {d : D} (h : funD Tryz.prog (Z2r Z4o Ze Zz Z31 Zp Z5b Z1h Z4n Z5c Z46) M 4 Z1b Tryz.f4 ds = some d) : DataSem Tryz.prog 4 ds d := data_sound (H := (Z2r Z4o Ze Zz Z31 Zp Z5b Z1h Z4n Z5c Z46)) (SpOk.cons Zyj (SpOk.cons Zkx (SpOk.cons Zq5 (SpOk.cons Zt9 (SpOk.cons Zom (SpOk.cons Zz5 (SpOk.cons Ztc (SpOk.cons Zyf (SpOk.cons Zzl (SpOk.cons Zwz SpOk.nil)))))))))) mixed InlOk.nil Tryz.func4 Znd h
noncomputable def Z7a : List D → Option D
  | [.agg [.list a0_0n a0_0c a0_0], .v (.int .u8 a1), .v (.int .u8 a2)] => Z5d Z4o Ze Zz Z31 Zp Z5b Z1h Z4n Z5c Z46 M a0_0n a0_0c a0_0 a1 a2
  | _ => none
theorem Znf : ∀ ds d, Z7a ds = some d → DataSem Tryz.prog 4 ds d := by
  intro ds d h
  unfold Z7a at h
  split at h
  · exact Zne ((Zl5 Z4o Ze Zz Z31 Zp Z5b Z1h Z4n Z5c Z46 M _ _ _ _ _).trans h)
  · cases h

end Go.Ev
