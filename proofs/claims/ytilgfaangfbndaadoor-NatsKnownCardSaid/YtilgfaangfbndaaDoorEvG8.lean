/- Functions of the given program in plain form, printed: each with the proof that it is what the evaluator comes to, and that the program function returns what it says. No conditions. -/
import Derived.Test.YtilgfaangfbndaaDoorEvG6d
set_option linter.unusedVariables false
set_option maxRecDepth 100000
namespace Go.Ev
open Go Go.Proofs

-- ('str', '"vidimus/vidimuslaw01.NatsSum"')
def fh8_8 : FnH := ⟨[], []⟩
def H8 (q39 q45 q46 q47 q48 q49 q50 q51 q52 q53 : List D → Option D) : Hints := ⟨[(39, q39), (45, q45), (46, q46), (47, q47), (48, q48), (49, q49), (50, q50), (51, q51), (52, q52), (53, q53)], []⟩
noncomputable def F8 (q39 q45 q46 q47 q48 q49 q50 q51 q52 q53 : List D → Option D) (m : Nat) (a0_0n : Nat) (a0_0c : Option Nat) (a0_0 : List D) (a1_0n : Nat) (a1_0c : Option Nat) (a1_0 : List D) : Option D :=
 (q39 [(D.agg [(D.list a0_0n a0_0c a0_0)])]).bind fun d1 =>
 (rdL (some d1)).bind fun q2 =>
 (q39 [(D.agg [(D.list a1_0n a1_0c a1_0)])]).bind fun d3 =>
 (rdL (some d3)).bind fun q4 =>
 (q45 [(D.list q2.n q2.cap q2.cs)]).bind fun d5 =>
 (rdL (some d5)).bind fun q6 =>
 (q45 [(D.list q4.n q4.cap q4.cs)]).bind fun d7 =>
 (rdL (some d7)).bind fun q8 =>
 (q46 [(D.list q2.n q2.cap q2.cs), (D.list q4.n q4.cap q4.cs)]).bind fun d9 =>
 (rdT d9).bind fun r10 =>
 if List.length r10 = 2 then
 (rdL r10[0]?).bind fun q11 =>
 (rdI .i64 r10[1]?).bind fun x12 =>
 (q48 [(D.list q6.n q6.cap q6.cs), (D.list q8.n q8.cap q8.cs)]).bind fun d13 =>
 (rdL (some d13)).bind fun q14 =>
 (q48 [(D.list q6.n q6.cap q6.cs), (D.list q8.n q8.cap q8.cs)]).bind fun d15 =>
 (rdL (some d15)).bind fun q16 =>
 (q49 [(D.list q16.n q16.cap q16.cs)]).bind fun d17 =>
 (rdI .i64 (some d17)).bind fun x18 =>
 (q47 [(D.list q11.n q11.cap q11.cs), (D.v (.int .i64 x12)), (D.list q14.n q14.cap q14.cs), (D.v (.int .i64 x18))]).bind fun d19 =>
 (rdB (some d19)).bind fun b20 =>
 cond (!b20)
 (some (D.v (.bool false)))
 ((q50 [(D.list q2.n q2.cap q2.cs), (D.list q4.n q4.cap q4.cs)]).bind fun d21 =>
 (rdT d21).bind fun r22 =>
 if List.length r22 = 2 then
 (rdL r22[0]?).bind fun q23 =>
 (rdI .i64 r22[1]?).bind fun x24 =>
 (q51 [(D.list q6.n q6.cap q6.cs), (D.list q8.n q8.cap q8.cs)]).bind fun d25 =>
 (rdI .i64 (some d25)).bind fun x26 =>
 cond (decide (x26 < (0 : Int)))
 ((q47 [(D.list q23.n q23.cap q23.cs), (D.v (.int .i64 x24)), (D.list 0 (some 0) []), (D.v (.int .i64 (1 : Int)))]).bind fun d27 =>
 (rdB (some d27)).bind fun b28 =>
 cond b28
 ((q52 []).bind fun d29 =>
 (rdB (some d29)).bind fun b30 =>
 some (D.v (.bool b30)))
 (some (D.v (.bool false))))
 ((q53 [(D.list q6.n q6.cap q6.cs), (D.list q8.n q8.cap q8.cs)]).bind fun d31 =>
 (rdL (some d31)).bind fun q32 =>
 (q47 [(D.list q23.n q23.cap q23.cs), (D.v (.int .i64 x24)), (D.list q32.n q32.cap q32.cs), (D.v (.int .i64 (0 : Int)))]).bind fun d33 =>
 (rdB (some d33)).bind fun b34 =>
 cond b34
 ((q52 []).bind fun d35 =>
 (rdB (some d35)).bind fun b36 =>
 some (D.v (.bool b36)))
 (some (D.v (.bool false))))
 else none)
 else none
theorem F8_eq (q39 q45 q46 q47 q48 q49 q50 q51 q52 q53 : List D → Option D) (m : Nat) (a0_0n : Nat) (a0_0c : Option Nat) (a0_0 : List D) (a1_0n : Nat) (a1_0c : Option Nat) (a1_0 : List D) : funD Tryd.prog (H8 q39 q45 q46 q47 q48 q49 q50 q51 q52 q53) m 3 fh8_8 Tryd.f8 [(D.agg [(D.list a0_0n a0_0c a0_0)]), (D.agg [(D.list a1_0n a1_0c a1_0)])] = F8 q39 q45 q46 q47 q48 q49 q50 q51 q52 q53 m a0_0n a0_0c a0_0 a1_0n a1_0c a1_0 := by kernel_rfl
theorem en8 : Enters Tryd.prog 8 := ⟨Tryd.f8, Tryd.func8, by kernel_rfl, by kernel_rfl⟩
theorem dt8 {ds : List D} {d : D} (h : funD Tryd.prog (H8 sp39 sp45 sp46 sp47 sp48 sp49 sp50 sp51 sp52 sp53) M 3 fh8_8 Tryd.f8 ds = some d) : DataSem Tryd.prog 8 ds d := data_sound (H := (H8 sp39 sp45 sp46 sp47 sp48 sp49 sp50 sp51 sp52 sp53)) (SpOk.cons ds39 (SpOk.cons ds45 (SpOk.cons ds46 (SpOk.cons ds47 (SpOk.cons ds48 (SpOk.cons ds49 (SpOk.cons ds50 (SpOk.cons ds51 (SpOk.cons ds52 (SpOk.cons ds53 SpOk.nil)))))))))) mixed InlOk.nil Tryd.func8 en8 h
noncomputable def sp8 : List D → Option D
  | [.agg [.list a0_0n a0_0c a0_0], .agg [.list a1_0n a1_0c a1_0]] => F8 sp39 sp45 sp46 sp47 sp48 sp49 sp50 sp51 sp52 sp53 M a0_0n a0_0c a0_0 a1_0n a1_0c a1_0
  | _ => none
theorem ds8 : ∀ ds d, sp8 ds = some d → DataSem Tryd.prog 8 ds d := by
  intro ds d h
  unfold sp8 at h
  split at h
  · exact dt8 ((F8_eq sp39 sp45 sp46 sp47 sp48 sp49 sp50 sp51 sp52 sp53 M _ _ _ _ _ _).trans h)
  · cases h

-- ('str', '"vidimus/vidimuslaw01.NatsProduct"')
def fh9_9 : FnH := ⟨[], []⟩
def H9 (q39 q45 q47 q49 q52 q54 q55 : List D → Option D) : Hints := ⟨[(39, q39), (45, q45), (47, q47), (49, q49), (52, q52), (54, q54), (55, q55)], []⟩
noncomputable def F9 (q39 q45 q47 q49 q52 q54 q55 : List D → Option D) (m : Nat) (a0_0n : Nat) (a0_0c : Option Nat) (a0_0 : List D) (a1_0n : Nat) (a1_0c : Option Nat) (a1_0 : List D) : Option D :=
 (q39 [(D.agg [(D.list a0_0n a0_0c a0_0)])]).bind fun d1 =>
 (rdL (some d1)).bind fun q2 =>
 (q39 [(D.agg [(D.list a1_0n a1_0c a1_0)])]).bind fun d3 =>
 (rdL (some d3)).bind fun q4 =>
 (q45 [(D.list q2.n q2.cap q2.cs)]).bind fun d5 =>
 (rdL (some d5)).bind fun q6 =>
 (q45 [(D.list q4.n q4.cap q4.cs)]).bind fun d7 =>
 (rdL (some d7)).bind fun q8 =>
 (q54 [(D.list q6.n q6.cap q6.cs), (D.list q8.n q8.cap q8.cs)]).bind fun d9 =>
 (rdL (some d9)).bind fun q10 =>
 (q55 [(D.list q2.n q2.cap q2.cs), (D.list q4.n q4.cap q4.cs)]).bind fun d11 =>
 (rdT d11).bind fun r12 =>
 if List.length r12 = 2 then
 (rdL r12[0]?).bind fun q13 =>
 (rdI .i64 r12[1]?).bind fun x14 =>
 (q49 [(D.list q10.n q10.cap q10.cs)]).bind fun d15 =>
 (rdI .i64 (some d15)).bind fun x16 =>
 (q47 [(D.list q13.n q13.cap q13.cs), (D.v (.int .i64 x14)), (D.list q10.n q10.cap q10.cs), (D.v (.int .i64 x16))]).bind fun d17 =>
 (rdB (some d17)).bind fun b18 =>
 cond b18
 ((q52 []).bind fun d19 =>
 (rdB (some d19)).bind fun b20 =>
 some (D.v (.bool b20)))
 (some (D.v (.bool false)))
 else none
theorem F9_eq (q39 q45 q47 q49 q52 q54 q55 : List D → Option D) (m : Nat) (a0_0n : Nat) (a0_0c : Option Nat) (a0_0 : List D) (a1_0n : Nat) (a1_0c : Option Nat) (a1_0 : List D) : funD Tryd.prog (H9 q39 q45 q47 q49 q52 q54 q55) m 3 fh9_9 Tryd.f9 [(D.agg [(D.list a0_0n a0_0c a0_0)]), (D.agg [(D.list a1_0n a1_0c a1_0)])] = F9 q39 q45 q47 q49 q52 q54 q55 m a0_0n a0_0c a0_0 a1_0n a1_0c a1_0 := by kernel_rfl
theorem en9 : Enters Tryd.prog 9 := ⟨Tryd.f9, Tryd.func9, by kernel_rfl, by kernel_rfl⟩
theorem dt9 {ds : List D} {d : D} (h : funD Tryd.prog (H9 sp39 sp45 sp47 sp49 sp52 sp54 sp55) M 3 fh9_9 Tryd.f9 ds = some d) : DataSem Tryd.prog 9 ds d := data_sound (H := (H9 sp39 sp45 sp47 sp49 sp52 sp54 sp55)) (SpOk.cons ds39 (SpOk.cons ds45 (SpOk.cons ds47 (SpOk.cons ds49 (SpOk.cons ds52 (SpOk.cons ds54 (SpOk.cons ds55 SpOk.nil))))))) mixed InlOk.nil Tryd.func9 en9 h
noncomputable def sp9 : List D → Option D
  | [.agg [.list a0_0n a0_0c a0_0], .agg [.list a1_0n a1_0c a1_0]] => F9 sp39 sp45 sp47 sp49 sp52 sp54 sp55 M a0_0n a0_0c a0_0 a1_0n a1_0c a1_0
  | _ => none
theorem ds9 : ∀ ds d, sp9 ds = some d → DataSem Tryd.prog 9 ds d := by
  intro ds d h
  unfold sp9 at h
  split at h
  · exact dt9 ((F9_eq sp39 sp45 sp47 sp49 sp52 sp54 sp55 M _ _ _ _ _ _).trans h)
  · cases h

-- ('str', '"vidimus/vidimuslaw01.NatsField"')
def fh10_10 : FnH := ⟨[], [(8, ⟨[false, false, false, false, false, false, false, true, true, true, true, true, false, false, true, true, false, false, false, false, false, false, false, false, false, false, false, false, false, false, false, false, false, false, false, false, false, false, false, false, false, false, false, false, false, false, false, false, false, false, false, false, false, false, false, false, false, false, false, false, false, false, false, false, false, false, false, false, false, false, false, false, false, false, false, false, false, false, false, false, false, false, false, false, false, false, false, false, false, false, false, false, false, false, false, false, false, false, false, false, false, false, false, false, false, false, false, false, false, false, false, false, false, false, false, false, false, false, false, false, false, false, false, false, false, false, false, false, false, false, false, false, false, false, false, false, false, false, false, false, false, false, false, false, false, false, false, false, false, false, false, false, false, false, false, false, false, false, false, false, false, false, false, false, false, false, false, false, false, false, false, false, false, false, false, false, false, false, false, false, false, false, false, false, false, false, false, false, false, false, false, false, false, false, false, false, false, false, false, false, false, false, false, false, false, false, false, false, false, false, false, false, false], [], (some 0)⟩), (11, ⟨[false, false, false, false, false, false, false, true, true, true, true, false, false, true, true, true, false, false, true, true, true, false, false, false, false, false, false, false, false, false, false, false, false, false, false, false, false, false, false, false, false, false, false, false, false, false, false, false, false, false, false, false, false, false, false, false, false, false, false, false, false, false, false, false, false, false, false, false, false, false, false, false, false, false, false, false, false, false, false, false, false, false, false, false, false, false, false, false, false, false, false, false, false, false, false, false, false, false, false, false, false, false, false, false, false, false, false, false, false, false, false, false, false, false, false, false, false, false, false, false, false, false, false, false, false, false, false, false, false, false, false, false, false, false, false, false, false, false, false, false, false, false, false, false, false, false, false, false, false, false, false, false, false, false, false, false, false, false, false, false, false, false, false, false, false, false, false, false, false, false, false, false, false, false, false, false, false, false, false, false, false, false, false, false, false, false, false, false, false, false, false, false, false, false, false, false, false, false, false, false, false, false, false, false, false, false, false, false, false, false, false, false, false], [], (some 0)⟩), (14, ⟨[false, false, false, false, false, false, false, true, true, true, true, false, false, true, true, true, false, false, true, false, false, false, false, false, false, false, false, false, false, false, false, false, false, false, false, false, false, false, false, false, false, false, false, false, false, false, false, false, false, false, false, false, false, false, false, false, false, false, false, false, false, false, false, false, false, false, false, false, false, false, false, false, false, false, false, false, false, false, false, false, false, false, false, false, false, false, false, false, false, false, false, false, false, false, false, false, false, false, false, false, false, false, false, false, false, false, false, false, false, false, false, false, false, false, false, false, false, false, false, false, false, false, false, false, false, false, false, false, false, false, false, false, false, false, false, false, false, false, false, false, false, false, false, false, false, false, false, false, false, false, false, false, false, false, false, false, false, false, false, false, false, false, false, false, false, false, false, false, false, false, false, false, false, false, false, false, false, false, false, false, false, false, false, false, false, false, false, false, false, false, false, false, false, false, false, false, false, false, false, false, false, false, false, false, false, false, false, false, false, false, false, false, false], [], (some 0)⟩), (17, ⟨[false, false, false, false, false, false, false, true, true, true, false, false, false, true, true, true, false, false, true, false, false, false, false, false, false, false, false, false, false, false, false, false, false, false, false, false, false, false, false, false, false, false, false, false, false, false, false, false, false, false, false, false, false, false, false, false, false, false, false, false, false, false, false, false, false, false, false, false, false, false, false, false, false, false, false, false, false, false, false, false, false, false, false, false, false, false, false, false, false, false, false, false, false, false, false, false, false, false, false, false, false, false, false, false, false, false, false, false, false, false, false, false, false, false, false, false, false, false, false, false, false, false, false, false, false, false, false, false, false, false, false, false, false, false, false, false, false, false, false, false, false, false, false, false, false, false, false, false, false, false, false, false, false, false, false, false, false, false, false, false, false, false, false, false, false, false, false, false, false, false, false, false, false, false, false, false, false, false, false, false, false, false, false, false, false, false, false, false, false, false, false, false, false, false, false, false, false, false, false, false, false, false, false, false, false, false, false, false, false, false, false, false, false], [], (some 0)⟩), (20, ⟨[false, false, false, false, false, false, false, true, false, true, false, false, false, true, true, true, false, false, true, false, false, false, false, false, false, true, true, true, false, false, false, false, false, false, false, false, false, false, false, false, false, false, false, false, false, false, false, false, false, false, false, false, false, false, false, false, false, false, false, false, false, false, false, false, false, false, false, false, false, false, false, false, false, false, false, false, false, false, false, false, false, false, false, false, false, false, false, false, false, false, false, false, false, false, false, false, false, false, false, false, false, false, false, false, false, false, false, false, false, false, false, false, false, false, false, false, false, false, false, false, false, false, false, false, false, false, false, false, false, false, false, false, false, false, false, false, false, false, false, false, false, false, false, false, false, false, false, false, false, false, false, false, false, false, false, false, false, false, false, false, false, false, false, false, false, false, false, false, false, false, false, false, false, false, false, false, false, false, false, false, false, false, false, false, false, false, false, false, false, false, false, false, false, false, false, false, false, false, false, false, false, false, false, false, false, false, false, false, false, false, false, false, false], [], (some 0)⟩), (23, ⟨[false, false, false, false, false, false, false, true, false, true, false, false, false, true, true, true, false, false, true, false, false, false, false, false, false, false, false, false, false, false, false, false, false, false, false, false, false, false, false, false, false, false, false, false, false, false, false, false, false, false, false, false, false, false, false, false, false, false, false, false, false, false, false, false, false, false, false, false, false, false, false, false, false, false, false, false, false, false, false, false, false, false, false, false, false, false, false, false, false, false, false, false, false, false, false, false, false, false, false, false, false, false, false, false, false, false, false, false, false, false, false, false, false, false, false, false, false, false, false, false, false, false, false, false, false, false, false, false, false, false, false, false, false, false, false, false, false, false, false, false, false, false, false, false, false, false, false, false, false, false, false, false, false, false, false, false, false, false, false, false, false, false, false, false, false, false, false, false, false, false, false, false, false, false, false, false, false, false, false, false, false, false, false, false, false, false, false, false, false, false, false, false, false, false, false, false, false, false, false, false, false, false, false, false, false, false, false, false, false, false, false, false, false], [], (some 0)⟩), (26, ⟨[false, false, false, false, false, false, false, true, false, false, false, false, false, false, true, false, false, false, true, false, false, false, false, false, false, false, false, false, false, false, true, false, false, false, false, false, false, false, false, false, false, false, false, false, false, false, false, false, false, false, false, false, false, false, false, false, false, false, false, false, false, false, false, false, false, false, false, false, false, false, false, false, false, false, false, false, false, false, false, false, false, false, false, false, false, false, false, false, false, false, false, false, false, false, false, false, false, false, false, false, false, false, false, false, false, false, false, false, false, false, false, false, false, false, false, false, false, false, false, false, false, false, false, false, false, false, false, false, false, false, false, false, false, false, false, false, false, false, false, false, false, false, false, false, false, false, false, false, false, false, false, false, false, false, false, false, false, false, false, false, false, false, false, false, false, false, false, false, false, false, false, false, false, false, false, false, false, false, false, false, false, false, false, false, false, false, false, false, false, false, false, false, false, false, false, false, false, false, false, false, false, false, false, false, false, false, false, false, false, false, false, false, false], [], (some 0)⟩)]⟩
def H10 (q39 q46 q50 q52 q55 : List D → Option D) : Hints := ⟨[(39, q39), (46, q46), (50, q50), (52, q52), (55, q55)], []⟩
noncomputable def F10_10_j8 (q39 q46 q50 q52 q55 : List D → Option D) (m : Nat) (u0_0 : Nat) (u0_1 : Option Nat) (u0_2 : List D) (u0_3 : Nat) (u0_4 : Option Nat) (u0_5 : List D) (u0_6 : Nat) (u0_7 : Option Nat) (u0_8 : List D) (u0_9 : Nat) (u0_10 : Option Nat) (u0_11 : List D) (u0_12 : Int) (u0_13 : Nat) (u0_14 : Option Nat) (u0_15 : List D) (u0_16 : Int) : Option D :=
 cutK (codeK Tryd.prog (H10 q39 q46 q50 q52 q55).sp 0 (inlK Tryd.prog (H10 q39 q46 q50 q52 q55) m 3) m fh10_10 (subc [1, 1, 1, 1, 1, 1, 1] (bodyOf Tryd.f10)) ⟨[.junk, .junk, .junk, .junk, .junk, .junk, .junk, (AV.d (D.list u0_0 u0_1 u0_2)), (AV.d (D.list u0_3 u0_4 u0_5)), (AV.d (D.list u0_6 u0_7 u0_8)), (AV.d (D.list u0_9 u0_10 u0_11)), (AV.d (D.v (.int .i64 u0_12))), .junk, .junk, (AV.d (D.list u0_13 u0_14 u0_15)), (AV.d (D.v (.int .i64 u0_16))), .junk, .junk, .junk, .junk, .junk, .junk, .junk, .junk, .junk, .junk, .junk, .junk, .junk, .junk, .junk, .junk, .junk, .junk, .junk, .junk, .junk, .junk, .junk, .junk, .junk, .junk, .junk, .junk, .junk, .junk, .junk, .junk, .junk, .junk, .junk, .junk, .junk, .junk, .junk, .junk, .junk, .junk, .junk, .junk, .junk, .junk, .junk, .junk, .junk, .junk, .junk, .junk, .junk, .junk, .junk, .junk, .junk, .junk, .junk, .junk, .junk, .junk, .junk, .junk, .junk, .junk, .junk, .junk, .junk, .junk, .junk, .junk, .junk, .junk, .junk, .junk, .junk, .junk, .junk, .junk, .junk, .junk, .junk, .junk, .junk, .junk, .junk, .junk, .junk, .junk, .junk, .junk, .junk, .junk, .junk, .junk, .junk, .junk, .junk, .junk, .junk, .junk, .junk, .junk, .junk, .junk, .junk, .junk, .junk, .junk, .junk, .junk, .junk, .junk, .junk, .junk, .junk, .junk, .junk, .junk, .junk, .junk, .junk, .junk, .junk, .junk, .junk, .junk, .junk, .junk, .junk, .junk, .junk, .junk, .junk, .junk, .junk, .junk, .junk, .junk, .junk, .junk, .junk, .junk, .junk, .junk, .junk, .junk, .junk, .junk, .junk, .junk, .junk, .junk, .junk, .junk, .junk, .junk, .junk, .junk, .junk, .junk, .junk, .junk, .junk, .junk, .junk, .junk, .junk, .junk, .junk, .junk, .junk, .junk, .junk, .junk, .junk, .junk, .junk, .junk, .junk, .junk, .junk, .junk, .junk, .junk, .junk, .junk, .junk, .junk, .junk, .junk, .junk, .junk, .junk, .junk, .junk], []⟩
  (contK Tryd.prog (H10 q39 q46 q50 q52 q55).sp 0 (inlK Tryd.prog (H10 q39 q46 q50 q52 q55) m 3) m fh10_10 (endK Tryd.prog Tryd.f10 (fun v L => viewK L 8 v some)) []))
noncomputable def F10_10_j11 (q39 q46 q50 q52 q55 : List D → Option D) (m : Nat) (u1_0 : Nat) (u1_1 : Option Nat) (u1_2 : List D) (u1_3 : Nat) (u1_4 : Option Nat) (u1_5 : List D) (u1_6 : Nat) (u1_7 : Option Nat) (u1_8 : List D) (u1_9 : Nat) (u1_10 : Option Nat) (u1_11 : List D) (u1_12 : Int) (u1_13 : Nat) (u1_14 : Option Nat) (u1_15 : List D) (u1_16 : Int) (u1_17 : Nat) (u1_18 : Option Nat) (u1_19 : List D) (u1_20 : Nat) (u1_21 : Option Nat) (u1_22 : List D) (u1_23 : Int) : Option D :=
 cutK (codeK Tryd.prog (H10 q39 q46 q50 q52 q55).sp 0 (inlK Tryd.prog (H10 q39 q46 q50 q52 q55) m 3) m fh10_10 (subc [1, 1, 1, 1, 1, 1, 1, 1, 0, 1, 0, 1] (bodyOf Tryd.f10)) ⟨[.junk, .junk, .junk, .junk, .junk, .junk, .junk, (AV.d (D.list u1_0 u1_1 u1_2)), (AV.d (D.list u1_3 u1_4 u1_5)), (AV.d (D.list u1_6 u1_7 u1_8)), (AV.d (D.list u1_9 u1_10 u1_11)), .junk, .junk, (AV.d (D.v (.int .i64 u1_12))), (AV.d (D.list u1_13 u1_14 u1_15)), (AV.d (D.v (.int .i64 u1_16))), .junk, .junk, (AV.d (D.list u1_17 u1_18 u1_19)), (AV.d (D.list u1_20 u1_21 u1_22)), (AV.d (D.v (.int .i64 u1_23))), .junk, .junk, .junk, .junk, .junk, .junk, .junk, .junk, .junk, .junk, .junk, .junk, .junk, .junk, .junk, .junk, .junk, .junk, .junk, .junk, .junk, .junk, .junk, .junk, .junk, .junk, .junk, .junk, .junk, .junk, .junk, .junk, .junk, .junk, .junk, .junk, .junk, .junk, .junk, .junk, .junk, .junk, .junk, .junk, .junk, .junk, .junk, .junk, .junk, .junk, .junk, .junk, .junk, .junk, .junk, .junk, .junk, .junk, .junk, .junk, .junk, .junk, .junk, .junk, .junk, .junk, .junk, .junk, .junk, .junk, .junk, .junk, .junk, .junk, .junk, .junk, .junk, .junk, .junk, .junk, .junk, .junk, .junk, .junk, .junk, .junk, .junk, .junk, .junk, .junk, .junk, .junk, .junk, .junk, .junk, .junk, .junk, .junk, .junk, .junk, .junk, .junk, .junk, .junk, .junk, .junk, .junk, .junk, .junk, .junk, .junk, .junk, .junk, .junk, .junk, .junk, .junk, .junk, .junk, .junk, .junk, .junk, .junk, .junk, .junk, .junk, .junk, .junk, .junk, .junk, .junk, .junk, .junk, .junk, .junk, .junk, .junk, .junk, .junk, .junk, .junk, .junk, .junk, .junk, .junk, .junk, .junk, .junk, .junk, .junk, .junk, .junk, .junk, .junk, .junk, .junk, .junk, .junk, .junk, .junk, .junk, .junk, .junk, .junk, .junk, .junk, .junk, .junk, .junk, .junk, .junk, .junk, .junk, .junk, .junk, .junk, .junk, .junk, .junk, .junk, .junk, .junk, .junk, .junk, .junk, .junk, .junk, .junk, .junk, .junk, .junk, .junk], []⟩
  (contK Tryd.prog (H10 q39 q46 q50 q52 q55).sp 0 (inlK Tryd.prog (H10 q39 q46 q50 q52 q55) m 3) m fh10_10 (endK Tryd.prog Tryd.f10 (fun v L => viewK L 8 v some)) [.code (subc [1, 1, 1, 1, 1, 1, 1, 1, 1] (bodyOf Tryd.f10))]))
noncomputable def F10_10_j14 (q39 q46 q50 q52 q55 : List D → Option D) (m : Nat) (u2_0 : Nat) (u2_1 : Option Nat) (u2_2 : List D) (u2_3 : Nat) (u2_4 : Option Nat) (u2_5 : List D) (u2_6 : Nat) (u2_7 : Option Nat) (u2_8 : List D) (u2_9 : Nat) (u2_10 : Option Nat) (u2_11 : List D) (u2_12 : Int) (u2_13 : Nat) (u2_14 : Option Nat) (u2_15 : List D) (u2_16 : Int) (u2_17 : Nat) (u2_18 : Option Nat) (u2_19 : List D) : Option D :=
 cutK (codeK Tryd.prog (H10 q39 q46 q50 q52 q55).sp 0 (inlK Tryd.prog (H10 q39 q46 q50 q52 q55) m 3) m fh10_10 (subc [1, 1, 1, 1, 1, 1, 1, 1, 0, 1, 0, 1, 1, 1] (bodyOf Tryd.f10)) ⟨[.junk, .junk, .junk, .junk, .junk, .junk, .junk, (AV.d (D.list u2_0 u2_1 u2_2)), (AV.d (D.list u2_3 u2_4 u2_5)), (AV.d (D.list u2_6 u2_7 u2_8)), (AV.d (D.list u2_9 u2_10 u2_11)), .junk, .junk, (AV.d (D.v (.int .i64 u2_12))), (AV.d (D.list u2_13 u2_14 u2_15)), (AV.d (D.v (.int .i64 u2_16))), .junk, .junk, (AV.d (D.list u2_17 u2_18 u2_19)), .junk, .junk, .junk, .junk, .junk, .junk, .junk, .junk, .junk, .junk, .junk, .junk, .junk, .junk, .junk, .junk, .junk, .junk, .junk, .junk, .junk, .junk, .junk, .junk, .junk, .junk, .junk, .junk, .junk, .junk, .junk, .junk, .junk, .junk, .junk, .junk, .junk, .junk, .junk, .junk, .junk, .junk, .junk, .junk, .junk, .junk, .junk, .junk, .junk, .junk, .junk, .junk, .junk, .junk, .junk, .junk, .junk, .junk, .junk, .junk, .junk, .junk, .junk, .junk, .junk, .junk, .junk, .junk, .junk, .junk, .junk, .junk, .junk, .junk, .junk, .junk, .junk, .junk, .junk, .junk, .junk, .junk, .junk, .junk, .junk, .junk, .junk, .junk, .junk, .junk, .junk, .junk, .junk, .junk, .junk, .junk, .junk, .junk, .junk, .junk, .junk, .junk, .junk, .junk, .junk, .junk, .junk, .junk, .junk, .junk, .junk, .junk, .junk, .junk, .junk, .junk, .junk, .junk, .junk, .junk, .junk, .junk, .junk, .junk, .junk, .junk, .junk, .junk, .junk, .junk, .junk, .junk, .junk, .junk, .junk, .junk, .junk, .junk, .junk, .junk, .junk, .junk, .junk, .junk, .junk, .junk, .junk, .junk, .junk, .junk, .junk, .junk, .junk, .junk, .junk, .junk, .junk, .junk, .junk, .junk, .junk, .junk, .junk, .junk, .junk, .junk, .junk, .junk, .junk, .junk, .junk, .junk, .junk, .junk, .junk, .junk, .junk, .junk, .junk, .junk, .junk, .junk, .junk, .junk, .junk, .junk, .junk, .junk, .junk, .junk, .junk, .junk, .junk, .junk], []⟩
  (contK Tryd.prog (H10 q39 q46 q50 q52 q55).sp 0 (inlK Tryd.prog (H10 q39 q46 q50 q52 q55) m 3) m fh10_10 (endK Tryd.prog Tryd.f10 (fun v L => viewK L 8 v some)) [.code (subc [1, 1, 1, 1, 1, 1, 1, 1, 1] (bodyOf Tryd.f10))]))
noncomputable def F10_10_j17 (q39 q46 q50 q52 q55 : List D → Option D) (m : Nat) (u3_0 : Nat) (u3_1 : Option Nat) (u3_2 : List D) (u3_3 : Nat) (u3_4 : Option Nat) (u3_5 : List D) (u3_6 : Nat) (u3_7 : Option Nat) (u3_8 : List D) (u3_9 : Int) (u3_10 : Nat) (u3_11 : Option Nat) (u3_12 : List D) (u3_13 : Int) (u3_14 : Nat) (u3_15 : Option Nat) (u3_16 : List D) : Option D :=
 cutK (codeK Tryd.prog (H10 q39 q46 q50 q52 q55).sp 0 (inlK Tryd.prog (H10 q39 q46 q50 q52 q55) m 3) m fh10_10 (subc [1, 1, 1, 1, 1, 1, 1, 1, 1] (bodyOf Tryd.f10)) ⟨[.junk, .junk, .junk, .junk, .junk, .junk, .junk, (AV.d (D.list u3_0 u3_1 u3_2)), (AV.d (D.list u3_3 u3_4 u3_5)), (AV.d (D.list u3_6 u3_7 u3_8)), .junk, .junk, .junk, (AV.d (D.v (.int .i64 u3_9))), (AV.d (D.list u3_10 u3_11 u3_12)), (AV.d (D.v (.int .i64 u3_13))), .junk, .junk, (AV.d (D.list u3_14 u3_15 u3_16)), .junk, .junk, .junk, .junk, .junk, .junk, .junk, .junk, .junk, .junk, .junk, .junk, .junk, .junk, .junk, .junk, .junk, .junk, .junk, .junk, .junk, .junk, .junk, .junk, .junk, .junk, .junk, .junk, .junk, .junk, .junk, .junk, .junk, .junk, .junk, .junk, .junk, .junk, .junk, .junk, .junk, .junk, .junk, .junk, .junk, .junk, .junk, .junk, .junk, .junk, .junk, .junk, .junk, .junk, .junk, .junk, .junk, .junk, .junk, .junk, .junk, .junk, .junk, .junk, .junk, .junk, .junk, .junk, .junk, .junk, .junk, .junk, .junk, .junk, .junk, .junk, .junk, .junk, .junk, .junk, .junk, .junk, .junk, .junk, .junk, .junk, .junk, .junk, .junk, .junk, .junk, .junk, .junk, .junk, .junk, .junk, .junk, .junk, .junk, .junk, .junk, .junk, .junk, .junk, .junk, .junk, .junk, .junk, .junk, .junk, .junk, .junk, .junk, .junk, .junk, .junk, .junk, .junk, .junk, .junk, .junk, .junk, .junk, .junk, .junk, .junk, .junk, .junk, .junk, .junk, .junk, .junk, .junk, .junk, .junk, .junk, .junk, .junk, .junk, .junk, .junk, .junk, .junk, .junk, .junk, .junk, .junk, .junk, .junk, .junk, .junk, .junk, .junk, .junk, .junk, .junk, .junk, .junk, .junk, .junk, .junk, .junk, .junk, .junk, .junk, .junk, .junk, .junk, .junk, .junk, .junk, .junk, .junk, .junk, .junk, .junk, .junk, .junk, .junk, .junk, .junk, .junk, .junk, .junk, .junk, .junk, .junk, .junk, .junk, .junk, .junk, .junk, .junk, .junk], []⟩
  (contK Tryd.prog (H10 q39 q46 q50 q52 q55).sp 0 (inlK Tryd.prog (H10 q39 q46 q50 q52 q55) m 3) m fh10_10 (endK Tryd.prog Tryd.f10 (fun v L => viewK L 8 v some)) []))
noncomputable def F10_10_j20 (q39 q46 q50 q52 q55 : List D → Option D) (m : Nat) (u4_0 : Nat) (u4_1 : Option Nat) (u4_2 : List D) (u4_3 : Nat) (u4_4 : Option Nat) (u4_5 : List D) (u4_6 : Int) (u4_7 : Nat) (u4_8 : Option Nat) (u4_9 : List D) (u4_10 : Int) (u4_11 : Nat) (u4_12 : Option Nat) (u4_13 : List D) (u4_14 : Nat) (u4_15 : Option Nat) (u4_16 : List D) (u4_17 : Nat) (u4_18 : Option Nat) (u4_19 : List D) (u4_20 : Int) : Option D :=
 cutK (codeK Tryd.prog (H10 q39 q46 q50 q52 q55).sp 0 (inlK Tryd.prog (H10 q39 q46 q50 q52 q55) m 3) m fh10_10 (subc [1, 1, 1, 1, 1, 1, 1, 1, 1, 1, 0, 1, 0, 1] (bodyOf Tryd.f10)) ⟨[.junk, .junk, .junk, .junk, .junk, .junk, .junk, (AV.d (D.list u4_0 u4_1 u4_2)), .junk, (AV.d (D.list u4_3 u4_4 u4_5)), .junk, .junk, .junk, (AV.d (D.v (.int .i64 u4_6))), (AV.d (D.list u4_7 u4_8 u4_9)), (AV.d (D.v (.int .i64 u4_10))), .junk, .junk, (AV.d (D.list u4_11 u4_12 u4_13)), .junk, .junk, .junk, .junk, .junk, .junk, (AV.d (D.list u4_14 u4_15 u4_16)), (AV.d (D.list u4_17 u4_18 u4_19)), (AV.d (D.v (.int .i64 u4_20))), .junk, .junk, .junk, .junk, .junk, .junk, .junk, .junk, .junk, .junk, .junk, .junk, .junk, .junk, .junk, .junk, .junk, .junk, .junk, .junk, .junk, .junk, .junk, .junk, .junk, .junk, .junk, .junk, .junk, .junk, .junk, .junk, .junk, .junk, .junk, .junk, .junk, .junk, .junk, .junk, .junk, .junk, .junk, .junk, .junk, .junk, .junk, .junk, .junk, .junk, .junk, .junk, .junk, .junk, .junk, .junk, .junk, .junk, .junk, .junk, .junk, .junk, .junk, .junk, .junk, .junk, .junk, .junk, .junk, .junk, .junk, .junk, .junk, .junk, .junk, .junk, .junk, .junk, .junk, .junk, .junk, .junk, .junk, .junk, .junk, .junk, .junk, .junk, .junk, .junk, .junk, .junk, .junk, .junk, .junk, .junk, .junk, .junk, .junk, .junk, .junk, .junk, .junk, .junk, .junk, .junk, .junk, .junk, .junk, .junk, .junk, .junk, .junk, .junk, .junk, .junk, .junk, .junk, .junk, .junk, .junk, .junk, .junk, .junk, .junk, .junk, .junk, .junk, .junk, .junk, .junk, .junk, .junk, .junk, .junk, .junk, .junk, .junk, .junk, .junk, .junk, .junk, .junk, .junk, .junk, .junk, .junk, .junk, .junk, .junk, .junk, .junk, .junk, .junk, .junk, .junk, .junk, .junk, .junk, .junk, .junk, .junk, .junk, .junk, .junk, .junk, .junk, .junk, .junk, .junk, .junk, .junk, .junk, .junk, .junk, .junk, .junk, .junk, .junk, .junk, .junk, .junk, .junk, .junk, .junk], []⟩
  (contK Tryd.prog (H10 q39 q46 q50 q52 q55).sp 0 (inlK Tryd.prog (H10 q39 q46 q50 q52 q55) m 3) m fh10_10 (endK Tryd.prog Tryd.f10 (fun v L => viewK L 8 v some)) [.code (subc [1, 1, 1, 1, 1, 1, 1, 1, 1, 1, 1] (bodyOf Tryd.f10))]))
noncomputable def F10_10_j23 (q39 q46 q50 q52 q55 : List D → Option D) (m : Nat) (u5_0 : Nat) (u5_1 : Option Nat) (u5_2 : List D) (u5_3 : Nat) (u5_4 : Option Nat) (u5_5 : List D) (u5_6 : Int) (u5_7 : Nat) (u5_8 : Option Nat) (u5_9 : List D) (u5_10 : Int) (u5_11 : Nat) (u5_12 : Option Nat) (u5_13 : List D) : Option D :=
 cutK (codeK Tryd.prog (H10 q39 q46 q50 q52 q55).sp 0 (inlK Tryd.prog (H10 q39 q46 q50 q52 q55) m 3) m fh10_10 (subc [1, 1, 1, 1, 1, 1, 1, 1, 1, 1, 1] (bodyOf Tryd.f10)) ⟨[.junk, .junk, .junk, .junk, .junk, .junk, .junk, (AV.d (D.list u5_0 u5_1 u5_2)), .junk, (AV.d (D.list u5_3 u5_4 u5_5)), .junk, .junk, .junk, (AV.d (D.v (.int .i64 u5_6))), (AV.d (D.list u5_7 u5_8 u5_9)), (AV.d (D.v (.int .i64 u5_10))), .junk, .junk, (AV.d (D.list u5_11 u5_12 u5_13)), .junk, .junk, .junk, .junk, .junk, .junk, .junk, .junk, .junk, .junk, .junk, .junk, .junk, .junk, .junk, .junk, .junk, .junk, .junk, .junk, .junk, .junk, .junk, .junk, .junk, .junk, .junk, .junk, .junk, .junk, .junk, .junk, .junk, .junk, .junk, .junk, .junk, .junk, .junk, .junk, .junk, .junk, .junk, .junk, .junk, .junk, .junk, .junk, .junk, .junk, .junk, .junk, .junk, .junk, .junk, .junk, .junk, .junk, .junk, .junk, .junk, .junk, .junk, .junk, .junk, .junk, .junk, .junk, .junk, .junk, .junk, .junk, .junk, .junk, .junk, .junk, .junk, .junk, .junk, .junk, .junk, .junk, .junk, .junk, .junk, .junk, .junk, .junk, .junk, .junk, .junk, .junk, .junk, .junk, .junk, .junk, .junk, .junk, .junk, .junk, .junk, .junk, .junk, .junk, .junk, .junk, .junk, .junk, .junk, .junk, .junk, .junk, .junk, .junk, .junk, .junk, .junk, .junk, .junk, .junk, .junk, .junk, .junk, .junk, .junk, .junk, .junk, .junk, .junk, .junk, .junk, .junk, .junk, .junk, .junk, .junk, .junk, .junk, .junk, .junk, .junk, .junk, .junk, .junk, .junk, .junk, .junk, .junk, .junk, .junk, .junk, .junk, .junk, .junk, .junk, .junk, .junk, .junk, .junk, .junk, .junk, .junk, .junk, .junk, .junk, .junk, .junk, .junk, .junk, .junk, .junk, .junk, .junk, .junk, .junk, .junk, .junk, .junk, .junk, .junk, .junk, .junk, .junk, .junk, .junk, .junk, .junk, .junk, .junk, .junk, .junk, .junk, .junk, .junk], []⟩
  (contK Tryd.prog (H10 q39 q46 q50 q52 q55).sp 0 (inlK Tryd.prog (H10 q39 q46 q50 q52 q55) m 3) m fh10_10 (endK Tryd.prog Tryd.f10 (fun v L => viewK L 8 v some)) []))
noncomputable def F10_10_j26 (q39 q46 q50 q52 q55 : List D → Option D) (m : Nat) (u6_0 : Nat) (u6_1 : Option Nat) (u6_2 : List D) (u6_3 : Nat) (u6_4 : Option Nat) (u6_5 : List D) (u6_6 : Nat) (u6_7 : Option Nat) (u6_8 : List D) (u6_9 : Nat) (u6_10 : Option Nat) (u6_11 : List D) : Option D :=
 cutK (codeK Tryd.prog (H10 q39 q46 q50 q52 q55).sp 0 (inlK Tryd.prog (H10 q39 q46 q50 q52 q55) m 3) m fh10_10 (subc [1, 1, 1, 1, 1, 1, 1, 1, 1, 1, 1, 1, 1] (bodyOf Tryd.f10)) ⟨[.junk, .junk, .junk, .junk, .junk, .junk, .junk, (AV.d (D.list u6_0 u6_1 u6_2)), .junk, .junk, .junk, .junk, .junk, .junk, (AV.d (D.list u6_3 u6_4 u6_5)), .junk, .junk, .junk, (AV.d (D.list u6_6 u6_7 u6_8)), .junk, .junk, .junk, .junk, .junk, .junk, .junk, .junk, .junk, .junk, .junk, (AV.d (D.list u6_9 u6_10 u6_11)), .junk, .junk, .junk, .junk, .junk, .junk, .junk, .junk, .junk, .junk, .junk, .junk, .junk, .junk, .junk, .junk, .junk, .junk, .junk, .junk, .junk, .junk, .junk, .junk, .junk, .junk, .junk, .junk, .junk, .junk, .junk, .junk, .junk, .junk, .junk, .junk, .junk, .junk, .junk, .junk, .junk, .junk, .junk, .junk, .junk, .junk, .junk, .junk, .junk, .junk, .junk, .junk, .junk, .junk, .junk, .junk, .junk, .junk, .junk, .junk, .junk, .junk, .junk, .junk, .junk, .junk, .junk, .junk, .junk, .junk, .junk, .junk, .junk, .junk, .junk, .junk, .junk, .junk, .junk, .junk, .junk, .junk, .junk, .junk, .junk, .junk, .junk, .junk, .junk, .junk, .junk, .junk, .junk, .junk, .junk, .junk, .junk, .junk, .junk, .junk, .junk, .junk, .junk, .junk, .junk, .junk, .junk, .junk, .junk, .junk, .junk, .junk, .junk, .junk, .junk, .junk, .junk, .junk, .junk, .junk, .junk, .junk, .junk, .junk, .junk, .junk, .junk, .junk, .junk, .junk, .junk, .junk, .junk, .junk, .junk, .junk, .junk, .junk, .junk, .junk, .junk, .junk, .junk, .junk, .junk, .junk, .junk, .junk, .junk, .junk, .junk, .junk, .junk, .junk, .junk, .junk, .junk, .junk, .junk, .junk, .junk, .junk, .junk, .junk, .junk, .junk, .junk, .junk, .junk, .junk, .junk, .junk, .junk, .junk, .junk, .junk, .junk, .junk, .junk, .junk, .junk, .junk], []⟩
  (contK Tryd.prog (H10 q39 q46 q50 q52 q55).sp 0 (inlK Tryd.prog (H10 q39 q46 q50 q52 q55) m 3) m fh10_10 (endK Tryd.prog Tryd.f10 (fun v L => viewK L 8 v some)) []))
theorem F10_10_j26_e (q39 q46 q50 q52 q55 : List D → Option D) (m : Nat) (u6_0 : Nat) (u6_1 : Option Nat) (u6_2 : List D) (u6_3 : Nat) (u6_4 : Option Nat) (u6_5 : List D) (u6_6 : Nat) (u6_7 : Option Nat) (u6_8 : List D) (u6_9 : Nat) (u6_10 : Option Nat) (u6_11 : List D) : F10_10_j26 q39 q46 q50 q52 q55 m u6_0 u6_1 u6_2 u6_3 u6_4 u6_5 u6_6 u6_7 u6_8 u6_9 u6_10 u6_11 =
 ((q55 [(D.list u6_0 u6_1 u6_2), (D.list u6_6 u6_7 u6_8)]).bind fun d71 =>
 (rdT d71).bind fun r72 =>
 if List.length r72 = 2 then
 (rdL r72[0]?).bind fun q73 =>
 (rdI .i64 r72[1]?).bind fun x74 =>
 (q46 [(D.list u6_3 u6_4 u6_5), (D.list u6_9 u6_10 u6_11)]).bind fun d75 =>
 (rdT d75).bind fun r76 =>
 if List.length r76 = 2 then
 (rdL r76[0]?).bind fun q77 =>
 (rdI .i64 r76[1]?).bind fun x78 =>
 cond (x74 == x78)
 (if (List.length q73.cs) = q73.n then
 (bytesOf q73.cs).bind fun l79 =>
 if (List.length q77.cs) = q77.n then
 (bytesOf q77.cs).bind fun l80 =>
 cond (ByteArray.toList (ByteArray.mk (List.toArray l79)) == ByteArray.toList (ByteArray.mk (List.toArray l80)))
 ((q52 []).bind fun d81 =>
 (rdB (some d81)).bind fun b82 =>
 some (D.v (.bool b82)))
 (some (D.v (.bool false)))
 else none
 else none)
 (some (D.v (.bool false)))
 else none
 else none) := by kernel_rfl
theorem F10_10_j23_e (q39 q46 q50 q52 q55 : List D → Option D) (m : Nat) (u5_0 : Nat) (u5_1 : Option Nat) (u5_2 : List D) (u5_3 : Nat) (u5_4 : Option Nat) (u5_5 : List D) (u5_6 : Int) (u5_7 : Nat) (u5_8 : Option Nat) (u5_9 : List D) (u5_10 : Int) (u5_11 : Nat) (u5_12 : Option Nat) (u5_13 : List D) : F10_10_j23 q39 q46 q50 q52 q55 m u5_0 u5_1 u5_2 u5_3 u5_4 u5_5 u5_6 u5_7 u5_8 u5_9 u5_10 u5_11 u5_12 u5_13 =
 ((q55 [(D.list u5_0 u5_1 u5_2), (D.list u5_3 u5_4 u5_5)]).bind fun d61 =>
 (rdT d61).bind fun r62 =>
 if List.length r62 = 2 then
 (rdL r62[0]?).bind fun q63 =>
 (rdI .i64 r62[1]?).bind fun x64 =>
 cond (u5_6 != (0 : Int))
 ((q52 []).bind fun d65 =>
 (rdB (some d65)).bind fun b66 =>
 some (D.v (.bool b66)))
 (cond (u5_10 != (0 : Int))
 ((q52 []).bind fun d67 =>
 (rdB (some d67)).bind fun b68 =>
 some (D.v (.bool b68)))
 (cond (x64 != (0 : Int))
 ((q52 []).bind fun d69 =>
 (rdB (some d69)).bind fun b70 =>
 some (D.v (.bool b70)))
 (F10_10_j26 q39 q46 q50 q52 q55 m u5_0 u5_1 u5_2 u5_7 u5_8 u5_9 u5_11 u5_12 u5_13 q63.n q63.cap q63.cs)))
 else none) := by kernel_rfl
theorem F10_10_j20_e (q39 q46 q50 q52 q55 : List D → Option D) (m : Nat) (u4_0 : Nat) (u4_1 : Option Nat) (u4_2 : List D) (u4_3 : Nat) (u4_4 : Option Nat) (u4_5 : List D) (u4_6 : Int) (u4_7 : Nat) (u4_8 : Option Nat) (u4_9 : List D) (u4_10 : Int) (u4_11 : Nat) (u4_12 : Option Nat) (u4_13 : List D) (u4_14 : Nat) (u4_15 : Option Nat) (u4_16 : List D) (u4_17 : Nat) (u4_18 : Option Nat) (u4_19 : List D) (u4_20 : Int) : F10_10_j20 q39 q46 q50 q52 q55 m u4_0 u4_1 u4_2 u4_3 u4_4 u4_5 u4_6 u4_7 u4_8 u4_9 u4_10 u4_11 u4_12 u4_13 u4_14 u4_15 u4_16 u4_17 u4_18 u4_19 u4_20 =
 ((q55 [(D.list u4_0 u4_1 u4_2), (D.list u4_14 u4_15 u4_16)]).bind fun d55 =>
 (rdT d55).bind fun r56 =>
 if List.length r56 = 2 then
 (rdL r56[0]?).bind fun q57 =>
 (rdI .i64 r56[1]?).bind fun x58 =>
 cond (u4_20 != x58)
 (some (D.v (.bool false)))
 (if (List.length u4_19) = u4_17 then
 (bytesOf u4_19).bind fun l59 =>
 if (List.length q57.cs) = q57.n then
 (bytesOf q57.cs).bind fun l60 =>
 cond (!(ByteArray.toList (ByteArray.mk (List.toArray l59)) == ByteArray.toList (ByteArray.mk (List.toArray l60))))
 (some (D.v (.bool false)))
 (F10_10_j23 q39 q46 q50 q52 q55 m u4_0 u4_1 u4_2 u4_3 u4_4 u4_5 u4_6 u4_7 u4_8 u4_9 u4_10 u4_11 u4_12 u4_13)
 else none
 else none)
 else none) := by kernel_rfl
theorem F10_10_j17_e (q39 q46 q50 q52 q55 : List D → Option D) (m : Nat) (u3_0 : Nat) (u3_1 : Option Nat) (u3_2 : List D) (u3_3 : Nat) (u3_4 : Option Nat) (u3_5 : List D) (u3_6 : Nat) (u3_7 : Option Nat) (u3_8 : List D) (u3_9 : Int) (u3_10 : Nat) (u3_11 : Option Nat) (u3_12 : List D) (u3_13 : Int) (u3_14 : Nat) (u3_15 : Option Nat) (u3_16 : List D) : F10_10_j17 q39 q46 q50 q52 q55 m u3_0 u3_1 u3_2 u3_3 u3_4 u3_5 u3_6 u3_7 u3_8 u3_9 u3_10 u3_11 u3_12 u3_13 u3_14 u3_15 u3_16 =
 ((q55 [(D.list u3_3 u3_4 u3_5), (D.list u3_6 u3_7 u3_8)]).bind fun d47 =>
 (rdT d47).bind fun r48 =>
 if List.length r48 = 2 then
 (rdL r48[0]?).bind fun q49 =>
 (rdI .i64 r48[1]?).bind fun x50 =>
 cond (u3_13 == (0 : Int))
 (cond (x50 == (0 : Int))
 ((q55 [(D.list u3_10 u3_11 u3_12), (D.list u3_6 u3_7 u3_8)]).bind fun d51 =>
 (rdT d51).bind fun r52 =>
 if List.length r52 = 2 then
 (rdL r52[0]?).bind fun q53 =>
 (rdI .i64 r52[1]?).bind fun x54 =>
 F10_10_j20 q39 q46 q50 q52 q55 m u3_0 u3_1 u3_2 u3_6 u3_7 u3_8 u3_9 u3_10 u3_11 u3_12 u3_13 u3_14 u3_15 u3_16 q49.n q49.cap q49.cs q53.n q53.cap q53.cs x54
 else none)
 (F10_10_j23 q39 q46 q50 q52 q55 m u3_0 u3_1 u3_2 u3_6 u3_7 u3_8 u3_9 u3_10 u3_11 u3_12 u3_13 u3_14 u3_15 u3_16))
 (F10_10_j23 q39 q46 q50 q52 q55 m u3_0 u3_1 u3_2 u3_6 u3_7 u3_8 u3_9 u3_10 u3_11 u3_12 u3_13 u3_14 u3_15 u3_16)
 else none) := by kernel_rfl
theorem F10_10_j14_e (q39 q46 q50 q52 q55 : List D → Option D) (m : Nat) (u2_0 : Nat) (u2_1 : Option Nat) (u2_2 : List D) (u2_3 : Nat) (u2_4 : Option Nat) (u2_5 : List D) (u2_6 : Nat) (u2_7 : Option Nat) (u2_8 : List D) (u2_9 : Nat) (u2_10 : Option Nat) (u2_11 : List D) (u2_12 : Int) (u2_13 : Nat) (u2_14 : Option Nat) (u2_15 : List D) (u2_16 : Int) (u2_17 : Nat) (u2_18 : Option Nat) (u2_19 : List D) : F10_10_j14 q39 q46 q50 q52 q55 m u2_0 u2_1 u2_2 u2_3 u2_4 u2_5 u2_6 u2_7 u2_8 u2_9 u2_10 u2_11 u2_12 u2_13 u2_14 u2_15 u2_16 u2_17 u2_18 u2_19 =
 ((q50 [(D.list u2_9 u2_10 u2_11), (D.list u2_3 u2_4 u2_5)]).bind fun d41 =>
 (rdT d41).bind fun r42 =>
 if List.length r42 = 2 then
 (rdL r42[0]?).bind fun q43 =>
 (rdI .i64 r42[1]?).bind fun x44 =>
 cond (x44 != (0 : Int))
 (some (D.v (.bool false)))
 (if (List.length q43.cs) = q43.n then
 (bytesOf q43.cs).bind fun l45 =>
 if (List.length u2_2) = u2_0 then
 (bytesOf u2_2).bind fun l46 =>
 cond (!(ByteArray.toList (ByteArray.mk (List.toArray l45)) == ByteArray.toList (ByteArray.mk (List.toArray l46))))
 (some (D.v (.bool false)))
 (F10_10_j17 q39 q46 q50 q52 q55 m u2_0 u2_1 u2_2 u2_3 u2_4 u2_5 u2_6 u2_7 u2_8 u2_12 u2_13 u2_14 u2_15 u2_16 u2_17 u2_18 u2_19)
 else none
 else none)
 else none) := by kernel_rfl
theorem F10_10_j11_e (q39 q46 q50 q52 q55 : List D → Option D) (m : Nat) (u1_0 : Nat) (u1_1 : Option Nat) (u1_2 : List D) (u1_3 : Nat) (u1_4 : Option Nat) (u1_5 : List D) (u1_6 : Nat) (u1_7 : Option Nat) (u1_8 : List D) (u1_9 : Nat) (u1_10 : Option Nat) (u1_11 : List D) (u1_12 : Int) (u1_13 : Nat) (u1_14 : Option Nat) (u1_15 : List D) (u1_16 : Int) (u1_17 : Nat) (u1_18 : Option Nat) (u1_19 : List D) (u1_20 : Nat) (u1_21 : Option Nat) (u1_22 : List D) (u1_23 : Int) : F10_10_j11 q39 q46 q50 q52 q55 m u1_0 u1_1 u1_2 u1_3 u1_4 u1_5 u1_6 u1_7 u1_8 u1_9 u1_10 u1_11 u1_12 u1_13 u1_14 u1_15 u1_16 u1_17 u1_18 u1_19 u1_20 u1_21 u1_22 u1_23 =
 ((q46 [(D.list u1_0 u1_1 u1_2), (D.list u1_17 u1_18 u1_19)]).bind fun d35 =>
 (rdT d35).bind fun r36 =>
 if List.length r36 = 2 then
 (rdL r36[0]?).bind fun q37 =>
 (rdI .i64 r36[1]?).bind fun x38 =>
 cond (u1_23 != x38)
 (some (D.v (.bool false)))
 (if (List.length u1_22) = u1_20 then
 (bytesOf u1_22).bind fun l39 =>
 if (List.length q37.cs) = q37.n then
 (bytesOf q37.cs).bind fun l40 =>
 cond (!(ByteArray.toList (ByteArray.mk (List.toArray l39)) == ByteArray.toList (ByteArray.mk (List.toArray l40))))
 (some (D.v (.bool false)))
 (F10_10_j14 q39 q46 q50 q52 q55 m u1_0 u1_1 u1_2 u1_3 u1_4 u1_5 u1_6 u1_7 u1_8 u1_9 u1_10 u1_11 u1_12 u1_13 u1_14 u1_15 u1_16 u1_17 u1_18 u1_19)
 else none
 else none)
 else none) := by kernel_rfl
theorem F10_10_j8_e (q39 q46 q50 q52 q55 : List D → Option D) (m : Nat) (u0_0 : Nat) (u0_1 : Option Nat) (u0_2 : List D) (u0_3 : Nat) (u0_4 : Option Nat) (u0_5 : List D) (u0_6 : Nat) (u0_7 : Option Nat) (u0_8 : List D) (u0_9 : Nat) (u0_10 : Option Nat) (u0_11 : List D) (u0_12 : Int) (u0_13 : Nat) (u0_14 : Option Nat) (u0_15 : List D) (u0_16 : Int) : F10_10_j8 q39 q46 q50 q52 q55 m u0_0 u0_1 u0_2 u0_3 u0_4 u0_5 u0_6 u0_7 u0_8 u0_9 u0_10 u0_11 u0_12 u0_13 u0_14 u0_15 u0_16 =
 ((q46 [(D.list u0_3 u0_4 u0_5), (D.list u0_6 u0_7 u0_8)]).bind fun d27 =>
 (rdT d27).bind fun r28 =>
 if List.length r28 = 2 then
 (rdL r28[0]?).bind fun q29 =>
 (rdI .i64 r28[1]?).bind fun x30 =>
 cond (u0_12 == (0 : Int))
 (cond (x30 == (0 : Int))
 ((q46 [(D.list u0_9 u0_10 u0_11), (D.list u0_6 u0_7 u0_8)]).bind fun d31 =>
 (rdT d31).bind fun r32 =>
 if List.length r32 = 2 then
 (rdL r32[0]?).bind fun q33 =>
 (rdI .i64 r32[1]?).bind fun x34 =>
 F10_10_j11 q39 q46 q50 q52 q55 m u0_0 u0_1 u0_2 u0_3 u0_4 u0_5 u0_6 u0_7 u0_8 u0_9 u0_10 u0_11 x30 u0_13 u0_14 u0_15 u0_16 q29.n q29.cap q29.cs q33.n q33.cap q33.cs x34
 else none)
 (F10_10_j17 q39 q46 q50 q52 q55 m u0_0 u0_1 u0_2 u0_3 u0_4 u0_5 u0_6 u0_7 u0_8 x30 u0_13 u0_14 u0_15 u0_16 q29.n q29.cap q29.cs))
 (F10_10_j17 q39 q46 q50 q52 q55 m u0_0 u0_1 u0_2 u0_3 u0_4 u0_5 u0_6 u0_7 u0_8 x30 u0_13 u0_14 u0_15 u0_16 q29.n q29.cap q29.cs)
 else none) := by kernel_rfl
noncomputable def F10 (q39 q46 q50 q52 q55 : List D → Option D) (m : Nat) (a0_0n : Nat) (a0_0c : Option Nat) (a0_0 : List D) (a1_0n : Nat) (a1_0c : Option Nat) (a1_0 : List D) (a2_0n : Nat) (a2_0c : Option Nat) (a2_0 : List D) : Option D :=
 (q39 [(D.agg [(D.list a0_0n a0_0c a0_0)])]).bind fun d1 =>
 (rdL (some d1)).bind fun q2 =>
 (q39 [(D.agg [(D.list a1_0n a1_0c a1_0)])]).bind fun d3 =>
 (rdL (some d3)).bind fun q4 =>
 (q39 [(D.agg [(D.list a2_0n a2_0c a2_0)])]).bind fun d5 =>
 (rdL (some d5)).bind fun q6 =>
 (q46 [(D.list q2.n q2.cap q2.cs), (D.list q4.n q4.cap q4.cs)]).bind fun d7 =>
 (rdT d7).bind fun r8 =>
 if List.length r8 = 2 then
 (rdL r8[0]?).bind fun q9 =>
 (rdI .i64 r8[1]?).bind fun x10 =>
 (q46 [(D.list q4.n q4.cap q4.cs), (D.list q2.n q2.cap q2.cs)]).bind fun d11 =>
 (rdT d11).bind fun r12 =>
 if List.length r12 = 2 then
 (rdL r12[0]?).bind fun q13 =>
 (rdI .i64 r12[1]?).bind fun x14 =>
 (q55 [(D.list q2.n q2.cap q2.cs), (D.list q4.n q4.cap q4.cs)]).bind fun d15 =>
 (rdT d15).bind fun r16 =>
 if List.length r16 = 2 then
 (rdL r16[0]?).bind fun q17 =>
 (rdI .i64 r16[1]?).bind fun x18 =>
 (q55 [(D.list q4.n q4.cap q4.cs), (D.list q2.n q2.cap q2.cs)]).bind fun d19 =>
 (rdT d19).bind fun r20 =>
 if List.length r20 = 2 then
 (rdL r20[0]?).bind fun q21 =>
 (rdI .i64 r20[1]?).bind fun x22 =>
 cond (x10 != x14)
 (some (D.v (.bool false)))
 (cond (x18 != x22)
 (some (D.v (.bool false)))
 (if (List.length q9.cs) = q9.n then
 (bytesOf q9.cs).bind fun l23 =>
 if (List.length q13.cs) = q13.n then
 (bytesOf q13.cs).bind fun l24 =>
 cond (!(ByteArray.toList (ByteArray.mk (List.toArray l23)) == ByteArray.toList (ByteArray.mk (List.toArray l24))))
 (some (D.v (.bool false)))
 (if (List.length q17.cs) = q17.n then
 (bytesOf q17.cs).bind fun l25 =>
 if (List.length q21.cs) = q21.n then
 (bytesOf q21.cs).bind fun l26 =>
 cond (!(ByteArray.toList (ByteArray.mk (List.toArray l25)) == ByteArray.toList (ByteArray.mk (List.toArray l26))))
 (some (D.v (.bool false)))
 (F10_10_j8 q39 q46 q50 q52 q55 m q2.n q2.cap q2.cs q4.n q4.cap q4.cs q6.n q6.cap q6.cs q9.n q9.cap q9.cs x10 q17.n q17.cap q17.cs x18)
 else none
 else none)
 else none
 else none))
 else none
 else none
 else none
 else none
theorem F10_eq (q39 q46 q50 q52 q55 : List D → Option D) (m : Nat) (a0_0n : Nat) (a0_0c : Option Nat) (a0_0 : List D) (a1_0n : Nat) (a1_0c : Option Nat) (a1_0 : List D) (a2_0n : Nat) (a2_0c : Option Nat) (a2_0 : List D) : funD Tryd.prog (H10 q39 q46 q50 q52 q55) m 3 fh10_10 Tryd.f10 [(D.agg [(D.list a0_0n a0_0c a0_0)]), (D.agg [(D.list a1_0n a1_0c a1_0)]), (D.agg [(D.list a2_0n a2_0c a2_0)])] = F10 q39 q46 q50 q52 q55 m a0_0n a0_0c a0_0 a1_0n a1_0c a1_0 a2_0n a2_0c a2_0 := by kernel_rfl
theorem en10 : Enters Tryd.prog 10 := ⟨Tryd.f10, Tryd.func10, by kernel_rfl, by kernel_rfl⟩
theorem dt10 {ds : List D} {d : D} (h : funD Tryd.prog (H10 sp39 sp46 sp50 sp52 sp55) M 3 fh10_10 Tryd.f10 ds = some d) : DataSem Tryd.prog 10 ds d := data_sound (H := (H10 sp39 sp46 sp50 sp52 sp55)) (SpOk.cons ds39 (SpOk.cons ds46 (SpOk.cons ds50 (SpOk.cons ds52 (SpOk.cons ds55 SpOk.nil))))) mixed InlOk.nil Tryd.func10 en10 h
noncomputable def sp10 : List D → Option D
  | [.agg [.list a0_0n a0_0c a0_0], .agg [.list a1_0n a1_0c a1_0], .agg [.list a2_0n a2_0c a2_0]] => F10 sp39 sp46 sp50 sp52 sp55 M a0_0n a0_0c a0_0 a1_0n a1_0c a1_0 a2_0n a2_0c a2_0
  | _ => none
theorem ds10 : ∀ ds d, sp10 ds = some d → DataSem Tryd.prog 10 ds d := by
  intro ds d h
  unfold sp10 at h
  split at h
  · exact dt10 ((F10_eq sp39 sp46 sp50 sp52 sp55 M _ _ _ _ _ _ _ _ _).trans h)
  · cases h

-- ('str', '"vidimus/vidimuslaw01.NatsOrder"')
def fh13_13 : FnH := ⟨[], [(3, ⟨[true, true, false, false, false, false, false, false, false, false, false, false, false, false, false, false, false, false, false, false, false, false, false, false, false, false, false, false, false, false, false, false, false, false, false, false, false, false, false, false, false, false, false, false], [], (some 0)⟩)]⟩
def H13 (q45 q51 q52 q61 : List D → Option D) : Hints := ⟨[(45, q45), (51, q51), (52, q52), (61, q61)], []⟩
noncomputable def F13_13_j3 (q45 q51 q52 q61 : List D → Option D) (m : Nat) (u0_0 : Nat) (u0_1 : Option Nat) (u0_2 : List D) (u0_3 : Nat) (u0_4 : Option Nat) (u0_5 : List D) : Option D :=
 cutK (codeK Tryd.prog (H13 q45 q51 q52 q61).sp 0 (inlK Tryd.prog (H13 q45 q51 q52 q61) m 3) m fh13_13 (subc [1, 1] (bodyOf Tryd.f13)) ⟨[(AV.d (D.list u0_0 u0_1 u0_2)), (AV.d (D.list u0_3 u0_4 u0_5)), .junk, .junk, .junk, .junk, .junk, .junk, .junk, .junk, .junk, .junk, .junk, .junk, .junk, .junk, .junk, .junk, .junk, .junk, .junk, .junk, .junk, .junk, .junk, .junk, .junk, .junk, .junk, .junk, .junk, .junk, .junk, .junk, .junk, .junk, .junk, .junk, .junk, .junk, .junk, .junk, .junk, .junk], []⟩
  (contK Tryd.prog (H13 q45 q51 q52 q61).sp 0 (inlK Tryd.prog (H13 q45 q51 q52 q61) m 3) m fh13_13 (endK Tryd.prog Tryd.f13 (fun v L => viewK L 8 v some)) []))
theorem F13_13_j3_e (q45 q51 q52 q61 : List D → Option D) (m : Nat) (u0_0 : Nat) (u0_1 : Option Nat) (u0_2 : List D) (u0_3 : Nat) (u0_4 : Option Nat) (u0_5 : List D) : F13_13_j3 q45 q51 q52 q61 m u0_0 u0_1 u0_2 u0_3 u0_4 u0_5 =
 ((q61 [(D.list u0_0 u0_1 u0_2), (D.list u0_3 u0_4 u0_5)]).bind fun d5 =>
 (rdI .i64 (some d5)).bind fun x6 =>
 (q45 [(D.list u0_0 u0_1 u0_2)]).bind fun d7 =>
 (rdL (some d7)).bind fun q8 =>
 (q45 [(D.list u0_3 u0_4 u0_5)]).bind fun d9 =>
 (rdL (some d9)).bind fun q10 =>
 (q51 [(D.list q8.n q8.cap q8.cs), (D.list q10.n q10.cap q10.cs)]).bind fun d11 =>
 (rdI .i64 (some d11)).bind fun x12 =>
 cond (x6 == x12)
 ((q61 [(D.list u0_3 u0_4 u0_5), (D.list u0_0 u0_1 u0_2)]).bind fun d13 =>
 (rdI .i64 (some d13)).bind fun x14 =>
 cond (x14 == (IntKind.wrap .i64 (0 - x6)))
 (if (List.length u0_2) = (u0_0 * 1) then
 if (2 + u0_0) ≤ 2 then
 (if (0 + ((2 + u0_0) * 1)) ≤ 2 ∧ (List.length u0_2) = (u0_0 * 1) then
 if (0 + ((2 + u0_0) * 1)) ≤ 2 then
 (q61 [(D.list u0_0 u0_1 u0_2), (D.list (2 + u0_0) (some 2) (cutL 2 (List.take 2 [(D.v (.int .u8 (0 : Int))), (D.v (.int .u8 (0 : Int)))] ++ (u0_2 ++ List.drop (0 + ((2 + u0_0) * 1)) [(D.v (.int .u8 (0 : Int))), (D.v (.int .u8 (0 : Int)))])) 0 ((2 + u0_0) * 1)))]).bind fun d15 =>
 (rdI .i64 (some d15)).bind fun x16 =>
 cond (x16 == (0 : Int))
 ((q52 []).bind fun d17 =>
 (rdB (some d17)).bind fun b18 =>
 some (D.v (.bool b18)))
 (some (D.v (.bool false)))
 else none
 else none)
 else
 (if fitsRow (2 + u0_0) 1 ∧ (List.length u0_2) = (u0_0 * 1) then
 if (0 + ((2 + u0_0) * 1)) ≤ ((2 + u0_0) * 1) then
 (q61 [(D.list u0_0 u0_1 u0_2), (D.list (2 + u0_0) none (cutL ((2 + u0_0) * 1) ([(D.v (.int .u8 (0 : Int))), (D.v (.int .u8 (0 : Int)))] ++ u0_2) 0 ((2 + u0_0) * 1)))]).bind fun d19 =>
 (rdI .i64 (some d19)).bind fun x20 =>
 cond (x20 == (0 : Int))
 ((q52 []).bind fun d21 =>
 (rdB (some d21)).bind fun b22 =>
 some (D.v (.bool b22)))
 (some (D.v (.bool false)))
 else none
 else none)
 else none)
 (some (D.v (.bool false))))
 (some (D.v (.bool false)))) := by kernel_rfl
noncomputable def F13 (q45 q51 q52 q61 : List D → Option D) (m : Nat) (a0n : Nat) (a0c : Option Nat) (a0 : List D) (a1n : Nat) (a1c : Option Nat) (a1 : List D) : Option D :=
 cond (decide (((a0n : Nat) : Int) > (80 : Int)))
 ((q52 []).bind fun d1 =>
 (rdB (some d1)).bind fun b2 =>
 some (D.v (.bool b2)))
 (cond (decide (((a1n : Nat) : Int) > (80 : Int)))
 ((q52 []).bind fun d3 =>
 (rdB (some d3)).bind fun b4 =>
 some (D.v (.bool b4)))
 (F13_13_j3 q45 q51 q52 q61 m a0n a0c a0 a1n a1c a1))
theorem F13_eq (q45 q51 q52 q61 : List D → Option D) (m : Nat) (a0n : Nat) (a0c : Option Nat) (a0 : List D) (a1n : Nat) (a1c : Option Nat) (a1 : List D) : funD Tryd.prog (H13 q45 q51 q52 q61) m 3 fh13_13 Tryd.f13 [(D.list a0n a0c a0), (D.list a1n a1c a1)] = F13 q45 q51 q52 q61 m a0n a0c a0 a1n a1c a1 := by kernel_rfl
theorem en13 : Enters Tryd.prog 13 := ⟨Tryd.f13, Tryd.func13, by kernel_rfl, by kernel_rfl⟩
theorem dt13 {ds : List D} {d : D} (h : funD Tryd.prog (H13 sp45 sp51 sp52 sp61) M 3 fh13_13 Tryd.f13 ds = some d) : DataSem Tryd.prog 13 ds d := data_sound (H := (H13 sp45 sp51 sp52 sp61)) (SpOk.cons ds45 (SpOk.cons ds51 (SpOk.cons ds52 (SpOk.cons ds61 SpOk.nil)))) mixed InlOk.nil Tryd.func13 en13 h
noncomputable def sp13 : List D → Option D
  | [.list a0n a0c a0, .list a1n a1c a1] => F13 sp45 sp51 sp52 sp61 M a0n a0c a0 a1n a1c a1
  | _ => none
theorem ds13 : ∀ ds d, sp13 ds = some d → DataSem Tryd.prog 13 ds d := by
  intro ds d h
  unfold sp13 at h
  split at h
  · exact dt13 ((F13_eq sp45 sp51 sp52 sp61 M _ _ _ _ _ _).trans h)
  · cases h

-- ('str', '"vidimus/vidimuslaw01.NatsDivide"')
def fh11_11 : FnH := ⟨[], [(8, ⟨[false, true, false, false, false, true, true, true, false, false, false, false, false, false, false, false, false, false, false, false, false, false, false, false, false, false, false, false, false, false, false, false, false, false, false, false, false, false, false, false, false, false, false, false, false, false, false, false, false, false, false, false, false, false, false, false, false, false, false, false, false, false, false, false, false, false, false, false, false, false, false, false, false, false, false, false, false, false, false, false, false, false, false, false, false, false, false, false, false, false, false, false], [], (some 0)⟩)]⟩
def H11 (q39 q45 q46 q47 q52 q55 q56 q57 q58 : List D → Option D) : Hints := ⟨[(39, q39), (45, q45), (46, q46), (47, q47), (52, q52), (55, q55), (56, q56), (57, q57), (58, q58)], []⟩
noncomputable def F11_11_j8 (q39 q45 q46 q47 q52 q55 q56 q57 q58 : List D → Option D) (m : Nat) (u0_0 : Int) (u0_1 : Nat) (u0_2 : Option Nat) (u0_3 : List D) (u0_4 : Nat) (u0_5 : Option Nat) (u0_6 : List D) (u0_7 : Int) : Option D :=
 cutK (codeK Tryd.prog (H11 q39 q45 q46 q47 q52 q55 q56 q57 q58).sp 0 (inlK Tryd.prog (H11 q39 q45 q46 q47 q52 q55 q56 q57 q58) m 3) m fh11_11 (subc [1, 1, 1, 1, 1, 1] (bodyOf Tryd.f11)) ⟨[.junk, (AV.d (D.v (.int .u32 u0_0))), .junk, .junk, .junk, (AV.d (D.list u0_1 u0_2 u0_3)), (AV.d (D.list u0_4 u0_5 u0_6)), (AV.d (D.v (.int .u32 u0_7))), .junk, .junk, .junk, .junk, .junk, .junk, .junk, .junk, .junk, .junk, .junk, .junk, .junk, .junk, .junk, .junk, .junk, .junk, .junk, .junk, .junk, .junk, .junk, .junk, .junk, .junk, .junk, .junk, .junk, .junk, .junk, .junk, .junk, .junk, .junk, .junk, .junk, .junk, .junk, .junk, .junk, .junk, .junk, .junk, .junk, .junk, .junk, .junk, .junk, .junk, .junk, .junk, .junk, .junk, .junk, .junk, .junk, .junk, .junk, .junk, .junk, .junk, .junk, .junk, .junk, .junk, .junk, .junk, .junk, .junk, .junk, .junk, .junk, .junk, .junk, .junk, .junk, .junk, .junk, .junk, .junk, .junk, .junk, .junk], []⟩
  (contK Tryd.prog (H11 q39 q45 q46 q47 q52 q55 q56 q57 q58).sp 0 (inlK Tryd.prog (H11 q39 q45 q46 q47 q52 q55 q56 q57 q58) m 3) m fh11_11 (endK Tryd.prog Tryd.f11 (fun v L => viewK L 8 v some)) []))
theorem F11_11_j8_e (q39 q45 q46 q47 q52 q55 q56 q57 q58 : List D → Option D) (m : Nat) (u0_0 : Int) (u0_1 : Nat) (u0_2 : Option Nat) (u0_3 : List D) (u0_4 : Nat) (u0_5 : Option Nat) (u0_6 : List D) (u0_7 : Int) : F11_11_j8 q39 q45 q46 q47 q52 q55 q56 q57 q58 m u0_0 u0_1 u0_2 u0_3 u0_4 u0_5 u0_6 u0_7 =
 ((q58 [(D.v (.int .u64 (IntKind.wrap .u64 u0_0)))]).bind fun d20 =>
 (rdL (some d20)).bind fun q21 =>
 (q55 [(D.list u0_4 u0_5 u0_6), (D.list q21.n q21.cap q21.cs)]).bind fun d22 =>
 (rdT d22).bind fun r23 =>
 if List.length r23 = 2 then
 (rdL r23[0]?).bind fun q24 =>
 (rdI .i64 r23[1]?).bind fun x25 =>
 (q58 [(D.v (.int .u64 (IntKind.wrap .u64 u0_7)))]).bind fun d26 =>
 (rdL (some d26)).bind fun q27 =>
 (q46 [(D.list q24.n q24.cap q24.cs), (D.list q27.n q27.cap q27.cs)]).bind fun d28 =>
 (rdT d28).bind fun r29 =>
 if List.length r29 = 2 then
 (rdL r29[0]?).bind fun q30 =>
 (rdI .i64 r29[1]?).bind fun x31 =>
 cond (x25 == (0 : Int))
 (cond (x31 == (0 : Int))
 (if (List.length q30.cs) = q30.n then
 (bytesOf q30.cs).bind fun l32 =>
 if (List.length u0_3) = u0_1 then
 (bytesOf u0_3).bind fun l33 =>
 cond (ByteArray.toList (ByteArray.mk (List.toArray l32)) == ByteArray.toList (ByteArray.mk (List.toArray l33)))
 ((q52 []).bind fun d34 =>
 (rdB (some d34)).bind fun b35 =>
 some (D.v (.bool b35)))
 (some (D.v (.bool false)))
 else none
 else none)
 (some (D.v (.bool false))))
 (some (D.v (.bool false)))
 else none
 else none) := by kernel_rfl
noncomputable def F11 (q39 q45 q46 q47 q52 q55 q56 q57 q58 : List D → Option D) (m : Nat) (a0_0n : Nat) (a0_0c : Option Nat) (a0_0 : List D) (a1 : Int) : Option D :=
 (q39 [(D.agg [(D.list a0_0n a0_0c a0_0)])]).bind fun d1 =>
 (rdL (some d1)).bind fun q2 =>
 (q56 [(D.list q2.n q2.cap q2.cs), (D.v (.int .u32 a1))]).bind fun d3 =>
 (rdT d3).bind fun r4 =>
 if List.length r4 = 3 then
 (rdL r4[0]?).bind fun q5 =>
 (rdI .u32 r4[1]?).bind fun x6 =>
 (rdI .i64 r4[2]?).bind fun x7 =>
 cond (a1 == (0 : Int))
 ((q47 [(D.list q5.n q5.cap q5.cs), (D.v (.int .i64 x7)), (D.list 0 (some 0) []), (D.v (.int .i64 (1 : Int)))]).bind fun d8 =>
 (rdB (some d8)).bind fun b9 =>
 cond b9
 (cond (x6 == (0 : Int))
 ((q52 []).bind fun d10 =>
 (rdB (some d10)).bind fun b11 =>
 some (D.v (.bool b11)))
 (some (D.v (.bool false))))
 (some (D.v (.bool false))))
 ((q45 [(D.list q2.n q2.cap q2.cs)]).bind fun d12 =>
 (rdL (some d12)).bind fun q13 =>
 (q57 [(D.list q13.n q13.cap q13.cs), (D.v (.int .i64 (IntKind.wrap .i64 a1)))]).bind fun d14 =>
 (rdT d14).bind fun r15 =>
 if List.length r15 = 2 then
 (rdL r15[0]?).bind fun q16 =>
 (rdI .i64 r15[1]?).bind fun x17 =>
 (q47 [(D.list q5.n q5.cap q5.cs), (D.v (.int .i64 x7)), (D.list q16.n q16.cap q16.cs), (D.v (.int .i64 (0 : Int)))]).bind fun d18 =>
 (rdB (some d18)).bind fun b19 =>
 cond (!b19)
 (some (D.v (.bool false)))
 (cond ((IntKind.wrap .i64 x6) != x17)
 (some (D.v (.bool false)))
 (cond (decide (x6 ≥ a1))
 (some (D.v (.bool false)))
 (F11_11_j8 q39 q45 q46 q47 q52 q55 q56 q57 q58 m a1 q2.n q2.cap q2.cs q5.n q5.cap q5.cs x6)))
 else none)
 else none
theorem F11_eq (q39 q45 q46 q47 q52 q55 q56 q57 q58 : List D → Option D) (m : Nat) (a0_0n : Nat) (a0_0c : Option Nat) (a0_0 : List D) (a1 : Int) : funD Tryd.prog (H11 q39 q45 q46 q47 q52 q55 q56 q57 q58) m 3 fh11_11 Tryd.f11 [(D.agg [(D.list a0_0n a0_0c a0_0)]), (D.v (.int .u32 a1))] = F11 q39 q45 q46 q47 q52 q55 q56 q57 q58 m a0_0n a0_0c a0_0 a1 := by kernel_rfl
theorem en11 : Enters Tryd.prog 11 := ⟨Tryd.f11, Tryd.func11, by kernel_rfl, by kernel_rfl⟩
theorem dt11 {ds : List D} {d : D} (h : funD Tryd.prog (H11 sp39 sp45 sp46 sp47 sp52 sp55 sp56 sp57 sp58) M 3 fh11_11 Tryd.f11 ds = some d) : DataSem Tryd.prog 11 ds d := data_sound (H := (H11 sp39 sp45 sp46 sp47 sp52 sp55 sp56 sp57 sp58)) (SpOk.cons ds39 (SpOk.cons ds45 (SpOk.cons ds46 (SpOk.cons ds47 (SpOk.cons ds52 (SpOk.cons ds55 (SpOk.cons ds56 (SpOk.cons ds57 (SpOk.cons ds58 SpOk.nil))))))))) mixed InlOk.nil Tryd.func11 en11 h
noncomputable def sp11 : List D → Option D
  | [.agg [.list a0_0n a0_0c a0_0], .v (.int .u32 a1)] => F11 sp39 sp45 sp46 sp47 sp52 sp55 sp56 sp57 sp58 M a0_0n a0_0c a0_0 a1
  | _ => none
theorem ds11 : ∀ ds d, sp11 ds = some d → DataSem Tryd.prog 11 ds d := by
  intro ds d h
  unfold sp11 at h
  split at h
  · exact dt11 ((F11_eq sp39 sp45 sp46 sp47 sp52 sp55 sp56 sp57 sp58 M _ _ _ _).trans h)
  · cases h

end Go.Ev
