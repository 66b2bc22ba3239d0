/-
 Sets of object identifiers: what their checks return.
-/
import Derived.Test.YthakkigkdhaihaaGreatDoorEzL1
set_option linter.unusedSimpArgs false
set_option linter.unusedVariables false
namespace Go.Ev
open Go
theorem Z12d {l : List Oid} (h : ∀ x, x ∈ l → x.ok) : (oidsC l).length = l.length * 17 := rows_len fun x hx => Oid.cells_len (h x hx)
theorem Zvs {l : List Oid} (h : ∀ x, x ∈ l → x.ok) {i : Nat} (hi : i < l.length) : ((oidsC l).drop (i * 17)).take 17 = l[i].cells := row_get (fun x hx => Oid.cells_len (h x hx)) hi
def prevO (l : List Oid) (i : Nat) : Option Oid := if i = 0 then none else l[i - 1]?
theorem Z1j2 {l : List Oid} {i : Nat} (hi : i < l.length) : prevO l (i + 1) = some l[i] := by
 unfold prevO
 rw [if_neg (by omega), Nat.add_sub_cancel, List.getElem?_eq_getElem hi]
theorem Z1bs {l : List Oid} {i : Nat} (hi : i < l.length) : setErrFrom (prevO l i) (l.drop i) = if l[i].good = false then 1 else
  if h : i = 0 then setErrFrom (prevO l (i + 1)) (l.drop (i + 1)) else
   if Oid.cmp (l[i - 1]'(by omega)) l[i] = 0 then 14 else if 0 < Oid.cmp (l[i - 1]'(by omega)) l[i] then 13 else setErrFrom (prevO l (i + 1)) (l.drop (i + 1)) := by
 rw [List.drop_eq_getElem_cons hi, Z1j2 hi]
 by_cases h : i = 0
 ·subst h
  simp only [prevO, if_true, setErrFrom, dite_true]
 ·have e : prevO l i = some (l[i - 1]'(by omega)) := by unfold prevO; rw [if_neg h, List.getElem?_eq_getElem (by omega)]
  rw [e, dif_neg h]
  simp only [setErrFrom]
theorem Oid.err_bne (o : Oid) : (o.err != 0) = !o.good := by unfold Oid.err; cases o.good <;> rfl
theorem Oid.err_bad {o : Oid} (h : o.good = false) : o.err = 1 := by unfold Oid.err; rw [h]; rfl
theorem Z193 (m : Nat) {l : List Oid} (h : ∀ x, x ∈ l → x.ok) (cp : Option Nat) (hb : l.length ≤ 256) : ∀ (c i : Nat), l.length - i < c → i ≤ l.length →
  Z72 m c l.length cp (oidsC l) (l.length : Int) (i : Int) = some (.v (.int .i64 (setErrFrom (prevO l i) (l.drop i))))
 | 0, i, hc, hi => by omega
 | c + 1, i, hc, hi => by
  have hl := Z12d h
  rw [Z14m]
  by_cases hlt : i < l.length
  ·have e1 : IntKind.wrap .i64 ((i : Int) + 1) = ((i + 1 : Nat) : Int) := Zy7 (by omega) (by omega)
   have hok : l[i].ok := h _ (List.getElem_mem hlt)
   rw [decide_eq_true (by omega), cond_true, if_pos (by omega)]
   simp only [Int.toNat_natCast]
   rw [if_pos (by omega), Zvs h hlt, if_pos (Oid.cells_len hok), Z1dc hok, Option.bind_some, rdI_v, Option.bind_some, Oid.err_bne, e1, Z193 m h cp hb c (i + 1) (by omega) (by omega), Z1bs hlt]
   cases hg : l[i].good with
   | false => rw [Oid.err_bad hg]; rfl
   | true =>
    rw [if_neg (show ¬ (true = false) by simp)]
    simp only [Bool.not_true, cond_false]
    by_cases h0 : i = 0
    ·subst h0; rfl
    ·have e2 : IntKind.wrap .i64 ((i : Int) - 1) = ((i - 1 : Nat) : Int) := Zy7 (by omega) (by omega)
     have hok2 : (l[i - 1]'(by omega)).ok := h _ (List.getElem_mem _)
     rw [show (((i : Nat) : Int) == 0) = false from by rw [beq_eq_false_iff_ne]; omega, cond_false, dif_neg h0, e2, if_pos (by omega)]
     simp only [Int.toNat_natCast]
     rw [if_pos (by omega), Zvs h (show i - 1 < l.length by omega), Zyv hok2 hok, Option.bind_some, rdI_v, Option.bind_some]
     generalize Oid.cmp _ _ = q
     simp only [Bool.cond_eq_ite, beq_iff_eq, decide_eq_true_eq, gt_iff_lt]
     split
     ·rfl
     ·split <;> rfl
  ·rw [decide_eq_false (by omega), cond_false, List.drop_eq_nil_of_le (by omega)]
   rfl
theorem Z17q {l : List Oid} (h : ∀ x, x ∈ l → x.ok) (cp : Option Nat) : Z8i [.list l.length cp (oidsC l)] = some (.v (.int .i64 (setErr l))) := by
 show Zj3 M l.length cp (oidsC l) = _
 unfold Zj3 setErr
 by_cases hb : 256 < l.length
 ·rw [decide_eq_true (by omega), cond_true, if_pos hb]
 ·rw [decide_eq_false (by omega), cond_false, if_neg hb]
  exact Z193 M h cp (by omega) M 0 (by unfold M; omega) (by omega)
theorem Z1e7 (m : Nat) {l : List Oid} (h : ∀ x, x ∈ l → x.ok) (cp : Option Nat) (hb : l.length ≤ 256) : ∀ (c i : Nat), l.length - i < c → i ≤ l.length →
  Zj7 m c l.length cp (oidsC l) (i : Int) = some (.v (.int .i64 (setErrFrom (prevO l i) (l.drop i))))
 | 0, i, hc, hi => by omega
 | c + 1, i, hc, hi => by
  have hl := Z12d h
  rw [Z17m, Z15p]
  by_cases hlt : i < l.length
  ·have e1 : IntKind.wrap .i64 ((i : Int) + 1) = ((i + 1 : Nat) : Int) := Zy7 (by omega) (by omega)
   have hok : l[i].ok := h _ (List.getElem_mem hlt)
   rw [decide_eq_true (by omega), cond_true]
   simp only [if_pos (show (0 : Int) ≤ (i : Int) ∧ (i : Int) < (l.length : Int) by omega), Int.toNat_natCast, if_pos (show i * 17 + 17 ≤ (oidsC l).length by omega)]
   rw [Zvs h hlt, Z1br hok, Option.bind_some, rdI_v, Option.bind_some, Oid.err_bne, e1, Z1e7 m h cp hb c (i + 1) (by omega) (by omega), Z1bs hlt]
   cases hg : l[i].good with
   | false => rfl
   | true =>
    rw [if_neg (show ¬ (true = false) by simp)]
    simp only [Bool.not_true, cond_false]
    by_cases h0 : i = 0
    ·subst h0; rfl
    ·have e2 : IntKind.wrap .i64 ((i : Int) - 1) = ((i - 1 : Nat) : Int) := Zy7 (by omega) (by omega)
     have hok2 : (l[i - 1]'(by omega)).ok := h _ (List.getElem_mem _)
     rw [decide_eq_true (by omega), cond_true, dif_neg h0, e2, if_pos (by omega)]
     simp only [Int.toNat_natCast]
     rw [if_pos (by omega), Zvs h (show i - 1 < l.length by omega), Z17p hok2 hok, Option.bind_some, rdI_v, Option.bind_some]
     generalize Oid.cmp _ _ = q
     simp only [Bool.cond_eq_ite, beq_iff_eq, decide_eq_true_eq, gt_iff_lt]
     split
     ·rfl
     ·split <;> rfl
  ·rw [decide_eq_false (by omega), cond_false, List.drop_eq_nil_of_le (by omega)]
   rfl
theorem Z1bt {l : List Oid} (h : ∀ x, x ∈ l → x.ok) (cp : Option Nat) : Zee [.list l.length cp (oidsC l)] = some (.v (.int .i64 (setErr l))) := by
 show Zqf M l.length cp (oidsC l) = _
 unfold Zqf setErr
 by_cases hb : 256 < l.length
 ·rw [decide_eq_true (by omega), cond_true, if_pos hb]
 ·rw [decide_eq_false (by omega), cond_false, if_neg hb]
  exact Z1e7 M h cp (by omega) M 0 (by unfold M; omega) (by omega)
end Go.Ev