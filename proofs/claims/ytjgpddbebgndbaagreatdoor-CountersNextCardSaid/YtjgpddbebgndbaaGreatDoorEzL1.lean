/-
  Object identifiers: what the functions about one, and about two, return.
-/
import Derived.Test.YtjgpddbebgndbaaGreatDoorEzL0
import Derived.Test.YtjgpddbebgndbaaGreatDoorEzG1
import Derived.Test.YtjgpddbebgndbaaGreatDoorEzO1
set_option linter.unusedSimpArgs false
set_option linter.unusedVariables false
namespace Go.Ev
open Go

theorem drop_getD {l : List Nat} {k : Nat} (h : k < l.length) : l.drop k = l.getD k 0 :: l.drop (k + 1) := by
  rw [List.drop_eq_getElem_cons h, List.getD_eq_getElem?_getD, List.getElem?_eq_getElem h]; rfl
theorem Oid.get {o : Oid} (h : o.ok) {k : Nat} (hk : k < 16) : rdI .u32 o.cells[1 + k]? = some ((o.a.getD k 0 : Nat) : Int) := by
  rw [show 1 + k = k + 1 by omega, Oid.cells, List.getElem?_cons_succ, n32_get_lt (by rw [h.len]; exact hk), List.getD_eq_getElem?_getD, List.getElem?_eq_getElem (by rw [h.len]; exact hk)]
  rfl
theorem Oid.get0 (o : Oid) : rdI .u8 o.cells[0]? = some (o.n : Int) := by simp [Oid.cells, rdI]
theorem Oid.get1 {o : Oid} (h : o.ok) : rdI .u32 o.cells[1]? = some ((o.a.getD 0 0 : Nat) : Int) := Oid.get h (k := 0) (by omega)
theorem Oid.get2 {o : Oid} (h : o.ok) : rdI .u32 o.cells[2]? = some ((o.a.getD 1 0 : Nat) : Int) := Oid.get h (k := 1) (by omega)

/-- All zero from an arc on. -/
def zs (l : List Nat) (k : Nat) : Bool := (l.drop k).all fun x => decide (x = 0)
theorem zs_step {l : List Nat} {k : Nat} (h : k < l.length) : zs l k = (decide (l.getD k 0 = 0) && zs l (k + 1)) := by
  unfold zs; rw [drop_getD h, List.all_cons]
theorem zs_end {l : List Nat} {k : Nat} (h : l.length ≤ k) : zs l k = true := by unfold zs; rw [List.drop_eq_nil_of_le h]; rfl

theorem oids_loop (m : Nat) {o : Oid} (h : o.ok) (hn : o.n ≤ 16) : ∀ (c i : Nat), 16 - o.n - i < c → i ≤ 16 - o.n →
    F_oids_Check_6 m c (1 + o.n) (16 - o.n) (((16 - o.n) : Nat) : Int) (i : Int) o.cells = some (.v (.int .i64 (cond (zs o.a (o.n + i)) 0 1)))
  | 0, i, hc, hi => by omega
  | c + 1, i, hc, hi => by
    rw [F_oids_Check_6_s]
    by_cases hlt : i < 16 - o.n
    · rw [decide_eq_true (by omega), cond_true, if_pos (by omega)]
      simp only [Int.toNat_natCast, Nat.mul_one]
      rw [show 1 + o.n + i = 1 + (o.n + i) by omega, Oid.get h (by omega), Option.bind_some, zs_step (by rw [h.len]; omega)]
      by_cases hz : o.a.getD (o.n + i) 0 = 0
      · rw [hz]
        have e1 : IntKind.wrap .i64 ((i : Int) + 1) = ((i + 1 : Nat) : Int) := wrap_of (by omega) (by omega)
        rw [e1, oids_loop m h hn c (i + 1) (by omega) (by omega)]
        simp [Nat.add_assoc]
      · have e2 : (((o.a.getD (o.n + i) 0 : Nat) : Int) != 0) = true := by rw [bne_iff_ne]; omega
        rw [e2, decide_eq_false hz]
        rfl
    · rw [decide_eq_false (by omega), cond_false, zs_end (by rw [h.len]; omega)]
      rfl

theorem law_oids_Check {o : Oid} (h : o.ok) : sp_oids_Check [.agg o.cells] = some (.v (.int .i64 o.err)) := by
  show F_oids_Check M o.cells = _
  unfold F_oids_Check
  have h5 : o.n ≤ 16 → F_oids_Check_j5 M o.cells = some (.v (.int .i64 (cond (zs o.a o.n) 0 1))) := fun hn => by
    rw [F_oids_Check_j5_e, Oid.get0, Option.bind_some, if_pos (by omega)]
    simp only [Int.toNat_natCast, Nat.mul_one]
    have := oids_loop M h hn M 0 (by unfold M; omega) (by omega)
    simpa using this
  rw [if_pos (Oid.cells_len h), Oid.get0, Option.bind_some, Oid.get1 h]
  simp only [Bool.cond_decide, Option.bind_some]
  unfold Oid.err Oid.good
  by_cases h1 : o.n < 2
  · rw [if_pos (by omega), decide_eq_false (show ¬ 2 ≤ o.n by omega)]; rfl
  rw [if_neg (by omega), decide_eq_true (show 2 ≤ o.n by omega)]
  by_cases h2 : 16 < o.n
  · rw [if_pos (by omega), decide_eq_false (show ¬ o.n ≤ 16 by omega)]; rfl
  rw [if_neg (by omega), decide_eq_true (show o.n ≤ 16 by omega)]
  rw [show ((o.a.drop o.n).all fun x => decide (x = 0)) = zs o.a o.n from rfl]
  by_cases h3 : 2 < o.a.getD 0 0
  · rw [if_pos (by omega), decide_eq_false (show ¬ o.a.getD 0 0 < 2 by omega), decide_eq_false (show ¬ o.a.getD 0 0 = 2 by omega)]; simp
  rw [if_neg (by omega), F_oids_Check_j3_e, Oid.get1 h, Oid.get2 h]
  simp only [Bool.cond_decide, Option.bind_some, h5 (by omega)]
  by_cases h4 : o.a.getD 0 0 < 2
  · rw [if_pos (by omega), decide_eq_true h4, decide_eq_false (show ¬ o.a.getD 0 0 = 2 by omega)]
    by_cases h6 : o.a.getD 1 0 < 40
    · rw [if_neg (by omega), if_neg (by omega), decide_eq_true h6]
      cases zs o.a o.n <;> rfl
    · rw [if_pos (by omega), decide_eq_false h6]; simp
  · rw [if_neg (by omega), decide_eq_false h4, decide_eq_true (show o.a.getD 0 0 = 2 by omega)]
    by_cases h6 : o.a.getD 1 0 ≤ 4294967215
    · rw [if_neg (by omega), decide_eq_true h6]
      cases zs o.a o.n <;> rfl
    · rw [if_pos (by omega), decide_eq_false h6]; simp

end Go.Ev
