/-
  Counters: what their check and the initial ones are; the statement about these.
-/
import Derived.Test.YtjgpddbebgndbaaGreatDoorEzL2
import Derived.Test.YtjgpddbebgndbaaGreatDoorEzLv
set_option linter.unusedSimpArgs false
set_option linter.unusedVariables false
namespace Go.Ev
open Go

theorem law_within (v lo hi : Int) : sp_counters_within_int [.v (.int .i64 v), .v (.int .i64 lo), .v (.int .i64 hi)] = some (.v (.bool (decide (lo ≤ v) && decide (v ≤ hi)))) := by
  show F_counters_within_int M v lo hi = _
  unfold F_counters_within_int mm
  simp only [if_pos rfl, Bool.false_eq_true, if_false, if_true]
  by_cases h1 : lo ≤ v
  · have e1 : ((if lo < v then lo else v) == lo) = true := by rw [beq_iff_eq]; split <;> omega
    rw [e1, cond_true, decide_eq_true h1, Bool.true_and]
    by_cases h2 : v ≤ hi
    · have e2 : ((if hi > v then hi else v) == hi) = true := by rw [beq_iff_eq]; split <;> omega
      rw [e2, decide_eq_true h2]
    · have e2 : ((if hi > v then hi else v) == hi) = false := by rw [beq_eq_false_iff_ne]; split <;> omega
      rw [e2, decide_eq_false h2]
  · have e1 : ((if lo < v then lo else v) == lo) = false := by rw [beq_eq_false_iff_ne]; split <;> omega
    rw [e1, cond_false, decide_eq_false h1, Bool.false_and]

/-- The cells of counters. -/
abbrev ctrC (e m a : Int) : List D := [.v (.int .i64 e), .v (.int .i64 m), .v (.int .i64 a)]
def ctrOk (e m a : Int) : Bool := decide (0 ≤ e) && decide (e ≤ 65) && (decide (0 ≤ m) && decide (m ≤ 65)) && (decide (0 ≤ a) && decide (a ≤ 65))
def ctrErr (e m a : Int) : Int := if ctrOk e m a then 0 else 1

theorem law_counters_Check (e m a : Int) : sp_counters_Check [.agg (ctrC e m a)] = some (.v (.int .i64 (ctrErr e m a))) := by
  show F_counters_Check M e m a = _
  unfold F_counters_Check ctrErr ctrOk
  simp only [law_within, Option.bind_some, rdB_v]
  generalize (decide (0 ≤ e) && decide (e ≤ 65)) = x
  generalize (decide (0 ≤ m) && decide (m ≤ 65)) = y
  generalize (decide (0 ≤ a) && decide (a ≤ 65)) = z
  cases x <;> cases y <;> cases z <;> rfl

theorem law_law24_check (e m a : Int) : sp_law24_check [.agg (ctrC e m a)] = some (.v (.int .i64 (ctrErr e m a))) := by
  show F_law24_check M e m a = _
  unfold F_law24_check ctrErr ctrOk
  have flip1 : ∀ x : Int, decide (x < 0) = !decide (0 ≤ x) := fun x => by
    by_cases h : 0 ≤ x
    · rw [decide_eq_true h, decide_eq_false (by omega)]; rfl
    · rw [decide_eq_false h, decide_eq_true (by omega)]; rfl
  have flip2 : ∀ x : Int, decide (x > 65) = !decide (x ≤ 65) := fun x => by
    by_cases h : x ≤ 65
    · rw [decide_eq_true h, decide_eq_false (by omega)]; rfl
    · rw [decide_eq_false h, decide_eq_true (by omega)]; rfl
  simp only [flip1, flip2]
  cases decide (0 ≤ e) <;> cases decide (e ≤ 65) <;> cases decide (0 ≤ m) <;> cases decide (m ≤ 65) <;> cases decide (0 ≤ a) <;> cases decide (a ≤ 65) <;> rfl

theorem law_three (e m a : Int) : sp_law24_three [.v (.int .i64 e), .v (.int .i64 m), .v (.int .i64 a)] = some (.agg (ctrC e m a)) := rfl

/-- The cells of initial values. -/
abbrev inC (l : List Oid) (cp : Option Nat) (x y z : Bool) : List D := [.list l.length cp (oidsC l), .v (.bool x), .v (.bool y), .v (.bool z)]
end Go.Ev
