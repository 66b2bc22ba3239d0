/-
  Counters: what their check and the initial ones are; the statement about these.
-/
import Derived.Test.YtjgpddbebgndbaaGreatDoorEzL2
import Derived.Test.YtjgpddbebgndbaaGreatDoorEzLv
set_option linter.unusedSimpArgs false
set_option linter.unusedVariables false
namespace Go.Ev
open Go

theorem law_within (v lo hi : Int) : sp_counters_within_int [.v (.int .i64 v), .v (.int .i64 lo), .v (.int .i64 hi)] = some (.v (.bool (decide (lo ≤ v) && decide (v ≤ hi)))) := by
  show F_counters_within_int M v lo hi = _
  unfold F_counters_within_int mm
  simp only [if_pos rfl, Bool.false_eq_true, if_false, if_true]
  by_cases h1 : lo ≤ v
  · have e1 : ((if lo < v then lo else v) == lo) = true := by rw [beq_iff_eq]; split <;> omega
    rw [e1, cond_true, decide_eq_true h1, Bool.true_and]
    by_cases h2 : v ≤ hi
    · have e2 : ((if hi > v then hi else v) == hi) = true := by rw [beq_iff_eq]; split <;> omega
      rw [e2, decide_eq_true h2]
    · have e2 : ((if hi > v then hi else v) == hi) = false := by rw [beq_eq_false_iff_ne]; split <;> omega
      rw [e2, decide_eq_false h2]
  · have e1 : ((if lo < v then lo else v) == lo) = false := by rw [beq_eq_false_iff_ne]; split <;> omega
    rw [e1, cond_false, decide_eq_false h1, Bool.false_and]

/-- The cells of counters. -/
abbrev ctrC (e m a : Int) : List D := [.v (.int .i64 e), .v (.int .i64 m), .v (.int .i64 a)]
def ctrOk (e m a : Int) : Bool := decide (0 ≤ e) && decide (e ≤ 65) && (decide (0 ≤ m) && decide (m ≤ 65)) && (decide (0 ≤ a) && decide (a ≤ 65))
def ctrErr (e m a : Int) : Int := if ctrOk e m a then 0 else 1

theorem law_counters_Check (e m a : Int) : sp_counters_Check [.agg (ctrC e m a)] = some (.v (.int .i64 (ctrErr e m a))) := by
  show F_counters_Check M e m a = _
  unfold F_counters_Check ctrErr ctrOk
  simp only [law_within, Option.bind_some, rdB_v]
  generalize (decide (0 ≤ e) && decide (e ≤ 65)) = x
  generalize (decide (0 ≤ m) && decide (m ≤ 65)) = y
  generalize (decide (0 ≤ a) && decide (a ≤ 65)) = z
  cases x <;> cases y <;> cases z <;> rfl

theorem law_law24_check (e m a : Int) : sp_law24_check [.agg (ctrC e m a)] = some (.v (.int .i64 (ctrErr e m a))) := by
  show F_law24_check M e m a = _
  unfold F_law24_check ctrErr ctrOk
  have flip1 : ∀ x : Int, decide (x < 0) = !decide (0 ≤ x) := fun x => by
    by_cases h : 0 ≤ x
    · rw [decide_eq_true h, decide_eq_false (by omega)]; rfl
    · rw [decide_eq_false h, decide_eq_true (by omega)]; rfl
  have flip2 : ∀ x : Int, decide (x > 65) = !decide (x ≤ 65) := fun x => by
    by_cases h : x ≤ 65
    · rw [decide_eq_true h, decide_eq_false (by omega)]; rfl
    · rw [decide_eq_false h, decide_eq_true (by omega)]; rfl
  simp only [flip1, flip2]
  cases decide (0 ≤ e) <;> cases decide (e ≤ 65) <;> cases decide (0 ≤ m) <;> cases decide (m ≤ 65) <;> cases decide (0 ≤ a) <;> cases decide (a ≤ 65) <;> rfl

theorem law_three (e m a : Int) : sp_law24_three [.v (.int .i64 e), .v (.int .i64 m), .v (.int .i64 a)] = some (.agg (ctrC e m a)) := rfl

/-- The cells of initial values. -/
abbrev inC (l : List Oid) (cp : Option Nat) (x y z : Bool) : List D := [.list l.length cp (oidsC l), .v (.bool x), .v (.bool y), .v (.bool z)]
/-- The initial counters, for one more than so many certificates. -/
abbrev startC (w : Int) (x y z : Bool) : List D := ctrC (cond x 0 w) (cond y 0 w) (cond z 0 w)

theorem law_counters_start (n : Int) (l : List Oid) (cp : Option Nat) (x y z : Bool) : sp_counters_start [.v (.int .i64 n), .agg (inC l cp x y z)] = some (.agg (startC (IntKind.wrap .i64 (n + 1)) x y z)) := by
  show F_counters_start M n l.length cp (oidsC l) x y z = _
  unfold F_counters_start
  cases x <;> cases y <;> cases z <;> rfl
theorem law_ref24_Start (n : Int) (l : List Oid) (cp : Option Nat) (x y z : Bool) : sp_ref24_Start [.v (.int .i64 n), .agg (inC l cp x y z)] = some (.agg (startC (IntKind.wrap .i64 (n + 1)) x y z)) := by
  show F_ref24_Start M n l.length cp (oidsC l) x y z = _
  unfold F_ref24_Start
  simp only [F_ref24_Start_j4_e, F_ref24_Start_j6_e]
  cases x <;> cases y <;> cases z <;> rfl

/-- What 'Start' answers. -/
def startErr (n : Int) (l : List Oid) : Int := if n < 1 ∨ 64 < n then 1 else setErr l
theorem law_counters_Start (n : Int) {l : List Oid} (h : ∀ x, x ∈ l → x.ok) (cp : Option Nat) (x y z : Bool) : sp_counters_Start [.v (.int .i64 n), .agg (inC l cp x y z)] =
    some (.tup [.agg (if startErr n l = 0 then startC (IntKind.wrap .i64 (n + 1)) x y z else ctrC 0 0 0), .v (.int .i64 (startErr n l))]) := by
  show F_counters_Start M n l.length cp (oidsC l) x y z = _
  unfold F_counters_Start startErr
  rw [law_within, Option.bind_some, rdB_v, Option.bind_some]
  by_cases h1 : n < 1 ∨ 64 < n
  · rw [if_pos h1, show (decide (1 ≤ n) && decide (n ≤ 64)) = false from by
      rcases h1 with h | h
      · rw [decide_eq_false (show ¬ 1 ≤ n by omega)]; rfl
      · rw [decide_eq_false (show ¬ n ≤ 64 by omega), Bool.and_false]]
    rfl
  · rw [if_neg h1, decide_eq_true (show 1 ≤ n by omega), decide_eq_true (show n ≤ 64 by omega), Bool.and_self, Bool.not_true, cond_false, law_records_Inputs h, Option.bind_some, rdI_v, Option.bind_some]
    by_cases h2 : setErr l = 0
    · rw [h2, law_counters_start]
      rfl
    · rw [if_neg h2, show (setErr l != 0) = true from by rw [bne_iff_ne]; exact h2]
      rfl

theorem cellsEq3 (a b c : Int) : cellsEq [.int, .int, .int] (ctrC a b c) (ctrC a b c) = some true := by simp [cellsEq, scalarEq]

theorem law_CountersStart (e m a n : Int) {l : List Oid} (h : ∀ x, x ∈ l → x.ok) (cp : Option Nat) (x y z : Bool) : sp_law24_CountersStart [.agg (ctrC e m a), .v (.int .i64 n), .agg (inC l cp x y z)] = some (.v (.bool true)) := by
  show F_law24_CountersStart M e m a n l.length cp (oidsC l) x y z = _
  unfold F_law24_CountersStart
  rw [law_lives, Option.bind_some, rdB_v, Option.bind_some]
  cases hd : decide ((l.length : Int) > 300) with
  | true => rfl
  | false =>
  rw [cond_false, law_counters_Start n h, law_ref07_Check h]
  simp only [Option.bind_some, rdT_v, rdI_v, List.length_cons, List.length_nil, List.getElem?_cons_zero, List.getElem?_cons_succ, rdA_v, if_pos]
  have fin : ∀ w : Int, w = startErr n l → F_law24_CountersStart_j7 M n (startErr n l) w e m a l.length cp (oidsC l) x y z (if startErr n l = 0 then startC (IntKind.wrap .i64 (n + 1)) x y z else ctrC 0 0 0) = some (.v (.bool true)) := fun w hw => by
    subst hw
    rw [F_law24_CountersStart_j7_e, law_counters_Check, law_law24_check, Option.bind_some, rdI_v, Option.bind_some, Option.bind_some, rdI_v, Option.bind_some, bne_self_eq_false, cond_false, bne_self_eq_false, cond_false, F_law24_CountersStart_j9_e, law_three, law_ref24_Start, law_lives]
    by_cases h0 : startErr n l = 0
    · rw [if_pos h0, h0, show ((0 : Int) != 0) = false from rfl, cond_false, Option.bind_some, rdA_v, Option.bind_some, cellsEq3]
      rfl
    · rw [if_neg h0, show (startErr n l != 0) = true from by rw [bne_iff_ne]; exact h0, cond_true, Option.bind_some, rdA_v, Option.bind_some, cellsEq3]
      rfl
  have hl3 : (if startErr n l = 0 then startC (IntKind.wrap .i64 (n + 1)) x y z else ctrC 0 0 0).length = 3 := by split <;> rfl
  rw [if_pos hl3]
  by_cases h1 : n < 1
  · rw [decide_eq_true h1, cond_true]
    exact fin 1 (by unfold startErr; rw [if_pos (.inl h1)])
  · rw [decide_eq_false h1, cond_false]
    by_cases h2 : 64 < n
    · rw [decide_eq_true (show n > 64 by omega), cond_true]
      exact fin 1 (by unfold startErr; rw [if_pos (.inr h2)])
    · rw [decide_eq_false (show ¬ n > 64 by omega), cond_false]
      exact fin _ (by unfold startErr; rw [if_neg (by omega)])
end Go.Ev
