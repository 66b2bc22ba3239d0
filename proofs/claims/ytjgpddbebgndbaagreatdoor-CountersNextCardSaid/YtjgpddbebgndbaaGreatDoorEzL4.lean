/-
  The counters behind a certificate: as the program has them, and as the reference.
-/
import Derived.Test.YtjgpddbebgndbaaGreatDoorEzL3
set_option linter.unusedSimpArgs false
set_option linter.unusedVariables false
namespace Go.Ev
open Go

/-- A counter behind a certificate. -/
def afterC (s : Bool) (x lim : Int) : Int := cond (lim != -1) (mm true (cond (!s) (cond (decide (x > 0)) (IntKind.wrap .i64 (x - 1)) x) x) lim) (cond (!s) (cond (decide (x > 0)) (IntKind.wrap .i64 (x - 1)) x) x)

/-- The cells of a record. -/
abbrev recC (s hp : Bool) (pn : Nat) (pc : Option Nat) (p : List D) (hm : Bool) (mn : Nat) (mc : Option Nat) (mp : List D) (r i a : Int) : List D :=
  [.v (.bool s), .v (.bool hp), .list pn pc p, .v (.bool hm), .list mn mc mp, .v (.int .i64 r), .v (.int .i64 i), .v (.int .i64 a)]

theorem law_counters_next (e m a : Int) (s hp : Bool) (pn : Nat) (pc : Option Nat) (p : List D) (hm : Bool) (mn : Nat) (mc : Option Nat) (mp : List D) (r i y : Int) :
    sp_counters_next [.agg (ctrC e m a), .agg (recC s hp pn pc p hm mn mc mp r i y)] = some (.agg (ctrC (afterC s e r) (afterC s m i) (afterC s a y))) := by
  show F_counters_next M e m a s hp pn pc p hm mn mc mp r i y = _
  unfold F_counters_next afterC
  simp only [F_counters_next_counters_next_1_j3_e, F_counters_next_counters_next_1_j3v1_e, F_counters_next_counters_next_1_j3v2_e, F_counters_next_counters_next_1_j3v3_e, F_counters_next_counters_next_1_j3v4_e, F_counters_next_counters_next_1_j3v5_e, F_counters_next_counters_next_1_j3v6_e, F_counters_next_counters_next_1_j3v7_e, F_counters_next_counters_next_1_j3v8_e, F_counters_next_counters_next_1_j3v9_e, F_counters_next_counters_next_1_j3v10_e, F_counters_next_counters_next_1_j3v11_e, F_counters_next_counters_next_1_j3v12_e, F_counters_next_counters_next_1_j3v13_e, F_counters_next_counters_next_1_j3v14_e, F_counters_next_counters_next_1_j3v15_e]
  generalize decide (e > 0) = x1
  generalize decide (m > 0) = x2
  generalize decide (a > 0) = x3
  generalize (r != -1) = y1
  generalize (i != -1) = y2
  generalize (y != -1) = y3
  cases s <;> cases x1 <;> cases y1 <;> cases x2 <;> cases y2 <;> cases x3 <;> cases y3 <;> rfl

theorem law_counters_wrap (e m a : Int) (s hp : Bool) (pn : Nat) (pc : Option Nat) (p : List D) (hm : Bool) (mn : Nat) (mc : Option Nat) (mp : List D) (r i y : Int) :
    sp_counters_wrap [.agg (ctrC e m a), .agg (recC s hp pn pc p hm mn mc mp r i y)] = some (.v (.int .i64 (cond (r == 0) 0 (mm false (IntKind.wrap .i64 (e - 1)) 0)))) := by
  show F_counters_wrap M e m a s hp pn pc p hm mn mc mp r i y = _
  unfold F_counters_wrap
  cases (r == 0) <;> rfl

/-- The same by the reference, where no counter is below 0. -/
def afterR (s : Bool) (x lim : Int) : Int := let z := cond (!s) (cond (x != 0) (IntKind.wrap .i64 (x - 1)) x) x; cond (lim != -1) (cond (decide (lim < z)) lim z) z
theorem law_ref24_Next (e m a : Int) (s hp : Bool) (pn : Nat) (pc : Option Nat) (p : List D) (hm : Bool) (mn : Nat) (mc : Option Nat) (mp : List D) (r i y : Int) :
    sp_ref24_Next [.agg (ctrC e m a), .agg (recC s hp pn pc p hm mn mc mp r i y)] = some (.agg (ctrC (afterR s e r) (afterR s m i) (afterR s a y))) := by
  show F_ref24_Next M e m a s hp pn pc p hm mn mc mp r i y = _
  unfold F_ref24_Next
  simp only [F_ref24_Next_j4_e, F_ref24_Next_j6_e, F_ref24_Next_j8_e, F_ref24_Next_j10_e, F_ref24_Next_j12_e]
  simp only [afterR]
  cases s
  · simp only [Bool.not_false, cond_true]
    cases h1 : (e != 0) <;> cases h2 : (m != 0) <;> cases h3 : (a != 0) <;> simp only [cond_true, cond_false]
    all_goals
      generalize hr : (r != -1) = y1
      generalize hi : (i != -1) = y2
      generalize hy : (y != -1) = y3
      generalize hd1 : decide (r < _) = z1
      generalize hd2 : decide (i < _) = z2
      generalize hd3 : decide (y < _) = z3
      cases y1 <;> cases z1 <;> cases y2 <;> cases z2 <;> cases y3 <;> cases z3 <;> rfl
  · simp only [Bool.not_true, cond_false]
    generalize (r != -1) = y1
    generalize (i != -1) = y2
    generalize (y != -1) = y3
    generalize decide (r < e) = z1
    generalize decide (i < m) = z2
    generalize decide (y < a) = z3
    cases y1 <;> cases z1 <;> cases y2 <;> cases z2 <;> cases y3 <;> cases z3 <;> rfl
theorem afterC_R {s : Bool} {x lim : Int} (h0 : 0 ≤ x) (h1 : x ≤ 65) : afterC s x lim = afterR s x lim := by
  unfold afterC afterR mm
  simp only [if_pos]
  have e : decide (x > 0) = (x != 0) := by
    by_cases h : x = 0
    · subst h; rfl
    · rw [decide_eq_true (by omega), bne_iff_ne.2 h]
  rw [e]
  generalize (cond (!s) (cond (x != 0) (IntKind.wrap .i64 (x - 1)) x) x) = z
  cases (lim != -1)
  · rfl
  · simp only [cond_true, Bool.cond_decide]
end Go.Ev
