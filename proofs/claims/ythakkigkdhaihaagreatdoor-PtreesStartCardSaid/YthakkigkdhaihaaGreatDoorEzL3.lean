/-
 Counters: what their check and the initial ones are; the statement about these.
-/
import Derived.Test.YthakkigkdhaihaaGreatDoorEzL2r
import Derived.Test.YthakkigkdhaihaaGreatDoorEzLv
set_option linter.unusedSimpArgs false
set_option linter.unusedVariables false
namespace Go.Ev
open Go
theorem Z1j3 (v lo hi : Int) : Z43 [.v (.int .i64 v), .v (.int .i64 lo), .v (.int .i64 hi)] = some (.v (.bool (decide (lo ≤ v) && decide (v ≤ hi)))) := by
 show Z69 M v lo hi = _
 unfold Z69 mm
 simp only [if_pos rfl, Bool.false_eq_true, if_false, if_true]
 by_cases h1 : lo ≤ v
 ·have e1 : ((if lo < v then lo else v) == lo) = true := by rw [beq_iff_eq]; split <;> omega
  rw [e1, cond_true, decide_eq_true h1, Bool.true_and]
  by_cases h2 : v ≤ hi
  ·have e2 : ((if hi > v then hi else v) == hi) = true := by rw [beq_iff_eq]; split <;> omega
   rw [e2, decide_eq_true h2]
  ·have e2 : ((if hi > v then hi else v) == hi) = false := by rw [beq_eq_false_iff_ne]; split <;> omega
   rw [e2, decide_eq_false h2]
 ·have e1 : ((if lo < v then lo else v) == lo) = false := by rw [beq_eq_false_iff_ne]; split <;> omega
  rw [e1, cond_false, decide_eq_false h1, Bool.false_and]
abbrev ctrC (e m a : Int) : List D := [.v (.int .i64 e), .v (.int .i64 m), .v (.int .i64 a)]
abbrev inC (l : List Oid) (cp : Option Nat) (x y z : Bool) : List D := [.list l.length cp (oidsC l), .v (.bool x), .v (.bool y), .v (.bool z)]
abbrev startC (w : Int) (x y z : Bool) : List D := ctrC (cond x 0 w) (cond y 0 w) (cond z 0 w)
theorem Z15v (n : Int) (l : List Oid) (cp : Option Nat) (x y z : Bool) : Z74 [.v (.int .i64 n), .agg (inC l cp x y z)] = some (.agg (startC (IntKind.wrap .i64 (n + 1)) x y z)) := by
 show Zfq M n l.length cp (oidsC l) x y z = _
 unfold Zfq
 cases x <;> cases y <;> cases z <;> rfl
theorem Z1bu (n : Int) (l : List Oid) (cp : Option Nat) (x y z : Bool) : Z59 [.v (.int .i64 n), .agg (inC l cp x y z)] = some (.agg (startC (IntKind.wrap .i64 (n + 1)) x y z)) := by
 show Zqg M n l.length cp (oidsC l) x y z = _
 unfold Zqg
 simp only [Z15u, Z15t]
 cases x <;> cases y <;> cases z <;> rfl
def Zqh (n : Int) (l : List Oid) : Int := if n < 1 ∨ 64 < n then 1 else setErr l
theorem Z15w (n : Int) {l : List Oid} (h : ∀ x, x ∈ l → x.ok) (cp : Option Nat) (x y z : Bool) : Z36 [.v (.int .i64 n), .agg (inC l cp x y z)] =
  some (.tup [.agg (if Zqh n l = 0 then startC (IntKind.wrap .i64 (n + 1)) x y z else ctrC 0 0 0), .v (.int .i64 (Zqh n l))]) := by
 show Zfr M n l.length cp (oidsC l) x y z = _
 unfold Zfr Zqh
 rw [Z1j3, Option.bind_some, rdB_v, Option.bind_some]
 by_cases h1 : n < 1 ∨ 64 < n
 ·rw [if_pos h1, show (decide (1 ≤ n) && decide (n ≤ 64)) = false from by
   rcases h1 with h | h
   ·rw [decide_eq_false (show ¬ 1 ≤ n by omega)]; rfl
   ·rw [decide_eq_false (show ¬ n ≤ 64 by omega), Bool.and_false]]
  rfl
 ·rw [if_neg h1, decide_eq_true (show 1 ≤ n by omega), decide_eq_true (show n ≤ 64 by omega), Bool.and_self, Bool.not_true, cond_false, Z15s h, Option.bind_some, rdI_v, Option.bind_some]
  by_cases h2 : setErr l = 0
  ·rw [h2, Z15v]
   rfl
  ·rw [if_neg h2, show (setErr l != 0) = true from by rw [bne_iff_ne]; exact h2]
   rfl
theorem Z1l5 (a b c : Int) : cellsEq [.int, .int, .int] (ctrC a b c) (ctrC a b c) = some true := by simp [cellsEq, scalarEq]
end Go.Ev