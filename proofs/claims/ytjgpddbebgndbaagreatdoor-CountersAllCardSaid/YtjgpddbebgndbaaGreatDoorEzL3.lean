/-
  Counters: what their check and the initial ones are; the statement about these.
-/
import Derived.Test.YtjgpddbebgndbaaGreatDoorEzL2
import Derived.Test.YtjgpddbebgndbaaGreatDoorEzLv
set_option linter.unusedSimpArgs false
set_option linter.unusedVariables false
namespace Go.Ev
open Go

/-- The cells of counters. -/
abbrev ctrC (e m a : Int) : List D := [.v (.int .i64 e), .v (.int .i64 m), .v (.int .i64 a)]
/-- The cells of initial values. -/
abbrev inC (l : List Oid) (cp : Option Nat) (x y z : Bool) : List D := [.list l.length cp (oidsC l), .v (.bool x), .v (.bool y), .v (.bool z)]
/-- The initial counters, for one more than so many certificates. -/
abbrev startC (w : Int) (x y z : Bool) : List D := ctrC (cond x 0 w) (cond y 0 w) (cond z 0 w)

theorem law_counters_start (n : Int) (l : List Oid) (cp : Option Nat) (x y z : Bool) : sp_counters_start [.v (.int .i64 n), .agg (inC l cp x y z)] = some (.agg (startC (IntKind.wrap .i64 (n + 1)) x y z)) := by
  show F_counters_start M n l.length cp (oidsC l) x y z = _
  unfold F_counters_start
  cases x <;> cases y <;> cases z <;> rfl
end Go.Ev
