/-
 Counters: what their check and the initial ones are; the statement about these.
-/
import Derived.Test.YthakkigkdhaihaaGreatDoorEzL2r
import Derived.Test.YthakkigkdhaihaaGreatDoorEzLv
set_option linter.unusedSimpArgs false
set_option linter.unusedVariables false
namespace Go.Ev
open Go
abbrev ctrC (e m a : Int) : List D := [.v (.int .i64 e), .v (.int .i64 m), .v (.int .i64 a)]
theorem Zlz (e m a : Int) : Z1m [.v (.int .i64 e), .v (.int .i64 m), .v (.int .i64 a)] = some (.agg (ctrC e m a)) := rfl
abbrev inC (l : List Oid) (cp : Option Nat) (x y z : Bool) : List D := [.list l.length cp (oidsC l), .v (.bool x), .v (.bool y), .v (.bool z)]
abbrev startC (w : Int) (x y z : Bool) : List D := ctrC (cond x 0 w) (cond y 0 w) (cond z 0 w)
theorem Zab (n : Int) (l : List Oid) (cp : Option Nat) (x y z : Bool) : Z2b [.v (.int .i64 n), .agg (inC l cp x y z)] = some (.agg (startC (IntKind.wrap .i64 (n + 1)) x y z)) := by
 show Zer M n l.length cp (oidsC l) x y z = _
 unfold Zer
 cases x <;> cases y <;> cases z <;> rfl
end Go.Ev