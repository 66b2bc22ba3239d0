/-
 The inputs of a chain.
-/
import Derived.Test.YthakkigkdhaihaaGreatDoorEzL2
set_option linter.unusedSimpArgs false
set_option linter.unusedVariables false
namespace Go.Ev
open Go
theorem Z15s {l : List Oid} (h : ∀ x, x ∈ l → x.ok) (cp : Option Nat) (a b c : Bool) : Z73 [.agg [.list l.length cp (oidsC l), .v (.bool a), .v (.bool b), .v (.bool c)]] = some (.v (.int .i64 (setErr l))) := by
 show Zfp M l.length cp (oidsC l) a b c = _
 unfold Zfp
 rw [Z17q h cp, Option.bind_some, rdI_v, Option.bind_some]
end Go.Ev