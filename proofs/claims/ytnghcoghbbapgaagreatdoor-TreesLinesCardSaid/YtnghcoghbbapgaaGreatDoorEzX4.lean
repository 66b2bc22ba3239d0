/-
 Views: a node's depth, levels, children, lines.
-/
import Derived.Test.YtnghcoghbbapgaaGreatDoorEzX2
import Derived.Test.YtnghcoghbbapgaaGreatDoorEzG5
set_option linter.unusedSimpArgs false
set_option linter.unusedVariables false
set_option maxRecDepth 100000
namespace Go.Ev
open Go Go.Proofs
def exL (l : List Cd) : D := .list l.length (some l.length) (ints (dps (nds l) l.length l.length))
theorem Z1l3 {l : List Cd} (h : CdsB l) (hv : Valid (nds l)) (cp : Option Nat) : Z2x [.agg [.list l.length cp (cdsC l)]] = some (.tup [exL l, .v (.int .i64 0)]) := by
 rw [Z1mu h cp, (Z183 h.ok.nds).2 hv]
 rfl
end Go.Ev