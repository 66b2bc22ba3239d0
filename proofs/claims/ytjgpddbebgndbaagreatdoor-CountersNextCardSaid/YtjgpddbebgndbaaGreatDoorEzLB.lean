/-
  The counters along a chain: what All, Final and Zero return.
-/
import Derived.Test.YtjgpddbebgndbaaGreatDoorEzLA
set_option linter.unusedSimpArgs false
set_option linter.unusedVariables false
set_option maxRecDepth 100000
namespace Go.Ev
open Go

abbrev z3 : List D := [.v (.int .i64 0), .v (.int .i64 0), .v (.int .i64 0)]
section
variable {α : Type} {f : α → List D} {nx : α → C3 → C3} {wr : α → C3 → Int} {l : List α}
end
end Go.Ev
