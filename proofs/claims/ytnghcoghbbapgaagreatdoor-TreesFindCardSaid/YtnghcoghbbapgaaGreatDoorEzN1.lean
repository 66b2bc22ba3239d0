/-
 Nodes copied: what the clones of slices, and of nodes, return.
-/
import Derived.Test.YtnghcoghbbapgaaGreatDoorEzN0
import Derived.Test.YtnghcoghbbapgaaGreatDoorEzG7
set_option linter.unusedSimpArgs false
set_option linter.unusedVariables false
set_option maxRecDepth 100000
namespace Go.Ev
open Go
def Cd.cp (x : Cd) : Cd := ⟨x.n, some x.n.ex.length, some x.n.q.length⟩
end Go.Ev