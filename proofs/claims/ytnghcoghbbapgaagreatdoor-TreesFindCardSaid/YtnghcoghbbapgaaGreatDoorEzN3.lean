/-
 Nodes deleted: what is left of a tree.
-/
import Derived.Test.YtnghcoghbbapgaaGreatDoorEzN2
set_option linter.unusedSimpArgs false
set_option linter.unusedVariables false
set_option maxRecDepth 100000
namespace Go.Ev
open Go
def lc (l : List Cd) (A : Nat → Bool) : Nat → List Cd
 | 0 => []
 | i + 1 => match l[i]? with
  | none => lc l A i
  | some x => if A i then lc l A i ++ [⟨mv (nds l) A x.n, some x.n.ex.length, some x.n.q.length⟩] else lc l A i
section
variable {l : List Cd} {at_ : List Int}
end
end Go.Ev