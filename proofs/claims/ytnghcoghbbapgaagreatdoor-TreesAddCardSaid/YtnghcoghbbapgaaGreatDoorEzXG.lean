/-
  The evaluator: EzN4 EzN5 EzN6 EzN7 EzN8 EzN9 EzNA.
-/
import Derived.Test.YtnghcoghbbapgaaGreatDoorEzN3
import Derived.Test.YtnghcoghbbapgaaGreatDoorEzG3
/-
 Plans started: depths, and numbers of children.
-/
set_option linter.unusedSimpArgs false
set_option linter.unusedVariables false
set_option maxRecDepth 100000
namespace Go.Ev
open Go
end Go.Ev
/-
 The childless nodes of a plan.
-/
set_option linter.unusedSimpArgs false
set_option linter.unusedVariables false
set_option maxRecDepth 100000
namespace Go.Ev
open Go
end Go.Ev
/-
 Plans carried out: all childless nodes removed, one after another.
-/
set_option linter.unusedSimpArgs false
set_option linter.unusedVariables false
set_option maxRecDepth 100000
namespace Go.Ev
open Go
theorem Z8u {l : List Cd} (h : CdsOk l) {i : Nat} (hi : i < l.length) : rdI .i64 (cdsC l)[i * 20 + 0]? = some l[i].n.par := by
 rw [Nat.add_zero, Z21u h hi]; exact rdI_v _ _
end Go.Ev
/-
 What is left of a plan: the nodes that are gone, deleted.
-/
set_option linter.unusedSimpArgs false
set_option linter.unusedVariables false
set_option maxRecDepth 100000
namespace Go.Ev
open Go
end Go.Ev
/-
 Trees pruned at a depth.
-/
set_option linter.unusedSimpArgs false
set_option linter.unusedVariables false
set_option maxRecDepth 100000
namespace Go.Ev
open Go
end Go.Ev
/-
 The nodes that stay; a node removed.
-/
set_option linter.unusedSimpArgs false
set_option linter.unusedVariables false
set_option maxRecDepth 100000
namespace Go.Ev
open Go
end Go.Ev
/-
 A childless node removed.
-/
set_option linter.unusedSimpArgs false
set_option linter.unusedVariables false
set_option maxRecDepth 100000
namespace Go.Ev
open Go
end Go.Ev