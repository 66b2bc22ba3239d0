/-
  The statements about one step, and about all counters of a chain.
-/
import Derived.Test.YtjgpddbebgndbaaGreatDoorEzR4
set_option linter.unusedSimpArgs false
set_option linter.unusedVariables false
set_option maxRecDepth 100000
namespace Go.Ev
open Go

theorem t2 {a b : D} : [a, b].length = 2 := rfl

section
variable {l : List Rcd} (h : Chain l) {cp : Option Nat} {u : List Oid} {cu : Option Nat} {x y z : Bool}
include h
end
theorem inC_len {l : List Oid} {cp : Option Nat} {x y z : Bool} : (inC l cp x y z).length = 4 := rfl

end Go.Ev
