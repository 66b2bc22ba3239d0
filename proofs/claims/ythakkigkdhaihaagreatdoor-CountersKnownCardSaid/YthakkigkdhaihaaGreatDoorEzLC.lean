/-
 Records, chains and counters that are not valid: the statement.
-/
import Derived.Test.YthakkigkdhaihaaGreatDoorEzLB
set_option linter.unusedSimpArgs false
set_option linter.unusedVariables false
set_option maxRecDepth 100000
namespace Go.Ev
open Go
def Rcd.nx (q : Rcd) (c : C3) : C3 := (afterC q.s c.1 q.r, afterC q.s c.2.1 q.i, afterC q.s c.2.2 q.y)
def Rcd.wr (q : Rcd) (c : C3) : Int := cond (q.r == 0) 0 (mm false (IntKind.wrap .i64 (c.1 - 1)) 0)
theorem Rcd.does (l : List Rcd) : Does Rcd.cells Rcd.nx Rcd.wr l :=
 ⟨fun _ _ => rfl, fun x _ c => Zz4 _ _ _ _ _ _ _ _ _ _ _ _ _ _ _, fun x _ c => Zz5 _ _ _ _ _ _ _ _ _ _ _ _ _ _ _⟩
section
variable {q : Rcd} (h : q.ok) {e m a : Int} {u : List Oid} (hu : ∀ x, x ∈ u → x.ok) {cu : Option Nat} {x y z : Bool}
include h hu
end
end Go.Ev