/-
  Sets of object identifiers: what their checks return.
-/
import Derived.Test.YtjgpddbebgndbaaGreatDoorEzL1
set_option linter.unusedSimpArgs false
set_option linter.unusedVariables false
namespace Go.Ev
open Go

theorem Oid.err_bne (o : Oid) : (o.err != 0) = !o.good := by unfold Oid.err; cases o.good <;> rfl
theorem Oid.err_bad {o : Oid} (h : o.good = false) : o.err = 1 := by unfold Oid.err; rw [h]; rfl

end Go.Ev
