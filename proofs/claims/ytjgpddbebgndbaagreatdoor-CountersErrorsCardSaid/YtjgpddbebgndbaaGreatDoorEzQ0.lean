/-
  Functions that are never come to.
-/
import Derived.Test.YtjgpddbebgndbaaGreatDoorEzP
namespace Go.Ev
open Go Go.Proofs
def sp_qualifiers_Check : List D → Option D := fun _ => none
theorem ds_qualifiers_Check : ∀ ds d, sp_qualifiers_Check ds = some d → DataSem Tryz.prog 72 ds d := fun _ _ h => by cases h
def sp_ref16_Check : List D → Option D := fun _ => none
theorem ds_ref16_Check : ∀ ds d, sp_ref16_Check ds = some d → DataSem Tryz.prog 57 ds d := fun _ _ h => by cases h
end Go.Ev
