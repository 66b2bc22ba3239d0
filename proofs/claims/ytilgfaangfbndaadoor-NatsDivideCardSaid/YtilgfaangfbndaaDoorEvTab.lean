/-
  Tables of functions, built up one by one.
-/
import Derived.Test.YtilgfaangfbndaaDoorEvRow
namespace Go.Ev
open Go
variable {P : Program}
/-- Rounds enough for whatever a slice or a machine word asks. -/
def M : Nat := 18446744073709551616

theorem SpOk.nil : SpOk P [] := fun _ _ _ _ h => by cases h
theorem SpOk.cons {f : FuncId} {s : List D → Option D} {sp : SpTab} (h : ∀ ds d, s ds = some d → DataSem P f ds d) (hs : SpOk P sp) : SpOk P ((f, s) :: sp) := by
  intro g t ds d hl hd
  simp only [List.lookup] at hl
  split at hl
  · rename_i he
    cases hl
    rw [show g = f from by simpa using he]
    exact h ds d hd
  · exact hs g t ds d hl hd
theorem InlOk.nil {sp : SpTab} : InlOk P ⟨sp, []⟩ := fun _ _ _ h => by cases h
theorem InlOk.cons {f : FuncId} {fn : Func} {fh : FnH} {sp : SpTab} {l : List (FuncId × Func × FnH)} (hf : P.funcs[f]? = some fn) (he : Enters P f) (h : InlOk P ⟨sp, l⟩) : InlOk P ⟨sp, (f, fn, fh) :: l⟩ := by
  intro g gn gh hl
  simp only [List.lookup] at hl
  split at hl
  · rename_i hg
    cases hl
    rw [show g = f from by simpa using hg]
    exact ⟨hf, he⟩
  · exact h g gn gh hl
end Go.Ev
