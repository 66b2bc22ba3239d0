/-
  The counters along a chain: All, Final, Zero.
-/
import Derived.Test.YtjgpddbebgndbaaGreatDoorEzL9
set_option linter.unusedSimpArgs false
set_option linter.unusedVariables false
set_option maxRecDepth 100000
namespace Go.Ev
open Go

abbrev C3 := Int × Int × Int
abbrev ctr3 (c : C3) : List D := ctrC c.1 c.2.1 c.2.2
/-- What a record does to counters. -/
structure Does {α : Type} (f : α → List D) (nx : α → C3 → C3) (wr : α → C3 → Int) (l : List α) : Prop where
  len : ∀ x, x ∈ l → (f x).length = 8
  nx : ∀ x, x ∈ l → ∀ c : C3, sp_counters_next [.agg (ctr3 c), .agg (f x)] = some (.agg (ctr3 (nx x c)))
  wr : ∀ x, x ∈ l → ∀ c : C3, sp_counters_wrap [.agg (ctr3 c), .agg (f x)] = some (.v (.int .i64 (wr x c)))
/-- The counters before each, and behind the last. -/
def states {α : Type} (nx : α → C3 → C3) : C3 → List α → List C3
  | _, [] => []
  | c, x :: r => c :: states nx (nx x c) r
theorem states_length {α : Type} (nx : α → C3 → C3) : ∀ (c : C3) (l : List α), (states nx c l).length = l.length
  | _, [] => rfl
  | c, x :: r => by simp [states, states_length nx (nx x c) r]
section
variable {α : Type} {f : α → List D} {nx : α → C3 → C3} {wr : α → C3 → Int} {l : List α}
end
end Go.Ev
