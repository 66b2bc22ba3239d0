/-
  The statements about prunings: childless nodes, and those that stay.
-/
import Derived.Test.YtkefahdbckjajaaGreatDoorEzU8
import Derived.Test.YtkefahdbckjajaaGreatDoorEzGc
set_option linter.unusedSimpArgs false
set_option linter.unusedVariables false
set_option maxRecDepth 100000
namespace Go.Ev
open Go

section
variable {l : List Cd}
theorem Tr.s (h : Tr l) : Shape (nds l) := h.t.valid.shape
theorem Tr.e (h : Tr l) : treeErr (nds l) = 0 := (valid_iff h.b.ok.nds).2 h.t.valid
theorem Tr.dep (h : Tr l) : ∀ i, i < (nds l).length → Go.Ev.dep (nds l) i ≤ 64 := h.t.valid.dep
theorem clI_mem {N : List Nd} {A : Nat → Bool} {d n : Nat} {x : Int} : x ∈ clI N A d n ↔ ∃ j : Nat, j < n ∧ chl N A d j = true ∧ x = (j : Int) := by
  unfold clI
  simp only [List.mem_map, List.mem_filter, List.mem_range]
  exact ⟨fun ⟨j, ⟨h1, h2⟩, h3⟩ => ⟨j, h1, h2, h3.symm⟩, fun ⟨j, h1, h2, h3⟩ => ⟨j, ⟨h1, h2⟩, h3.symm⟩⟩
end
end Go.Ev
