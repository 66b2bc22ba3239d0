/-
  A string argument, as a list of numbers.
-/
import Derived.Test.YtilgfaangfbndaaDoorEvA
import Derived.Test.YtilgfaangfbndaaDoorEvN7
namespace Go.Ev
open Go
theorem strB_of (s : ByteArray) : ∃ l : List Nat, isBy l ∧ s = strB l := by
  refine ⟨s.data.toList.map UInt8.toNat, fun x hx => ?_, ?_⟩
  · obtain ⟨u, _, rfl⟩ := List.mem_map.1 hx
    exact UInt8.toNat_lt u
  · apply ByteArray.ext
    simp only [strB, List.map_map]
    have : ((fun x => UInt8.ofNat x) ∘ UInt8.toNat) = id := by
      funext u
      simp
    rw [this, List.map_id]
theorem args_string {P : Program} {t : TypeId} (ht : P.underlying t = some .string) {d : D} (h : ArgFits P t d) : ∃ l : List Nat, isBy l ∧ d = .v (.string (strB l)) := by
  obtain ⟨n, hf⟩ := h
  simp only [ht] at hf
  cases n with
  | zero => exact hf.elim
  | succ n =>
    simp only [Fits, ht] at hf
    obtain ⟨s, hs, _⟩ := hf
    cases hs
    obtain ⟨l, h1, h2⟩ := strB_of s
    exact ⟨l, h1, by rw [h2]⟩
end Go.Ev
