/-
 Plain facts: rows, wraps.
-/
import Derived.Test.YthakkigkdhaihaaGreatDoorEzXD
set_option linter.unusedSimpArgs false
set_option linter.unusedVariables false
namespace Go.Ev
open Go
theorem Z1lm {α : Type} {n off size : Nat} {cs : List α} (h : cs.length = n) : cutL n cs off size = (cs.drop off).take size := by
 unfold cutL
 split
 ·rename_i h0; rw [h0.1, List.drop_zero, List.take_of_length_le (by omega)]
 ·rfl
theorem Z1h8 (x : Int) : IntKind.wrap .i64 x = if x % 18446744073709551616 ≥ 9223372036854775808 then x % 18446744073709551616 - 18446744073709551616 else x % 18446744073709551616 := by
 have h1 : (2 ^ IntKind.i64.bits : Int) = 18446744073709551616 := by decide
 have h2 : (2 ^ (IntKind.i64.bits - 1) : Int) = 9223372036854775808 := by decide
 simp only [IntKind.wrap, h1, h2, show IntKind.i64.signed = true from rfl, Bool.true_and, decide_eq_true_eq]
theorem Z1kv {x : Int} (h1 : -9223372036854775808 ≤ x) (h2 : x < 9223372036854775808) : IntKind.wrap .i64 x = x := by
 rw [Z1h8]; split <;> omega
theorem Z13s {n : Nat} (h : n < 9223372036854775808) : IntKind.wrap .i64 (n : Int) = (n : Int) := Z1kv (by omega) (by omega)
theorem Zy7 {x : Int} {n : Nat} (hx : x = (n : Int)) (h : n < 9223372036854775808) : IntKind.wrap .i64 x = (n : Int) := by subst hx; exact Z13s h
theorem rdI_v (k : IntKind) (i : Int) : rdI k (some (.v (.int k i))) = some i := by simp [rdI]
theorem rdB_v (b : Bool) : rdB (some (.v (.bool b))) = some b := rfl
end Go.Ev