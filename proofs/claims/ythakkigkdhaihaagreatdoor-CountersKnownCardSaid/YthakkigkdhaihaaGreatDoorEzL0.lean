/-
 Plain facts: rows, wraps.
-/
import Derived.Test.YthakkigkdhaihaaGreatDoorEzXD
set_option linter.unusedSimpArgs false
set_option linter.unusedVariables false
namespace Go.Ev
open Go
theorem Z17k {α : Type} {n off size : Nat} {cs : List α} (h : cs.length = n) : cutL n cs off size = (cs.drop off).take size := by
 unfold cutL
 split
 ·rename_i h0; rw [h0.1, List.drop_zero, List.take_of_length_le (by omega)]
 ·rfl
theorem Z1ez (x : Int) : IntKind.wrap .u8 x = x % 256 := by simp [IntKind.wrap, IntKind.signed, IntKind.bits]
theorem Z1ca (x : Int) : IntKind.wrap .i64 x = if x % 18446744073709551616 ≥ 9223372036854775808 then x % 18446744073709551616 - 18446744073709551616 else x % 18446744073709551616 := by
 have h1 : (2 ^ IntKind.i64.bits : Int) = 18446744073709551616 := by decide
 have h2 : (2 ^ (IntKind.i64.bits - 1) : Int) = 9223372036854775808 := by decide
 simp only [IntKind.wrap, h1, h2, show IntKind.i64.signed = true from rfl, Bool.true_and, decide_eq_true_eq]
theorem Zkt {x : Int} (h1 : -9223372036854775808 ≤ x) (h2 : x < 9223372036854775808) : IntKind.wrap .i64 x = x := by
 rw [Z1ca]; split <;> omega
theorem Zgf {α : Type} {n : Nat} {cs : List α} (h : cs.length = n) : cutL n cs 0 n = cs := by
 rw [Z17k h, List.drop_zero, List.take_of_length_le (by omega)]
theorem Ztl {n : Nat} (h : n < 9223372036854775808) : IntKind.wrap .i64 (n : Int) = (n : Int) := Zkt (by omega) (by omega)
theorem Zbu {x : Int} {n : Nat} (hx : x = (n : Int)) (h : n < 9223372036854775808) : IntKind.wrap .i64 x = (n : Int) := by subst hx; exact Ztl h
theorem Zpx {n : Nat} (h : n < 256) : IntKind.wrap .u8 (n : Int) = (n : Int) := by rw [Z1ez]; omega
theorem rdI_v (k : IntKind) (i : Int) : rdI k (some (.v (.int k i))) = some i := by simp [rdI]
theorem rdB_v (b : Bool) : rdB (some (.v (.bool b))) = some b := rfl
theorem rdA_v (cs : List D) : rdA (some (.agg cs)) = some cs := rfl
theorem rdT_v (cs : List D) : rdT (.tup cs) = some cs := rfl
theorem rdL_v (n : Nat) (c : Option Nat) (cs : List D) : rdL (some (.list n c cs)) = some ⟨n, c, cs⟩ := rfl
end Go.Ev