/-
  Plain facts: bytes as data, wraps, bits.
-/
import Derived.Test.YtilgfaangfbndaaDoorEvXD
set_option linter.unusedSimpArgs false
set_option linter.unusedVariables false
namespace Go.Ev
open Go

/-- Bytes as data. -/
def ib (l : List Int) : List D := l.map fun x => .v (.int .u8 x)
@[simp] theorem ib_length (l : List Int) : (ib l).length = l.length := by simp [ib]
@[simp] theorem ib_nil : ib [] = [] := rfl
@[simp] theorem ib_cons (x : Int) (l : List Int) : ib (x :: l) = .v (.int .u8 x) :: ib l := rfl
theorem ib_append (l l' : List Int) : ib (l ++ l') = ib l ++ ib l' := by simp [ib]
theorem ib_drop (l : List Int) (n : Nat) : (ib l).drop n = ib (l.drop n) := by simp [ib, List.map_drop]
theorem ib_take (l : List Int) (n : Nat) : (ib l).take n = ib (l.take n) := by simp [ib, List.map_take]
@[simp] theorem rdI_ib (l : List Int) (i : Nat) : rdI .u8 (ib l)[i]? = l[i]? := by
  simp only [ib, List.getElem?_map]
  cases l[i]? <;> simp [rdI]
theorem cutL_eq {α : Type} {n off size : Nat} {cs : List α} (h : cs.length = n) : cutL n cs off size = (cs.drop off).take size := by
  unfold cutL
  split
  · rename_i h0; rw [h0.1, List.drop_zero, List.take_of_length_le (by omega)]
  · rfl

/-- Whole bytes. -/
def isB (l : List Int) : Prop := ∀ x, x ∈ l → 0 ≤ x ∧ x < 256

theorem bytesOf_ib : ∀ (l : List Int), bytesOf (ib l) = some (l.map fun x => UInt8.ofNat x.toNat)
  | [] => rfl
  | x :: l => by simp [bytesOf, bytesOf_ib l]

theorem wrap_u8 (x : Int) : IntKind.wrap .u8 x = x % 256 := by simp [IntKind.wrap, IntKind.signed, IntKind.bits]
theorem wrap_i64_eq (x : Int) : IntKind.wrap .i64 x = if x % 18446744073709551616 ≥ 9223372036854775808 then x % 18446744073709551616 - 18446744073709551616 else x % 18446744073709551616 := by
  have h1 : (2 ^ IntKind.i64.bits : Int) = 18446744073709551616 := by decide
  have h2 : (2 ^ (IntKind.i64.bits - 1) : Int) = 9223372036854775808 := by decide
  simp only [IntKind.wrap, h1, h2, show IntKind.i64.signed = true from rfl, Bool.true_and, decide_eq_true_eq]
theorem wrap_i8_eq (x : Int) : IntKind.wrap .i8 x = if x % 256 ≥ 128 then x % 256 - 256 else x % 256 := by
  have h1 : (2 ^ IntKind.i8.bits : Int) = 256 := by decide
  have h2 : (2 ^ (IntKind.i8.bits - 1) : Int) = 128 := by decide
  simp only [IntKind.wrap, h1, h2, show IntKind.i8.signed = true from rfl, Bool.true_and, decide_eq_true_eq]
theorem wrap_i64 {x : Int} (h1 : -9223372036854775808 ≤ x) (h2 : x < 9223372036854775808) : IntKind.wrap .i64 x = x := by
  rw [wrap_i64_eq]; split <;> omega
theorem wrap_i8 {x : Int} (h1 : 0 ≤ x) (h2 : x < 256) : IntKind.wrap .i8 x = if x < 128 then x else x - 256 := by
  rw [wrap_i8_eq]; split <;> split <;> omega
theorem wrap_i64_mod (x : Int) : ∃ k : Int, IntKind.wrap .i64 x = x + k * 18446744073709551616 ∧ -9223372036854775808 ≤ IntKind.wrap .i64 x ∧ IntKind.wrap .i64 x < 9223372036854775808 := by
  rw [wrap_i64_eq]
  split
  · exact ⟨-(x / 18446744073709551616) - 1, by omega, by omega, by omega⟩
  · exact ⟨-(x / 18446744073709551616), by omega, by omega, by omega⟩

theorem pow64 : ((2 ^ 64 : Nat) : Int) = 18446744073709551616 := by decide

/-- A shift by eight, a byte behind it. -/
theorem or_byte {a b : Int} (hb0 : 0 ≤ b) (hb : b < 256) (h1 : -36028797018963968 ≤ a) (h2 : a < 36028797018963968) :
    IntKind.wrap .i64 (((BitVec.ofInt 64 (IntKind.wrap .i64 (a * 2 ^ 8)) ||| BitVec.ofInt 64 (IntKind.wrap .i64 b)).toNat : Nat) : Int) = a * 256 + b := by
  have e1 : IntKind.wrap .i64 (a * 2 ^ 8) = a * 256 := by rw [show a * 2 ^ 8 = a * 256 by omega]; exact wrap_i64 (by omega) (by omega)
  have e2 : IntKind.wrap .i64 b = b := wrap_i64 (by omega) (by omega)
  rw [e1, e2]
  have t1 : (BitVec.ofInt 64 (a * 256)).toNat = (a % 72057594037927936).toNat * 2 ^ 8 := by
    rw [BitVec.toNat_ofInt]
    rw [pow64]
    omega
  have t2 : (BitVec.ofInt 64 b).toNat = b.toNat := by
    rw [BitVec.toNat_ofInt]
    rw [pow64]
    omega
  rw [BitVec.toNat_or, t1, t2, ← Nat.shiftLeft_eq, ← Nat.shiftLeft_add_eq_or_of_lt (by omega), Nat.shiftLeft_eq]
  obtain ⟨k, hk, l1, l2⟩ := wrap_i64_mod ((((a % 72057594037927936).toNat * 2 ^ 8 + b.toNat : Nat)) : Int)
  rw [hk] at l1 l2 ⊢
  omega

/-- The low byte. -/
theorem and_255 (x : Int) (h1 : -9223372036854775808 ≤ x) (h2 : x < 9223372036854775808) :
    IntKind.wrap .i64 (((BitVec.ofInt 64 x &&& BitVec.ofInt 64 (255 : Int)).toNat : Nat) : Int) = x % 256 := by
  have t2 : (BitVec.ofInt 64 (255 : Int)).toNat = 2 ^ 8 - 1 := by decide
  have t1 : (((BitVec.ofInt 64 x).toNat : Nat) : Int) = x % 18446744073709551616 := by
    rw [BitVec.toNat_ofInt]
    rw [pow64]
    omega
  rw [BitVec.toNat_and, t2, Nat.and_two_pow_sub_one_eq_mod]
  rw [wrap_i64 (by omega) (by omega)]
  omega
end Go.Ev
