/-
  The law ScalarsKnown in plain form: true.
-/
import Derived.Test.YtilgfaangfbndaaDoorEvS6
import Derived.Test.YtilgfaangfbndaaDoorEvG5b
set_option linter.unusedSimpArgs false
set_option linter.unusedVariables false
set_option maxRecDepth 1000000
namespace Go.Ev
open Go

theorem sp4_true (l : List Nat) (hb : isBy l) (n : Nat) (hn : n = l.length) (c : Option Nat) (cs : List D) (hcs : cs = nb l) : sp4 [.list n c cs] = some (.v (.bool true)) := by
  subst hn hcs
  exact get_true l hb c
theorem sp3_true (x : Int) (h1 : -9223372036854775808 ≤ x) (h2 : x < 9223372036854775808) : sp3 [.v (.int .i64 x)] = some (.v (.bool true)) := ints_true x h1 h2

theorem isBy_two {x y : Nat} (hx : x < 256) (hy : y < 256) : isBy [x, y] := fun z hz => by simp at hz; omega

theorem k2 : ∀ (k i n : Nat), i + k = 256 → k < n → F5_5_2 M n (i : Int) = F5_5_8 M M 1 0
  | 0, i, n, h, hn => by
    obtain ⟨n, rfl⟩ : ∃ q, n = q + 1 := ⟨n - 1, by omega⟩
    rw [F5_5_2_s, decide_eq_false (by omega), cond_false]
  | k + 1, i, n, h, hn => by
    obtain ⟨n, rfl⟩ : ∃ q, n = q + 1 := ⟨n - 1, by omega⟩
    have hi : i < 256 := by omega
    have w : IntKind.wrap .u8 (i : Int) = (i : Int) := by rw [wrap_u8]; omega
    rw [F5_5_2_s, decide_eq_true (by omega), cond_true, w]
    have a1 : sp4 [.list 1 (some 1) [.v (.int .u8 (i : Int))]] = _ := sp4_true [i] (isBy_one hi) 1 rfl (some 1) _ rfl
    have a2 : sp4 [.list 2 (some 2) [.v (.int .u8 (i : Int)), .v (.int .u8 0)]] = _ := sp4_true [i, 0] (isBy_two hi (by omega)) 2 rfl (some 2) _ rfl
    have a3 : sp4 [.list 2 (some 2) [.v (.int .u8 0), .v (.int .u8 (i : Int))]] = _ := sp4_true [0, i] (isBy_two (by omega) hi) 2 rfl (some 2) _ rfl
    have a4 : sp4 [.list 2 (some 2) [.v (.int .u8 255), .v (.int .u8 (i : Int))]] = _ := sp4_true [255, i] (isBy_two (by omega) hi) 2 rfl (some 2) _ rfl
    rw [a1, a2, a3, a4]
    simp only [Option.bind_some, rdB, Bool.not_true, cond_false]
    rw [F5_5_j3_e, wrap_of (n := i + 1) (by simp) (by omega)]
    exact k2 k (i + 1) n (by omega) (by omega)

theorem tail5 (n : Nat) (p : Int) : F5_5_8 M (n + 1) p 62 = some (.v (.bool true)) := by kernel_rfl

theorem k8 : ∀ (k i n : Nat) (p : Int), i + k = 62 → k < n → 1 ≤ p → p * 2 ^ k ≤ 4611686018427387904 → F5_5_8 M n p (i : Int) = some (.v (.bool true))
  | 0, i, n, p, h, hn, _, _ => by
    obtain ⟨n, rfl⟩ : ∃ q, n = q + 1 := ⟨n - 1, by omega⟩
    have : i = 62 := by omega
    subst this
    exact tail5 n p
  | k + 1, i, n, p, h, hn, h1, h2 => by
    obtain ⟨n, rfl⟩ : ∃ q, n = q + 1 := ⟨n - 1, by omega⟩
    have hp : p * 2 ^ (k + 1) = 2 * p * 2 ^ k := by rw [Int.pow_succ, ← Int.mul_assoc, Int.mul_comm (p * 2 ^ k) 2, Int.mul_assoc]
    have hk : (1 : Int) ≤ 2 ^ k := Int.add_one_le_of_lt (Int.pow_pos (by decide))
    have hle : 2 * p ≤ 2 * p * 2 ^ k := by
      have := Int.mul_le_mul_of_nonneg_left hk (show 0 ≤ 2 * p by omega)
      omega
    rw [hp] at h2
    rw [F5_5_8_s, decide_eq_true (by omega), cond_true]
    rw [wrap_i64 (x := p - 1) (by omega) (by omega), wrap_i64 (x := 0 - p) (by omega) (by omega), wrap_i64 (x := 0 - p - 1) (by omega) (by omega)]
    rw [sp3_true p (by omega) (by omega), sp3_true (p - 1) (by omega) (by omega), sp3_true (0 - p) (by omega) (by omega), sp3_true (0 - p - 1) (by omega) (by omega)]
    simp only [Option.bind_some, rdB, Bool.not_true, cond_false]
    rw [F5_5_j12_e, wrap_i64 (x := 2 * p) (by omega) (by omega), wrap_of (n := i + 1) (by simp) (by omega)]
    exact k8 k (i + 1) n (2 * p) (by omega) (by omega) (by omega) h2

/-- ScalarsKnown. -/
theorem known_true : sp5 [] = some (.v (.bool true)) := by
  show F5 M = _
  unfold F5
  have h2 := k2 256 0 M (by omega) (by unfold M; omega)
  have h8 := k8 62 0 M 1 (by omega) (by unfold M; omega) (by omega) (by decide)
  exact h2.trans h8
end Go.Ev
