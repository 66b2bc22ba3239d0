/-
  The content octets of an integer are the reference's, and are read back.
-/
import Derived.Test.YtilgfaangfbndaaDoorEvS1
set_option linter.unusedSimpArgs false
set_option linter.unusedVariables false
set_option maxRecDepth 100000
namespace Go.Ev
open Go

/-- The last bytes. -/
def lowB (x : Int) : Nat → List Int
  | 0 => []
  | k + 1 => byte k x :: lowB x k
theorem lowB_length (x : Int) : ∀ k, (lowB x k).length = k
  | 0 => rfl
  | k + 1 => by simp [lowB, lowB_length x k]
theorem bytes8_eq (x : Int) : bytes8 x = lowB x 8 := rfl
theorem quo_succ (x : Int) (k : Nat) : x / 256 ^ (k + 1) = x / 256 ^ k / 256 := by
  rw [Int.pow_succ, Int.ediv_ediv_of_nonneg (Int.le_of_lt (Int.pow_pos (by decide)))]
/-- The first k + 1 bytes are enough. -/
def enough (x : Int) (k : Nat) : Bool := doneI (x / 256 ^ (k + 1)) (byte k x)

theorem enough_iff {x : Int} {k : Nat} : enough x k = true ↔ (x / 256 ^ k / 256 = 0 ∧ x / 256 ^ k % 256 < 128) ∨ (x / 256 ^ k / 256 = -1 ∧ x / 256 ^ k % 256 > 127) := by
  unfold enough doneI byte
  rw [quo_succ]
  simp only [Bool.or_eq_true, Bool.and_eq_true, beq_iff_eq, decide_eq_true_eq]
theorem enough_succ {x : Int} {k : Nat} (h : enough x k = true) : enough x (k + 1) = true := by
  rw [enough_iff] at h ⊢
  rw [quo_succ]
  omega
theorem sup_iff {x : Int} {k : Nat} : sup (lowB x (k + 2)) = true ↔ (x / 256 ^ k / 256 % 256 = 0 ∧ x / 256 ^ k % 256 < 128) ∨ (x / 256 ^ k / 256 % 256 = 255 ∧ x / 256 ^ k % 256 ≥ 128) := by
  simp only [lowB, sup, byte]
  rw [quo_succ]
  generalize x / 256 ^ k = q
  by_cases h0 : q / 256 % 256 = 0
  · by_cases h1 : q % 256 < 128 <;> simp [h0, h1]
  · by_cases h2 : q / 256 % 256 = 255 <;> simp [h0, h2]
theorem sup_of_enough {x : Int} {k : Nat} (h : enough x k = true) : sup (lowB x (k + 2)) = true := by
  rw [enough_iff] at h; rw [sup_iff]; omega
theorem not_sup {x : Int} {k : Nat} (h : enough x k = false) (h' : enough x (k + 1) = true) : sup (lowB x (k + 2)) = false := by
  cases hs : sup (lowB x (k + 2)) with
  | false => rfl
  | true =>
    exfalso
    rw [sup_iff] at hs
    rw [enough_iff, quo_succ] at h'
    have : ¬ enough x k = true := by simp [h]
    rw [enough_iff] at this
    omega

theorem strip_of_sup {a : Int} {r : List Int} (h : sup (a :: r) = true) : strip (a :: r) = strip r := by simp [strip, h]
theorem strip_of_not {l : List Int} (h : sup l = false) : strip l = l := by
  cases l with
  | nil => rfl
  | cons a r => simp [strip, h]

/-- From where the bytes are enough on, what is stripped is the same. -/
theorem strip_down {x : Int} {k : Nat} (h : enough x k = true) : ∀ d, strip (lowB x (k + 1 + d)) = strip (lowB x (k + 1)) ∧ enough x (k + d) = true
  | 0 => ⟨rfl, h⟩
  | d + 1 => by
    obtain ⟨h1, h2⟩ := strip_down h d
    refine ⟨?_, enough_succ h2⟩
    have hs := sup_of_enough h2
    rw [show k + d + 2 = k + 1 + (d + 1) by omega] at hs
    have e : lowB x (k + 1 + (d + 1)) = byte (k + 1 + d) x :: lowB x (k + 1 + d) := rfl
    rw [e] at hs ⊢
    rw [strip_of_sup hs, h1]

theorem strip_first {x : Int} {k : Nat} (h : enough x k = true) (hf : ∀ i, i < k → enough x i = false) : strip (lowB x (k + 1)) = lowB x (k + 1) := by
  refine strip_of_not ?_
  cases k with
  | zero => rfl
  | succ k => exact not_sup (hf k (by omega)) h

theorem refI_low {x : Int} : ∀ (n j : Nat), (∀ i, i < j → enough x i = false) → enough x (j + n) = true → ∃ k, k ≤ j + n ∧ enough x k = true ∧ (∀ i, i < k → enough x i = false) ∧ refI (n + 1) (lowB x j) (x / 256 ^ j) = lowB x (k + 1)
  | 0, j, hf, he => by
    refine ⟨j, by omega, he, hf, ?_⟩
    have : doneI (x / 256 ^ j / 256) (x / 256 ^ j % 256) = true := by
      have := he; unfold enough byte at this; rw [Nat.add_zero, quo_succ] at this; exact this
    simp only [refI, this, if_true]
    rfl
  | n + 1, j, hf, he => by
    cases hd : enough x j with
    | true =>
      refine ⟨j, by omega, hd, hf, ?_⟩
      have : doneI (x / 256 ^ j / 256) (x / 256 ^ j % 256) = true := by
        have := hd; unfold enough byte at this; rw [quo_succ] at this; exact this
      simp only [refI, this, if_true]
      rfl
    | false =>
      have hd' : doneI (x / 256 ^ j / 256) (x / 256 ^ j % 256) = false := by
        have := hd; unfold enough byte at this; rw [quo_succ] at this; exact this
      obtain ⟨k, h1, h2, h3, h4⟩ := refI_low n (j + 1) (fun i hi => by
        by_cases hij : i = j
        · subst hij; exact hd
        · exact hf i (by omega)) (by rw [show j + 1 + n = j + (n + 1) by omega]; exact he)
      refine ⟨k, by omega, h2, h3, ?_⟩
      conv => lhs; unfold refI
      simp only [hd', Bool.false_eq_true, if_false]
      rw [← h4, quo_succ]
      rfl

theorem enough7 {x : Int} (h1 : -9223372036854775808 ≤ x) (h2 : x < 9223372036854775808) : enough x 7 = true := by
  rw [enough_iff]
  have h7 : (256 : Int) ^ 7 = 72057594037927936 := by decide
  rw [h7]
  omega

/-- The octets: how many, and that they are the reference's. -/
theorem octets {x : Int} (h1 : -9223372036854775808 ≤ x) (h2 : x < 9223372036854775808) :
    ∃ k, k ≤ 7 ∧ enough x k = true ∧ (∀ i, i < k → enough x i = false) ∧ putI x = lowB x (k + 1) ∧ refI 8 [] x = lowB x (k + 1) := by
  obtain ⟨k, hk, he, hf, hr⟩ := refI_low (x := x) 7 0 (fun i hi => by omega) (by simpa using enough7 h1 h2)
  refine ⟨k, by omega, he, hf, ?_, by simpa [lowB] using hr⟩
  unfold putI
  rw [bytes8_eq]
  have := (strip_down he (7 - k)).1
  rw [show k + 1 + (7 - k) = 8 by omega] at this
  rw [this, strip_first he hf]

/-! ### GetInt -/
theorem quo_small {x : Int} (h1 : -9223372036854775808 ≤ x) (h2 : x < 9223372036854775808) : ∀ r, -36028797018963968 ≤ x / 256 ^ (r + 1) ∧ x / 256 ^ (r + 1) < 36028797018963968
  | 0 => by simp; omega
  | r + 1 => by
    have := quo_small h1 h2 r
    rw [quo_succ]; omega

theorem get_loop (m : Nat) {x : Int} (h1 : -9223372036854775808 ≤ x) (h2 : x < 9223372036854775808) (cap : Option Nat) : ∀ (r n : Nat) (pre : List Int), r < n → pre.length + r ≤ 100 →
    F73_73_7 m n (x / 256 ^ r) (pre.length + r) cap (ib (pre ++ lowB x r)) ((pre.length + r : Nat) : Int) ((pre.length : Nat) : Int) = some (.tup [.v (.int .i64 x), .v (.int .i64 0)])
  | 0, n, pre, hn, hl => by
    obtain ⟨n', rfl⟩ : ∃ n', n = n' + 1 := ⟨n - 1, by omega⟩
    rw [F73_73_7_s]
    simp
  | r + 1, n, pre, hn, hl => by
    obtain ⟨n', rfl⟩ : ∃ n', n = n' + 1 := ⟨n - 1, by omega⟩
    rw [F73_73_7_s]
    have c1 : ((pre.length : Nat) : Int) < ((pre.length + (r + 1) : Nat) : Int) := by omega
    have c2 : (0 : Int) ≤ ((pre.length : Nat) : Int) ∧ ((pre.length : Nat) : Int) < ((pre.length + (r + 1) : Nat) : Int) := by omega
    rw [decide_eq_true c1, cond_true, if_pos c2]
    have hidx : (((pre.length : Nat) : Int)).toNat * 1 = pre.length := by omega
    rw [hidx, rdI_ib]
    have hget : (pre ++ lowB x (r + 1))[pre.length]? = some (byte r x) := by
      rw [List.getElem?_append_right (Nat.le_refl _), Nat.sub_self]; rfl
    rw [hget]
    simp only [Option.bind_some]
    have hb : 0 ≤ byte r x ∧ byte r x < 256 := by unfold byte; omega
    obtain ⟨q1, q2⟩ := quo_small h1 h2 r
    have hv : IntKind.wrap .i64 (((BitVec.ofInt (IntKind.bits .i64) (IntKind.wrap .i64 (x / 256 ^ (r + 1) * 2 ^ 8)) ||| BitVec.ofInt (IntKind.bits .i64) (IntKind.wrap .i64 (byte r x))).toNat : Nat) : Int) = x / 256 ^ r := by
      rw [show IntKind.bits .i64 = 64 from rfl, or_byte hb.1 hb.2 q1 q2]
      unfold byte
      rw [quo_succ]; omega
    rw [hv]
    have hi : IntKind.wrap .i64 (((pre.length : Nat) : Int) + 1) = (((pre ++ [byte r x]).length : Nat) : Int) := by
      rw [wrap_i64 (by omega) (by omega)]; simp
    rw [hi]
    have := get_loop m h1 h2 cap r n' (pre ++ [byte r x]) (by omega) (by simp; omega)
    rw [show (pre ++ [byte r x]) ++ lowB x r = pre ++ lowB x (r + 1) by simp [lowB]] at this
    rw [show (pre ++ [byte r x]).length + r = pre.length + (r + 1) by simp; omega] at this
    exact this

theorem sp73_octets {x : Int} (h1 : -9223372036854775808 ≤ x) (h2 : x < 9223372036854775808) {k : Nat} (hk : k ≤ 7) (he : enough x k = true) (hf : ∀ i, i < k → enough x i = false) (c : Option Nat) :
    sp73 [.list (k + 1) c (ib (lowB x (k + 1)))] = some (.tup [.v (.int .i64 x), .v (.int .i64 0)]) := by
  have hns : sup (lowB x (k + 1)) = false := by
    cases k with
    | zero => rfl
    | succ k => exact not_sup (hf k (by omega)) he
  simp only [sp73, F73]
  have e0 : ((((k + 1 : Nat) : Nat) : Int) == (0 : Int)) = false := by simp; omega
  have e1 : decide ((((k + 1 : Nat) : Nat) : Int) > (8 : Int)) = false := by simp; omega
  rw [e0, sp71_eq _ _ _ (by rw [lowB_length]), hns]
  simp only [cond_false, Option.bind_some, rdB, e1]
  rw [if_pos (by omega), rdI_ib]
  simp only [lowB, List.getElem?_cons_zero, Option.bind_some]
  rw [if_pos (by omega)]
  have hb : 0 ≤ byte k x ∧ byte k x < 256 := by unfold byte; omega
  have hv : IntKind.wrap .i64 (IntKind.wrap .i8 (byte k x)) = x / 256 ^ k := by
    rw [wrap_i8 hb.1 hb.2]
    rw [enough_iff] at he
    unfold byte at hb ⊢
    have : (if x / 256 ^ k % 256 < 128 then x / 256 ^ k % 256 else x / 256 ^ k % 256 - 256) = x / 256 ^ k := by split <;> omega
    rw [this]
    exact wrap_i64 (by omega) (by omega)
  rw [hv]
  have := get_loop M h1 h2 (Option.map (fun q => q - 1) c) k M [] (by unfold M; omega) (by simp; omega)
  simp only [List.length_nil, Nat.zero_add, List.nil_append] at this
  rw [← this]
  have hl : (k + 1 - 1) * 1 = k := by omega
  rw [hl, show k + 1 - 1 = k by omega, ib_cons, List.drop_succ_cons, List.drop_zero, List.take_of_length_le (by simp [lowB_length])]
  rfl

end Go.Ev
