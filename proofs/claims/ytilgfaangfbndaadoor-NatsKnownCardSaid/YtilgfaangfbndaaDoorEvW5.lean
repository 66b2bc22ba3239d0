/-
  The law NatsPower in plain form: true of any number and any exponent.
-/
import Derived.Test.YtilgfaangfbndaaDoorEvR2
import Derived.Test.YtilgfaangfbndaaDoorEvG9
set_option linter.unusedSimpArgs false
set_option linter.unusedVariables false
set_option maxRecDepth 100000
namespace Go.Ev
open Go
theorem sp60_one : sp60 [.v (.int .i64 1)] = some (.list 1 none (nd [1])) := by kernel_rfl
theorem dig_one : dig 10 1 = [1] := by rw [dig_pos (by omega) (by omega), show 1 / 10 = 0 from rfl, dig_zero]
theorem sp59_neg (a : List Nat) (n : Nat) (hn : n = a.length) (ac : Option Nat) (ha : isN a) (i : Int) (hi : i < 0) : sp59 [.list n ac (nb a), .v (.int .i64 i)] = some (.tup [.list 0 (some 0) [], .v (.int .i64 1)]) := by
  subst hn
  simp only [sp59, F59]
  rw [sp68_eq a _ rfl, ha.check]
  simp only [Option.bind_some, rdI64]
  rw [show ((0 : Int) != 0) = false from rfl, cond_false, decide_eq_true hi, cond_true]

/-- 'same' of a result that is too large. -/
theorem sp47_three (v : Nat) (h : ¬ v < lim) : ∃ (n : Nat) (cs : List D), numR v = .tup [.list n (some n) cs, .v (.int .i64 3)] ∧ sp47 [.list n (some n) cs, .v (.int .i64 3), .list 0 (some 0) [], .v (.int .i64 3)] = some (.v (.bool true)) :=
  ⟨0, [], numR_err h, sp47_err 3 (by omega) 0 (some 0) []⟩

theorem power_loop (a : List Nat) (ac : Option Nat) (ha : isN a) (k : Nat) (hk : k < 9223372036854775808) (hv : 1 ≤ valBE a ∨ k = 0) (np : Nat) (cp : List D) (ep : Int) (hp : numR (valBE a ^ k) = .tup [.list np (some np) cp, .v (.int .i64 ep)]) : ∀ (n i : Nat) (c : Option Nat), k - i < n → i ≤ k → valBE a ^ i < lim →
    F12_12_9 sp39 sp45 sp47 sp49 sp52 sp54 sp59 sp60 M n (k : Int) a.length ac (nb a) np (some np) cp ep (dig 10 (valBE a ^ i)).length c (nd (dig 10 (valBE a ^ i))) (i : Int) = some (.v (.bool true))
  | 0, i, c, h, _, _ => by omega
  | n + 1, i, c, h, hi, hlt => by
    have hal := ha.len
    have la := ha.lt
    have da := dig10_len (n := valBE a) (k := 64) la
    have di := dig10_len (n := valBE a ^ i) (k := 64) hlt
    rw [F12_12_9_s]
    by_cases hik : i < k
    · obtain ⟨c3, h3⟩ := sp45_eq a ac _ rfl ha.by_ (by omega)
      obtain ⟨c4, h4⟩ := sp54_eq (dig 10 (valBE a ^ i)) (dig 10 (valBE a)) _ _ rfl rfl c c3 (dig10_dig _) (dig10_dig _) (by omega)
      rw [val_dig (by omega), val_dig (by omega), ← Nat.pow_succ] at h4
      have hb : valBE a ^ (i + 1) < 256 ^ 200 := lim_lt2000 (by rw [Nat.pow_succ]; exact Nat.mul_lt_mul'' hlt la)
      have h5 := sp49_eq (valBE a ^ (i + 1)) _ rfl c4 hb
      rw [decide_eq_true (by omega), cond_true]
      refine (stepL h3).trans ?_; try dsimp only
      refine (stepL h4).trans ?_; try dsimp only
      refine (stepI h5).trans ?_; try dsimp only
      rw [fitE_nz]
      by_cases ho : valBE a ^ (i + 1) < lim
      · have w : IntKind.wrap .i64 ((i : Int) + 1) = ((i + 1 : Nat) : Int) := wrap_of (by simp) (by omega)
        rw [decide_eq_true ho, Bool.not_true, cond_false, w]
        exact power_loop a ac ha k hk hv np cp ep hp n (i + 1) c4 (by omega) (by omega) ho
      · have hge : valBE a ^ (i + 1) ≤ valBE a ^ k := Nat.pow_le_pow_right (by omega) (by omega)
        have hno : ¬ valBE a ^ k < lim := by omega
        rw [numR_err hno] at hp
        cases hp
        rw [decide_eq_false ho, Bool.not_false, cond_true]
        refine (stepB (sp47_err 3 (by omega) 0 (some 0) [])).trans ?_; try dsimp only
        rw [cond_true]
        exact fin_true
    · have : i = k := by omega
      subst this
      rw [numR_ok hlt] at hp
      cases hp
      rw [decide_eq_false (by omega), cond_false]
      refine (stepB (sp47_ok _ hlt _ _ rfl rfl c)).trans ?_; try dsimp only
      rw [cond_true]
      exact fin_true

theorem power_j7 (a : List Nat) (ac : Option Nat) (ha : isN a) (k : Nat) (hk : k < 9223372036854775808) (hv : 1 ≤ valBE a ∨ k = 0) (np : Nat) (cp : List D) (ep : Int) (hp : numR (valBE a ^ k) = .tup [.list np (some np) cp, .v (.int .i64 ep)]) :
    F12_12_j7 sp39 sp45 sp47 sp49 sp52 sp54 sp59 sp60 M (k : Int) a.length ac (nb a) np (some np) cp ep = some (.v (.bool true)) := by
  rw [F12_12_j7_e]
  refine (stepL sp60_one).trans ?_; try dsimp only
  have hl1 : valBE a ^ 0 < lim := by rw [Nat.pow_zero]; exact Nat.lt_of_lt_of_le (by omega) lim_big
  have := power_loop a ac ha k hk hv np cp ep hp M 0 none (by unfold M; omega) (by omega) hl1
  rw [Nat.pow_zero, dig_one] at this
  exact this

/-- NatsPower. -/
theorem power_true (l : List Nat) (hl : isBy l) (c : Option Nat) (i : Int) (h1 : -9223372036854775808 ≤ i) (h2 : i < 9223372036854775808) : sp12 [.agg [.list l.length c (nb l)], .v (.int .i64 i)] = some (.v (.bool true)) := by
  obtain ⟨c1, h3⟩ := sp39_eq l _ rfl c
  have ha := isN_ofN hl
  revert h3 ha
  generalize ofN l = a
  intro h3 ha
  have la := ha.lt
  have hal := ha.len
  simp only [sp12]
  unfold F12
  refine (stepL h3).trans ?_; try dsimp only
  by_cases hneg : i < 0
  · refine (stepT (sp59_neg a _ rfl c1 ha i hneg)).trans ?_; try dsimp only
    rw [decide_eq_true hneg, cond_true]
    refine (stepB (sp47_err 1 (by omega) 0 (some 0) [])).trans ?_; try dsimp only
    rw [cond_true]
    exact fin_true
  · obtain ⟨k, rfl⟩ : ∃ k : Nat, i = (k : Int) := ⟨i.toNat, by omega⟩
    have h4 := sp59_eq a _ rfl c1 ha k (by omega)
    obtain ⟨np, cp, ep, r5, _, _, s5⟩ := numR_cases (valBE a ^ k)
    rw [r5] at h4
    have j7 := fun hv => power_j7 a c1 ha k (by omega) hv np cp ep r5
    -- powers that are the number itself
    have same : valBE a ^ k = valBE a → (((sp45 [.list a.length c1 (nb a)]).bind fun d11 => (rdL (some d11)).bind fun q12 =>
        (sp47 [.list np (some np) cp, .v (.int .i64 ep), .list q12.n q12.cap q12.cs, .v (.int .i64 (0 : Int))]).bind fun d13 => (rdB (some d13)).bind fun b14 =>
        cond b14 ((sp52 []).bind fun d15 => (rdB (some d15)).bind fun b16 => some (D.v (.bool b16))) (some (D.v (.bool false)))) : Option D) = some (.v (.bool true)) := fun he => by
      obtain ⟨c6, h6⟩ := sp45_eq a c1 _ rfl ha.by_ (by omega)
      rw [he] at r5
      rw [numR_ok la] at r5
      cases r5
      refine (stepL h6).trans ?_; try dsimp only
      refine (stepB (sp47_ok _ la _ _ rfl rfl c6)).trans ?_; try dsimp only
      rw [cond_true]
      exact fin_true
    refine (stepT h4).trans ?_; try dsimp only
    rw [decide_eq_false hneg, cond_false]
    by_cases h0 : k = 0
    · rw [decide_eq_false (by omega), cond_false]
      exact j7 (.inr h0)
    · rw [decide_eq_true (by omega), cond_true]
      match a, ha, hal, la, same, j7 with
      | [], ha, hal, la, same, j7 =>
        rw [show ((([] : List Nat).length : Int) == 0) = true from rfl, cond_true]
        exact same (by rw [valBE_nil]; exact Nat.zero_pow (by omega))
      | [x], ha, hal, la, same, j7 =>
        have hx : rdI .u8 (nb [x])[0]? = some (x : Int) := rfl
        have hv : valBE [x] = x := by simp [valBE]
        have hx0 : x ≠ 0 := fun h => by subst h; exact ha.head rfl
        rw [show ((([x] : List Nat).length : Int) == 0) = false from rfl, cond_false, show ((([x] : List Nat).length : Int) == 1) = true from rfl, cond_true, if_pos (by simp), hx, Option.bind_some]
        by_cases h1 : x = 1
        · subst h1
          rw [show (((1 : Nat) : Int) == 1) = true from rfl, cond_true]
          exact same (by rw [hv, Nat.one_pow])
        · rw [show ((x : Int) == 1) = false by simp <;> omega, cond_false]
          exact j7 (.inl (by rw [hv]; omega))
      | x :: y :: r, ha, hal, la, same, j7 =>
        have hx0 : x ≠ 0 := fun h => by subst h; exact ha.head rfl
        rw [show (((x :: y :: r).length : Int) == 0) = false by simp <;> omega, cond_false, show (((x :: y :: r).length : Int) == 1) = false by simp <;> omega, cond_false]
        refine j7 (.inl ?_)
        rw [valBE_cons]
        have h1 : 1 ≤ 256 ^ (y :: r).length := Nat.pow_pos (by omega)
        have h2 : 1 * 1 ≤ x * 256 ^ (y :: r).length := Nat.mul_le_mul (by omega) h1
        omega
end Go.Ev
