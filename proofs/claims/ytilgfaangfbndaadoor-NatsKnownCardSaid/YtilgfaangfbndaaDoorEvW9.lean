/-
  The law NatsSmall in plain form: true of any machine word and any number.
-/
import Derived.Test.YtilgfaangfbndaaDoorEvW5
import Derived.Test.YtilgfaangfbndaaDoorEvG9c
set_option linter.unusedSimpArgs false
set_option linter.unusedVariables false
set_option maxRecDepth 100000
namespace Go.Ev
open Go
theorem stepU {R : Type} {x : Option D} {g e : Int} {f : Int → Int → Option R} (h : x = some (.tup [.v (.int .u64 g), .v (.int .i64 e)])) :
    (x.bind fun d => (rdT d).bind fun r => if List.length r = 2 then (rdI .u64 r[0]?).bind fun q => (rdI .i64 r[1]?).bind fun z => f q z else none) = f g e := by subst h; rfl
theorem powB_isBy (k : Nat) : isBy (powB k) := fun x hx => by
  rcases List.mem_cons.1 hx with rfl | hx
  · exact Nat.pow_lt_pow_right (by omega : 1 < 2) (show k % 8 < 8 by omega)
  · have := (List.mem_replicate.1 hx).2; omega
theorem powB_val (k : Nat) : valBE (powB k) = 2 ^ k := by
  rw [powB, valBE_cons]
  have h1 : valBE (List.replicate (k / 8) 0) = 0 := by rw [valBE, List.reverse_replicate, val_zeros]
  have h2 : (256 : Nat) ^ (k / 8) = 2 ^ (8 * (k / 8)) := by rw [Nat.pow_mul]
  rw [h1, List.length_replicate, h2, ← Nat.pow_add, Nat.add_zero]
  congr 1; omega
theorem powB_len (k : Nat) : (powB k).length = k / 8 + 1 := by simp [powB]
theorem bits_spec (a : List Nat) (ha : isN a) (hne : a ≠ []) : 1 ≤ bitsN a ∧ bitsN a ≤ 512 ∧ 2 ^ (bitsN a - 1) ≤ valBE a ∧ valBE a < 2 ^ bitsN a := by
  cases a with
  | nil => exact absurd rfl hne
  | cons x r =>
    have hx := ha.by_ x (by simp)
    have hx0 : 1 ≤ x := by
      rcases Nat.eq_zero_or_pos x with h | h
      · subst h; exact absurd rfl ha.head
      · exact h
    have hl := ha.len
    simp only [List.length_cons] at hl
    obtain ⟨h1, h2, h3, h4⟩ := len8_spec x hx hx0
    have hr := valBE_lt r (fun y hy => ha.by_ y (by simp [hy]))
    have hb : bitsN (x :: r) = 8 * r.length + len8 x := rfl
    rw [hb, valBE_cons]
    have e1 : 2 ^ (8 * r.length + len8 x) = 2 ^ len8 x * 256 ^ r.length := by rw [Nat.pow_add, Nat.pow_mul, Nat.mul_comm]
    have e2 : 2 ^ (8 * r.length + len8 x - 1) = 2 ^ (len8 x - 1) * 256 ^ r.length := by rw [show 8 * r.length + len8 x - 1 = 8 * r.length + (len8 x - 1) by omega, Nat.pow_add, Nat.pow_mul, Nat.mul_comm]
    rw [e1, e2]
    refine ⟨by omega, by omega, ?_, ?_⟩
    · have : 2 ^ (len8 x - 1) * 256 ^ r.length ≤ x * 256 ^ r.length := Nat.mul_le_mul_right _ h3
      omega
    · have : (x + 1) * 256 ^ r.length ≤ 2 ^ len8 x * 256 ^ r.length := Nat.mul_le_mul_right _ h4
      rw [Nat.add_mul, Nat.one_mul] at this
      omega

theorem small_j9 (a : List Nat) (c : Option Nat) (ha : isN a) : F17_17_j9 sp39 sp52 sp58 sp61 sp67 sp68 sp69 sp70 M a.length c (nb a) = some (.v (.bool true)) := by
  have hal := ha.len
  rw [F17_17_j9_e]
  refine (stepI (sp67_eq a _ rfl c ha)).trans ?_; try dsimp only
  have hk : bitsN a ≤ 512 := by
    by_cases hne : a = []
    · subst hne; exact Nat.zero_le _
    · exact (bits_spec a ha hne).2.1
  have hcmp : ∀ k, k ≤ 512 → ∀ c', sp61 [.list (powB k).length c' (nb (powB k)), .list a.length c (nb a)] = some (.v (.int .i64 (cmpN (2 ^ k) (valBE a)))) := fun k hk c' => by
    have := sp61_eq (powB k) a _ _ rfl rfl (powB_isBy k) ha.by_ (by rw [powB_len]; omega) (by omega) c' c
    rw [powB_val] at this
    exact this
  have hlt : valBE a < 2 ^ bitsN a := by
    by_cases hne : a = []
    · subst hne; show 0 < 2 ^ 0; omega
    · exact (bits_spec a ha hne).2.2.2
  rw [decide_eq_false (show ¬ ((bitsN a : Nat) : Int) < 0 by omega), cond_false, decide_eq_false (show ¬ ((bitsN a : Nat) : Int) > 512 by omega), cond_false]
  refine (stepL (sp70_eq (bitsN a) (by omega))).trans ?_; try dsimp only
  refine (stepI (hcmp (bitsN a) hk _)).trans ?_; try dsimp only
  have hc1 : cmpN (2 ^ bitsN a) (valBE a) = 1 := by
    revert hlt
    generalize 2 ^ bitsN a = p
    intro hlt
    unfold cmpN; rw [if_neg (by omega), if_pos hlt]
  rw [hc1, decide_eq_false (by omega), cond_false, F17_17_j12_e]
  by_cases hb0 : bitsN a = 0
  · rw [hb0, show (((0 : Nat) : Int) == 0) = true from rfl, cond_true]
    exact fin_true
  · have hne : a ≠ [] := fun h => hb0 (by rw [h]; rfl)
    have hge := (bits_spec a ha hne).2.2.1
    have w : IntKind.wrap .i64 (((bitsN a : Nat) : Int) - 1) = ((bitsN a - 1 : Nat) : Int) := wrap_of (by omega) (by omega)
    rw [show (((bitsN a : Nat) : Int) == 0) = false by simp; omega, cond_false, w]
    refine (stepL (sp70_eq (bitsN a - 1) (by omega))).trans ?_; try dsimp only
    refine (stepI (hcmp (bitsN a - 1) (by omega) _)).trans ?_; try dsimp only
    have hc2 : cmpN (2 ^ (bitsN a - 1)) (valBE a) ≤ 0 := by
      revert hge
      generalize 2 ^ (bitsN a - 1) = p
      intro hge
      unfold cmpN
      by_cases h1 : p < valBE a
      · rw [if_pos h1]; omega
      · rw [if_neg h1, if_neg (by omega)]; omega
    rw [decide_eq_true hc2, cond_true]
    exact fin_true

/-- NatsSmall. -/
theorem small_true (v : Nat) (hv : v < 18446744073709551616) (l : List Nat) (hl : isBy l) (c : Option Nat) : sp17 [.v (.int .u64 (v : Int)), .agg [.list l.length c (nb l)]] = some (.v (.bool true)) := by
  have hlim : v < lim := Nat.lt_of_lt_of_le (show v < 256 ^ 8 by omega) (by unfold lim; exact Nat.pow_le_pow_right (by omega) (by omega))
  have hn := isN_byt hlim
  have h8 : (byt v).length ≤ 8 := (byt_length_le v 8).2 (by omega)
  have h2 := sp69_eq (byt v) _ rfl (some (byt v).length) hn
  rw [if_pos h8, valBE_byt] at h2
  have h3 := sp68_eq (byt v) _ rfl (some (byt v).length)
  rw [hn.check] at h3
  obtain ⟨c1, h4⟩ := sp39_eq l _ rfl c
  have ha := isN_ofN hl
  revert h4 ha
  generalize ofN l = a
  intro h4 ha
  simp only [sp17]
  unfold F17
  refine (stepL (sp58_eq v hv)).trans ?_; try dsimp only
  refine (stepU h2).trans ?_; try dsimp only
  refine (stepI h3).trans ?_; try dsimp only
  rw [show ((0 : Int) != 0) = false from rfl, cond_false, capO_some, show (((byt v).length : Int) != ((byt v).length : Int)) = false by simp, cond_false, cond_false, show ((v : Int) != (v : Int)) = false by simp, cond_false, F17_17_j5_e]
  have h5 := sp69_eq a _ rfl c1 ha
  have h9 := small_j9 a c1 ha
  refine (stepL h4).trans ?_; try dsimp only
  by_cases h8' : a.length ≤ 8
  · rw [if_pos h8'] at h5
    have hva : valBE a < 18446744073709551616 := by
      have h6 := valBE_lt a ha.by_
      have h7 : 256 ^ a.length ≤ 256 ^ 8 := Nat.pow_le_pow_right (by omega) h8'
      omega
    have h6 := sp58_eq (valBE a) hva
    rw [ha.eq] at h6
    refine (stepU h5).trans ?_; try dsimp only
    rw [decide_eq_false (by omega), cond_false, decide_eq_true (by omega), cond_true, show ((0 : Int) != 0) = false from rfl, cond_false]
    refine (stepL h6).trans ?_; try dsimp only
    refine (eqs' rfl rfl _ _).trans ?_
    exact h9
  · rw [if_neg h8'] at h5
    refine (stepU h5).trans ?_; try dsimp only
    rw [decide_eq_true (by omega), cond_true, show ((3 : Int) != 3) = false from rfl, cond_false, show ((0 : Int) != 0) = false from rfl, cond_false, decide_eq_false (by omega), cond_false]
    exact h9
end Go.Ev
