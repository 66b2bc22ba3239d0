/-
  The reference's Plus, Minus, Compare, Times, and what the laws hold against them, in terms of numbers.
-/
import Derived.Test.YtilgfaangfbndaaDoorEvN8
set_option linter.unusedSimpArgs false
set_option linter.unusedVariables false
set_option maxRecDepth 100000
namespace Go.Ev
open Go

theorem val_drop_getD {b : Nat} (l : List Nat) (i : Nat) : val b (l.drop i) = l.getD i 0 + b * val b (l.drop (i + 1)) := by
  by_cases h : i < l.length
  · rw [val_drop l h]; simp [List.getD, List.getElem?_eq_getElem h]
  · rw [List.drop_eq_nil_of_le (by omega), List.drop_eq_nil_of_le (by omega)]
    simp [List.getD, List.getElem?_eq_none (show l.length ≤ i by omega)]
theorem getD_lt {l : List Nat} (h : dig10 l) (i : Nat) : l.getD i 0 < 10 := by
  by_cases hi : i < l.length
  · have := h _ (List.getElem_mem hi)
    simpa [List.getD, List.getElem?_eq_getElem hi] using this
  · simp [List.getD, List.getElem?_eq_none (show l.length ≤ i by omega)]
theorem sp87_eq (l : List Nat) (n : Nat) (hn : n = l.length) (c : Option Nat) (i : Nat) : sp87 [.list n c (nd l), .v (.int .i64 (i : Int))] = some (.v (.int .i64 ((l.getD i 0 : Nat) : Int))) := by
  subst hn
  simp only [sp87, F87]
  by_cases h : i < l.length
  · rw [decide_eq_true (by omega), cond_true, if_pos (by omega), show Int.toNat (i : Int) * 1 = i by omega, rdI_nd_lt h, Option.bind_some]
    simp [List.getD, List.getElem?_eq_getElem h]
  · rw [decide_eq_false (by omega), cond_false]
    simp [List.getD, List.getElem?_eq_none (show l.length ≤ i by omega)]
/-- How a digit that is pushed counts. -/
theorem push_val (o : List Nat) (t c : Nat) : val 10 (o ++ [t % 10]) + 10 ^ (o ++ [t % 10]).length * (t / 10 + c) = val 10 o + 10 ^ o.length * (t + 10 * c) := by
  rw [val_append, List.length_append, List.length_singleton, Nat.pow_succ, Nat.mul_assoc, Nat.add_assoc, ← Nat.mul_add]
  congr 2
  simp; omega

/-! ### Plus -/
theorem plus_loop (a b : List Nat) (ac bc : Option Nat) (ha : dig10 a) (hb : dig10 b) (hla : a.length ≤ 400000) (hlb : b.length ≤ 400000) : ∀ (n c : Nat) (o : List Nat), max a.length b.length + 2 - o.length < n → c ≤ 1 ∧ (o.length ≤ max a.length b.length ∨ c = 0) → dig10 o → o.length ≤ max a.length b.length + 1 →
    ∃ c', F48_48_4 M n a.length ac (nd a) b.length bc (nd b) o.length (c : Int) (o.length : Int) o.length (nd o) = some (.list (dig 10 (val 10 o + 10 ^ o.length * (c + val 10 (a.drop o.length) + val 10 (b.drop o.length)))).length c' (nd (dig 10 (val 10 o + 10 ^ o.length * (c + val 10 (a.drop o.length) + val 10 (b.drop o.length))))))
  | 0, c, o, h, _, _, _ => by omega
  | n + 1, c, o, h, hc, ho, hol => by
    have h1 := getD_lt ha o.length
    have h2 := getD_lt hb o.length
    -- one digit more
    have step : (o.length < a.length ∨ o.length < b.length ∨ 0 < c) → ∃ c', F48_48_j6 M n a.length ac (nd a) b.length bc (nd b) o.length (c : Int) (o.length : Int) o.length (nd o) = some (.list (dig 10 (val 10 o + 10 ^ o.length * (c + val 10 (a.drop o.length) + val 10 (b.drop o.length)))).length c' (nd (dig 10 (val 10 o + 10 ^ o.length * (c + val 10 (a.drop o.length) + val 10 (b.drop o.length)))))) := fun hs => by
      have hol2 : o.length ≤ max a.length b.length := by omega
      have hlast : o.length = max a.length b.length → a.getD o.length 0 = 0 ∧ b.getD o.length 0 = 0 := fun he => by
        simp only [List.getD, List.getElem?_eq_none (show a.length ≤ o.length by omega), List.getElem?_eq_none (show b.length ≤ o.length by omega)]
        exact ⟨rfl, rfl⟩
      have w1 : IntKind.wrap .i64 (((a.getD o.length 0 : Nat) : Int) + ((b.getD o.length 0 : Nat) : Int)) = ((a.getD o.length 0 + b.getD o.length 0 : Nat) : Int) := wrap_of (by simp) (by omega)
      have w2 : IntKind.wrap .i64 ((c : Int) + ((a.getD o.length 0 + b.getD o.length 0 : Nat) : Int)) = ((c + (a.getD o.length 0 + b.getD o.length 0) : Nat) : Int) := wrap_of (by simp) (by omega)
      have w3 : IntKind.wrap .i64 (Int.tdiv ((c + (a.getD o.length 0 + b.getD o.length 0) : Nat) : Int) 10) = (((c + (a.getD o.length 0 + b.getD o.length 0)) / 10 : Nat) : Int) := wrap_of (by rw [Int.tdiv_eq_ediv_of_nonneg (by omega)]; omega) (by omega)
      have w4 : Int.tmod ((c + (a.getD o.length 0 + b.getD o.length 0) : Nat) : Int) 10 = (((c + (a.getD o.length 0 + b.getD o.length 0)) % 10 : Nat) : Int) := by rw [Int.tmod_eq_emod_of_nonneg (by omega)]; omega
      have w5 : IntKind.wrap .i64 ((o.length : Int) + 1) = (((o ++ [(c + (a.getD o.length 0 + b.getD o.length 0)) % 10]).length : Nat) : Int) := wrap_of (by simp) (by simp; omega)
      obtain ⟨c', ih⟩ := plus_loop a b ac bc ha hb hla hlb n ((c + (a.getD o.length 0 + b.getD o.length 0)) / 10) (o ++ [(c + (a.getD o.length 0 + b.getD o.length 0)) % 10]) (by simp only [List.length_append, List.length_singleton]; omega) (by simp only [List.length_append, List.length_singleton]; omega) (dig10_concat ho (by omega)) (by simp only [List.length_append, List.length_singleton]; omega)
      refine ⟨c', ?_⟩
      have hv : val 10 (o ++ [(c + (a.getD o.length 0 + b.getD o.length 0)) % 10]) + 10 ^ (o ++ [(c + (a.getD o.length 0 + b.getD o.length 0)) % 10]).length * ((c + (a.getD o.length 0 + b.getD o.length 0)) / 10 + val 10 (a.drop (o ++ [(c + (a.getD o.length 0 + b.getD o.length 0)) % 10]).length) + val 10 (b.drop (o ++ [(c + (a.getD o.length 0 + b.getD o.length 0)) % 10]).length)) = val 10 o + 10 ^ o.length * (c + val 10 (a.drop o.length) + val 10 (b.drop o.length)) := by
        rw [Nat.add_assoc ((c + (a.getD o.length 0 + b.getD o.length 0)) / 10), push_val, val_drop_getD a o.length, val_drop_getD b o.length]
        congr 2
        simp only [List.length_append, List.length_singleton]
        omega
      rw [hv] at ih
      rw [← ih, F48_48_j6_e, sp87_eq a _ rfl, sp87_eq b _ rfl]
      simp only [Option.bind_some, rdI64]
      rw [if_pos ⟨Nat.le_refl _, by omega, fits_len (by omega) (by omega), trivial⟩, w1, w2, w3, w4, w5]
      simp [nd_append, nd]
    rw [F48_48_4_s]
    by_cases g1 : o.length < a.length
    · rw [decide_eq_true (by omega), cond_true]; exact step (.inl g1)
    · rw [decide_eq_false (by omega), cond_false]
      by_cases g2 : o.length < b.length
      · rw [decide_eq_true (by omega), cond_true]; exact step (.inr (.inl g2))
      · rw [decide_eq_false (by omega), cond_false]
        by_cases g3 : 0 < c
        · rw [decide_eq_true (by omega), cond_true]; exact step (.inr (.inr g3))
        · have hc0 : c = 0 := by omega
          subst hc0
          refine ⟨none, ?_⟩
          have := sp88_eq o none o.length rfl (by omega)
          rw [decide_eq_false (by omega), cond_false, F48_48_j9_e]
          simp only [Nat.mul_one, cutL_all (nd_length o), this, Nat.zero_add, Nat.le_refl, if_true, Option.bind_some, rdL, trim10 ho]
          rw [List.drop_eq_nil_of_le (by omega), List.drop_eq_nil_of_le (by omega)]
          simp
theorem sp48_eq (a b : List Nat) (n k : Nat) (hn : n = a.length) (hk : k = b.length) (ac bc : Option Nat) (ha : dig10 a) (hb : dig10 b) (hla : a.length ≤ 400000) (hlb : b.length ≤ 400000) : ∃ c, sp48 [.list n ac (nd a), .list k bc (nd b)] = some (.list (dig 10 (val 10 a + val 10 b)).length c (nd (dig 10 (val 10 a + val 10 b)))) := by
  subst hn hk
  obtain ⟨c, h⟩ := plus_loop a b ac bc ha hb hla hlb M 0 [] (by unfold M; simp only [List.length_nil]; omega) ⟨by omega, .inr rfl⟩ (by intro x hx; cases hx) (by simp)
  refine ⟨c, ?_⟩
  simpa [sp48, F48] using h

/-! ### Minus -/
theorem minus_loop (a b : List Nat) (ac bc : Option Nat) (ha : dig10 a) (hb : dig10 b) (hla : a.length ≤ 400000) : ∀ (n c : Nat) (o : List Nat), a.length - o.length < n → c ≤ 1 → dig10 o → o.length ≤ a.length → c + val 10 (b.drop o.length) ≤ val 10 (a.drop o.length) →
    ∃ c', F53_53_4 M n a.length ac (nd a) b.length bc (nd b) o.length (c : Int) (o.length : Int) o.length (nd o) = some (.list (dig 10 (val 10 o + 10 ^ o.length * (val 10 (a.drop o.length) - (c + val 10 (b.drop o.length))))).length c' (nd (dig 10 (val 10 o + 10 ^ o.length * (val 10 (a.drop o.length) - (c + val 10 (b.drop o.length)))))))
  | 0, c, o, h, _, _, _, _ => by omega
  | n + 1, c, o, h, hc, ho, hol, hle => by
    rw [F53_53_4_s]
    by_cases hlt : o.length < a.length
    · have h1 : a[o.length] < 10 := ha _ (List.getElem_mem hlt)
      have h2 := getD_lt hb o.length
      have e0 : (0 : Int) ≤ (o.length : Int) ∧ (o.length : Int) < (a.length : Int) := by omega
      have w1 : IntKind.wrap .i64 ((a[o.length] : Int) - ((b.getD o.length 0 : Nat) : Int)) = (a[o.length] : Int) - ((b.getD o.length 0 : Nat) : Int) := wrap_i64 (by omega) (by omega)
      have w2 : IntKind.wrap .i64 ((a[o.length] : Int) - ((b.getD o.length 0 : Nat) : Int) - (c : Int)) = (a[o.length] : Int) - ((b.getD o.length 0 : Nat) : Int) - (c : Int) := wrap_i64 (by omega) (by omega)
      rw [val_drop a hlt, val_drop_getD b o.length] at hle ⊢
      have step : ∀ (v c2 : Nat), v < 10 → c2 ≤ 1 → v + b.getD o.length 0 + c = a[o.length] + 10 * c2 → ∃ c', F53_53_j11 M n a.length ac (nd a) b.length bc (nd b) o.length (c2 : Int) (o.length : Int) (v : Int) o.length (nd o) = some (.list (dig 10 (val 10 o + 10 ^ o.length * (a[o.length] + 10 * val 10 (a.drop (o.length + 1)) - (c + (b.getD o.length 0 + 10 * val 10 (b.drop (o.length + 1))))))).length c' (nd (dig 10 (val 10 o + 10 ^ o.length * (a[o.length] + 10 * val 10 (a.drop (o.length + 1)) - (c + (b.getD o.length 0 + 10 * val 10 (b.drop (o.length + 1))))))))) := fun v c2 hv hc2 he => by
        have w5 : IntKind.wrap .i64 ((o.length : Int) + 1) = (((o ++ [v]).length : Nat) : Int) := wrap_of (by simp) (by simp; omega)
        obtain ⟨c', ih⟩ := minus_loop a b ac bc ha hb hla n c2 (o ++ [v]) (by simp; omega) hc2 (dig10_concat ho hv) (by simp; omega) (by simp only [List.length_append, List.length_singleton]; omega)
        refine ⟨c', ?_⟩
        have hval : val 10 (o ++ [v]) + 10 ^ (o ++ [v]).length * (val 10 (a.drop (o ++ [v]).length) - (c2 + val 10 (b.drop (o ++ [v]).length))) = val 10 o + 10 ^ o.length * (a[o.length] + 10 * val 10 (a.drop (o.length + 1)) - (c + (b.getD o.length 0 + 10 * val 10 (b.drop (o.length + 1))))) := by
          rw [val_append, List.length_append, List.length_singleton, Nat.pow_succ, Nat.mul_assoc, Nat.add_assoc, ← Nat.mul_add]
          congr 2
          simp only [val_cons, val_nil, Nat.mul_zero, Nat.add_zero]
          omega
        rw [hval] at ih
        rw [← ih, F53_53_j11_e, if_pos ⟨Nat.le_refl _, by omega, fits_len (by omega) (by omega), rfl⟩, w5]
        simp [nd_append, nd]
      rw [decide_eq_true e0.2, cond_true, if_pos e0, show Int.toNat (o.length : Int) * 1 = o.length by omega, rdI_nd_lt hlt, Option.bind_some, sp87_eq b _ rfl]
      simp only [Option.bind_some, rdI64]
      rw [w1, w2]
      by_cases hneg : (a[o.length] : Int) - ((b.getD o.length 0 : Nat) : Int) - (c : Int) < 0
      · have w7 : IntKind.wrap .i64 ((a[o.length] : Int) - ((b.getD o.length 0 : Nat) : Int) - (c : Int) + 10) = ((a[o.length] + 10 - b.getD o.length 0 - c : Nat) : Int) := wrap_of (by omega) (by omega)
        rw [decide_eq_true hneg, cond_true, w7]
        exact step _ 1 (by omega) (by omega) (by omega)
      · rw [decide_eq_false hneg, cond_false, show (a[o.length] : Int) - ((b.getD o.length 0 : Nat) : Int) - (c : Int) = ((a[o.length] - b.getD o.length 0 - c : Nat) : Int) by omega]
        exact step _ 0 (by omega) (by omega) (by omega)
    · refine ⟨none, ?_⟩
      have := sp88_eq o none o.length rfl (by omega)
      rw [decide_eq_false (by omega), cond_false]
      rw [List.drop_eq_nil_of_le (by omega : a.length ≤ o.length)] at hle ⊢
      simp only [val_nil] at hle ⊢
      simp only [Nat.mul_one, cutL_all (nd_length o), this, Nat.zero_add, Nat.le_refl, if_true, Option.bind_some, rdL, trim10 ho]
      simp
theorem sp53_eq (a b : List Nat) (n k : Nat) (hn : n = a.length) (hk : k = b.length) (ac bc : Option Nat) (ha : dig10 a) (hb : dig10 b) (hla : a.length ≤ 400000) (hle : val 10 b ≤ val 10 a) : ∃ c, sp53 [.list n ac (nd a), .list k bc (nd b)] = some (.list (dig 10 (val 10 a - val 10 b)).length c (nd (dig 10 (val 10 a - val 10 b)))) := by
  subst hn hk
  obtain ⟨c, h⟩ := minus_loop a b ac bc ha hb hla M 0 [] (by unfold M; simp; omega) (by omega) (by intro x hx; cases hx) (by simp) (by simpa using hle)
  refine ⟨c, ?_⟩
  simpa [sp53, F53] using h

/-! ### Compare -/
theorem dig_lt_of_len {x y : Nat} (h : (dig 10 x).length < (dig 10 y).length) : x < y := by
  have h1 := (dig_length_le (b := 10) (by omega) x (dig 10 x).length).1 (Nat.le_refl _)
  rcases Nat.lt_or_ge x y with h2 | h2
  · exact h2
  · have := (dig_length_le (b := 10) (by omega) y (dig 10 x).length).2 (by omega)
    omega
theorem refcmp_loop (a b : List Nat) (ac bc : Option Nat) (ha : dig10 a) (hb : dig10 b) (hl : a.length = b.length) (hla : a.length ≤ 400000) : ∀ (n k : Nat), k < n → k ≤ a.length →
    F51_51_6 M n a.length ac (nd a) b.length bc (nd b) ((k : Int) - 1) = some (.v (.int .i64 (cmpN (val 10 (a.take k)) (val 10 (b.take k)))))
  | 0, k, h, _ => by omega
  | n + 1, 0, h, _ => by
    rw [F51_51_6_s, decide_eq_false (by omega), cond_false]; rfl
  | n + 1, k + 1, h, hk => by
    have hia : k < a.length := by omega
    have hib : k < b.length := by omega
    have e0 : ((k + 1 : Nat) : Int) - 1 = (k : Int) := by omega
    have w : IntKind.wrap .i64 ((k : Int) - 1) = (k : Int) - 1 := wrap_i64 (by omega) (by omega)
    have b1 := val_lt (b := 10) (by omega) (a.take k) (fun x hx => ha x (List.mem_of_mem_take hx))
    have b2 := val_lt (b := 10) (by omega) (b.take k) (fun x hx => hb x (List.mem_of_mem_take hx))
    rw [List.length_take, Nat.min_eq_left (by omega)] at b1 b2
    rw [F51_51_6_s, e0, decide_eq_true (by omega), cond_true, if_pos (by omega), show Int.toNat (k : Int) * 1 = k by omega, rdI_nd_lt hia, Option.bind_some, if_pos (by omega), rdI_nd_lt hib, Option.bind_some, val_take_succ a hia, val_take_succ b hib]
    by_cases he : a[k] = b[k]
    · rw [show ((a[k] : Int) != (b[k] : Int)) = false by simp [he], cond_false, w, refcmp_loop a b ac bc ha hb hl hla n k (by omega) (by omega), he]
      unfold cmpN
      by_cases g1 : val 10 (a.take k) < val 10 (b.take k)
      · rw [if_pos g1, if_pos (by omega)]
      · by_cases g2 : val 10 (b.take k) < val 10 (a.take k)
        · rw [if_neg g1, if_pos g2, if_neg (by omega), if_pos (by omega)]
        · rw [if_neg g1, if_neg g2, if_neg (by omega), if_neg (by omega)]
    · rw [show ((a[k] : Int) != (b[k] : Int)) = true by simp; omega, cond_true, if_pos (by omega), Option.bind_some, if_pos (by omega), Option.bind_some]
      generalize 10 ^ k = A at b1 b2 ⊢
      rcases Nat.lt_or_gt_of_ne he with h1 | h1
      · have h2 : A * (a[k] + 1) ≤ A * b[k] := Nat.mul_le_mul_left _ h1
        rw [Nat.mul_add, Nat.mul_one] at h2
        rw [decide_eq_true (by omega), cond_true]; unfold cmpN; rw [if_pos (by omega)]
      · have h2 : A * (b[k] + 1) ≤ A * a[k] := Nat.mul_le_mul_left _ h1
        rw [Nat.mul_add, Nat.mul_one] at h2
        rw [decide_eq_false (by omega), cond_false]; unfold cmpN; rw [if_neg (by omega), if_pos (by omega)]
theorem sp51_eq (x y : Nat) (n k : Nat) (hn : n = (dig 10 x).length) (hk : k = (dig 10 y).length) (ac bc : Option Nat) (hla : (dig 10 x).length ≤ 400000) (hlb : (dig 10 y).length ≤ 400000) : sp51 [.list n ac (nd (dig 10 x)), .list k bc (nd (dig 10 y))] = some (.v (.int .i64 (cmpN x y))) := by
  subst hn hk
  simp only [sp51, F51]
  by_cases h : (dig 10 x).length = (dig 10 y).length
  · have w : IntKind.wrap .i64 (((dig 10 x).length : Int) - 1) = ((dig 10 x).length : Int) - 1 := wrap_i64 (by omega) (by omega)
    have := refcmp_loop (dig 10 x) (dig 10 y) ac bc (dig10_dig x) (dig10_dig y) h hla M (dig 10 x).length (by unfold M; omega) (Nat.le_refl _)
    rw [List.take_length, List.take_of_length_le (by omega), val_dig (by omega), val_dig (by omega)] at this
    rw [show (((dig 10 x).length : Int) != ((dig 10 y).length : Int)) = false by simp [h], cond_false, w, this]
  · rw [show (((dig 10 x).length : Int) != ((dig 10 y).length : Int)) = true by simp; omega, cond_true]
    by_cases h1 : (dig 10 x).length < (dig 10 y).length
    · have := dig_lt_of_len h1
      rw [decide_eq_true (by omega), cond_true]; unfold cmpN; rw [if_pos this]
    · have := dig_lt_of_len (show (dig 10 y).length < (dig 10 x).length by omega)
      rw [decide_eq_false (by omega), cond_false]; unfold cmpN; rw [if_neg (by omega), if_pos this]

/-! ### fits, same -/
theorem dig_len_lim2 {v : Nat} (h : v < 256 ^ 200) : (dig 10 v).length ≤ 600 ∧ (byt v).length ≤ 200 := ⟨by have := dig10_len h; omega, (byt_length_le v 200).2 h⟩
def fitE (v : Nat) : Int := if v < lim then 0 else 3
theorem sp49_eq (v : Nat) (n : Nat) (hn : n = (dig 10 v).length) (c : Option Nat) (hv : v < 256 ^ 200) : sp49 [.list n c (nd (dig 10 v))] = some (.v (.int .i64 (fitE v))) := by
  subst hn
  obtain ⟨h1, h2⟩ := dig_len_lim2 hv
  obtain ⟨c', h76⟩ := sp76_eq v c _ rfl (by omega) (by omega)
  simp only [sp49, F49]
  rw [h76]
  simp only [Option.bind_some, rdL]
  have := byt_len_lim (v := v)
  by_cases h : v < lim
  · rw [decide_eq_false (by have := this.1 h; omega), cond_false, fitE, if_pos h]
  · have h3 : ¬ (byt v).length ≤ 64 := fun h4 => h (this.2 h4)
    rw [decide_eq_true (by omega), cond_true, fitE, if_neg h]
theorem sp47_ok (v : Nat) (hv : v < lim) (n k : Nat) (hn : n = (byt v).length) (hk : k = (dig 10 v).length) (c : Option Nat) : sp47 [.list n (some n) (nb (byt v)), .v (.int .i64 0), .list k c (nd (dig 10 v)), .v (.int .i64 0)] = some (.v (.bool true)) := by
  subst hn hk
  have h2 := byt_len_lim.1 hv
  have h1 := dig10_len (n := v) (k := 64) hv
  obtain ⟨c', h76⟩ := sp76_eq v c _ rfl (by omega) (by omega)
  simp only [sp47, F47]
  rw [show ((0 : Int) != 0) = false from rfl, cond_false, F47_47_j3_e, if_pos (nb_length _), bytesOf_nb, Option.bind_some, h76]
  simp only [Option.bind_some, rdL]
  rw [if_pos (nb_length _), bytesOf_nb, Option.bind_some, str_eq (byt_isBy v) (byt_isBy v)]
  simp
theorem sp47_err (e : Int) (he : e ≠ 0) (k : Nat) (c : Option Nat) (l : List D) : sp47 [.list 0 (some 0) [], .v (.int .i64 e), .list k c l, .v (.int .i64 e)] = some (.v (.bool true)) := by
  simp only [sp47, F47]
  rw [show (e != e) = false by simp, cond_false, show (e != 0) = true by simp [he], cond_true, show (e == e) = true by simp, cond_true]
  rfl
/-- The result of 'number' against its value. -/
theorem sp47_numR (v : Nat) (k : Nat) (hk : k = (dig 10 v).length) (c : Option Nat) {R : Type} (K : D → Option D) (hK : K (.v (.bool true)) = some (.v (.bool true))) :
    ((rdT (numR v)).bind fun r => if List.length r = 2 then (rdL r[0]?).bind fun q => (rdI .i64 r[1]?).bind fun x => (sp47 [.list q.n q.cap q.cs, .v (.int .i64 x), .list k c (nd (dig 10 v)), .v (.int .i64 (fitE v))]).bind K else none) = some (.v (.bool true)) := by
  by_cases h : v < lim
  · rw [numR_ok h]
    simp only [Option.bind_some, rdT, List.length_cons, List.length_nil, List.getElem?_cons_zero, List.getElem?_cons_succ, rdI64, rdL, if_true]
    rw [fitE, if_pos h, sp47_ok v h _ _ rfl hk, Option.bind_some, hK]
  · rw [numR_err h]
    simp only [Option.bind_some, rdT, List.length_cons, List.length_nil, List.getElem?_cons_zero, List.getElem?_cons_succ, rdI64, rdL, if_true]
    rw [fitE, if_neg h, sp47_err 3 (by omega), Option.bind_some, hK]
end Go.Ev
