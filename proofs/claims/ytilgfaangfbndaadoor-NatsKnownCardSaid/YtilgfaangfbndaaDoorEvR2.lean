/-
  The reference's Times in terms of numbers; the law NatsProduct in plain form: true of any two numbers.
-/
import Derived.Test.YtilgfaangfbndaaDoorEvW4
set_option linter.unusedSimpArgs false
set_option linter.unusedVariables false
set_option maxRecDepth 100000
namespace Go.Ev
open Go
theorem dig10_set {l : List Nat} (h : dig10 l) {i x : Nat} (hx : x < 10) : dig10 (l.set i x) := fun y hy => by
  rcases List.mem_or_eq_of_mem_set hy with hy | rfl
  · exact h y hy
  · exact hx

theorem times_inner (a b : List Nat) (ac bc : Option Nat) (ha : dig10 a) (hb : dig10 b) (hL : a.length + b.length ≤ 400000) (n0 i : Nat) (hi : i < a.length) : ∀ (n k c : Nat) (o : List Nat), a.length + b.length + 1 - (i + k) < n → c ≤ 9 → dig10 o → o.length = a.length + b.length → i + k ≤ a.length + b.length →
    val 10 o + 10 ^ (i + k) * (c + a.getD i 0 * val 10 (b.drop k)) < 10 ^ (a.length + b.length) →
    ∃ o', dig10 o' ∧ o'.length = a.length + b.length ∧ val 10 o' = val 10 o + 10 ^ (i + k) * (c + a.getD i 0 * val 10 (b.drop k)) ∧
    F54_54_7 M n0 n a.length ac (nd a) b.length bc (nd b) (a.length + b.length) (a.length + b.length) (i : Int) (c : Int) (k : Int) (a.length + b.length) (nd o) = F54_54_3 M n0 a.length ac (nd a) b.length bc (nd b) (a.length + b.length) (a.length + b.length) ((i + 1 : Nat) : Int) (a.length + b.length) (nd o')
  | 0, k, c, o, h, _, _, _, _, _ => by omega
  | n + 1, k, c, o, h, hc, ho, hol, hik, hlim => by
    have hx : a[i] < 10 := ha _ (List.getElem_mem hi)
    have hax : a.getD i 0 = a[i] := by simp [List.getD, List.getElem?_eq_getElem hi]
    have hbk := getD_lt hb k
    -- one digit
    have step : i + k < a.length + b.length → ∃ o', dig10 o' ∧ o'.length = a.length + b.length ∧ val 10 o' = val 10 o + 10 ^ (i + k) * (c + a.getD i 0 * val 10 (b.drop k)) ∧
        F54_54_j9 M n0 n a.length ac (nd a) b.length bc (nd b) (a.length + b.length) (a.length + b.length) (i : Int) (c : Int) (k : Int) (a.length + b.length) (nd o) = F54_54_3 M n0 a.length ac (nd a) b.length bc (nd b) (a.length + b.length) (a.length + b.length) ((i + 1 : Nat) : Int) (a.length + b.length) (nd o') := fun hp => by
      have hpo : i + k < o.length := by omega
      have hod : o[i + k] < 10 := ho _ (List.getElem_mem hpo)
      have hxb : a[i] * b.getD k 0 ≤ 9 * 9 := Nat.mul_le_mul (by omega) (by omega)
      have hset := val_set (b := 10) o (i + k) ((c + (o[i + k] + a[i] * b.getD k 0)) % 10) hpo
      have hval : val 10 (o.set (i + k) ((c + (o[i + k] + a[i] * b.getD k 0)) % 10)) + 10 ^ (i + (k + 1)) * ((c + (o[i + k] + a[i] * b.getD k 0)) / 10 + a.getD i 0 * val 10 (b.drop (k + 1))) = val 10 o + 10 ^ (i + k) * (c + a.getD i 0 * val 10 (b.drop k)) := by
        rw [val_drop_getD b k, hax, show i + (k + 1) = i + k + 1 from rfl, Nat.pow_succ, Nat.mul_assoc]
        simp only [Nat.mul_add]
        have e1 : 10 ^ (i + k) * c + (10 ^ (i + k) * o[i + k] + 10 ^ (i + k) * (a[i] * b.getD k 0)) = 10 ^ (i + k) * ((c + (o[i + k] + a[i] * b.getD k 0)) % 10) + 10 ^ (i + k) * (10 * ((c + (o[i + k] + a[i] * b.getD k 0)) / 10)) := by
          rw [← Nat.mul_add, ← Nat.mul_add, ← Nat.mul_add, Nat.mod_add_div]
        have e2 : 10 ^ (i + k) * (10 * (a[i] * val 10 (b.drop (k + 1)))) = 10 ^ (i + k) * (a[i] * (10 * val 10 (b.drop (k + 1)))) := by rw [Nat.mul_left_comm 10]
        omega
      obtain ⟨o', g1, g2, g3, g4⟩ := times_inner a b ac bc ha hb hL n0 i hi n (k + 1) ((c + (o[i + k] + a[i] * b.getD k 0)) / 10) (o.set (i + k) ((c + (o[i + k] + a[i] * b.getD k 0)) % 10)) (by omega) (by omega) (dig10_set ho (by omega)) (by simp [hol]) (by omega) (by rw [hval]; exact hlim)
      refine ⟨o', g1, g2, by rw [g3, hval], ?_⟩
      have w1 : IntKind.wrap .i64 ((i : Int) + (k : Int)) = ((i + k : Nat) : Int) := wrap_of (by simp) (by omega)
      have w2 : IntKind.wrap .i64 ((a[i] : Int) * ((b.getD k 0 : Nat) : Int)) = ((a[i] * b.getD k 0 : Nat) : Int) := wrap_of (by simp) (by omega)
      have w3 : IntKind.wrap .i64 ((o[i + k] : Int) + ((a[i] * b.getD k 0 : Nat) : Int)) = ((o[i + k] + a[i] * b.getD k 0 : Nat) : Int) := wrap_of (by simp) (by omega)
      have w4 : IntKind.wrap .i64 ((c : Int) + ((o[i + k] + a[i] * b.getD k 0 : Nat) : Int)) = ((c + (o[i + k] + a[i] * b.getD k 0) : Nat) : Int) := wrap_of (by simp) (by omega)
      have w5 : IntKind.wrap .i64 (Int.tdiv ((c + (o[i + k] + a[i] * b.getD k 0) : Nat) : Int) 10) = (((c + (o[i + k] + a[i] * b.getD k 0)) / 10 : Nat) : Int) := wrap_of (by rw [Int.tdiv_eq_ediv_of_nonneg (by omega)]; omega) (by omega)
      have w6 : Int.tmod ((c + (o[i + k] + a[i] * b.getD k 0) : Nat) : Int) 10 = (((c + (o[i + k] + a[i] * b.getD k 0)) % 10 : Nat) : Int) := by rw [Int.tmod_eq_emod_of_nonneg (by omega)]; omega
      have w7 : IntKind.wrap .i64 ((k : Int) + 1) = ((k + 1 : Nat) : Int) := wrap_of (by simp) (by omega)
      have hix : 0 + (Int.toNat ((i + k : Nat) : Int)) * 1 = i + k := by omega
      rw [← g4, F54_54_j9_e, w1, hix, if_pos (by omega), rdI_nd_lt hpo, Option.bind_some, if_pos (by omega), show Int.toNat (i : Int) * 1 = i by omega, rdI_nd_lt hi, Option.bind_some, sp87_eq b _ rfl]
      simp only [Option.bind_some, rdI64]
      rw [if_pos (by omega), if_pos ⟨trivial, by omega⟩, w2, w3, w4, w5, w6, w7, nd_set]
    rw [F54_54_7_s]
    by_cases g1 : k < b.length
    · rw [decide_eq_true (by omega), cond_true]; exact step (by omega)
    · rw [decide_eq_false (by omega), cond_false]
      by_cases g3 : 0 < c
      · rw [decide_eq_true (by omega), cond_true]
        refine step ?_
        rcases Nat.lt_or_ge (i + k) (a.length + b.length) with h1 | h1
        · exact h1
        · exfalso
          have h2 : 10 ^ (a.length + b.length) ≤ 10 ^ (i + k) := Nat.pow_le_pow_right (by omega) h1
          have h3 : 10 ^ (i + k) * 1 ≤ 10 ^ (i + k) * (c + a.getD i 0 * val 10 (b.drop k)) := Nat.mul_le_mul_left _ (by omega)
          omega
      · have hc0 : c = 0 := by omega
        subst hc0
        have w7 : IntKind.wrap .i64 ((i : Int) + 1) = ((i + 1 : Nat) : Int) := wrap_of (by simp) (by omega)
        refine ⟨o, ho, hol, ?_, ?_⟩
        · rw [List.drop_eq_nil_of_le (by omega)]; simp
        · rw [decide_eq_false (by omega), cond_false, F54_54_j4_e, w7]

theorem times_outer (a b : List Nat) (ac bc : Option Nat) (ha : dig10 a) (hb : dig10 b) (hL : a.length + b.length ≤ 400000) : ∀ (n i : Nat) (o : List Nat), a.length - i < n → i ≤ a.length → dig10 o → o.length = a.length + b.length → val 10 o + 10 ^ i * (val 10 (a.drop i) * val 10 b) < 10 ^ (a.length + b.length) →
    ∃ c, F54_54_3 M n a.length ac (nd a) b.length bc (nd b) (a.length + b.length) (a.length + b.length) (i : Int) (a.length + b.length) (nd o) = some (.list (dig 10 (val 10 o + 10 ^ i * (val 10 (a.drop i) * val 10 b))).length c (nd (dig 10 (val 10 o + 10 ^ i * (val 10 (a.drop i) * val 10 b)))))
  | 0, i, o, h, _, _, _, _ => by omega
  | n + 1, i, o, h, hi, ho, hol, hlim => by
    rw [F54_54_3_s]
    by_cases hlt : i < a.length
    · have hax : a.getD i 0 = a[i] := by simp [List.getD, List.getElem?_eq_getElem hlt]
      have hv : 10 ^ i * (val 10 (a.drop i) * val 10 b) = 10 ^ i * (a.getD i 0 * val 10 b) + 10 ^ (i + 1) * (val 10 (a.drop (i + 1)) * val 10 b) := by
        rw [val_drop a hlt, hax, Nat.add_mul, Nat.mul_add, Nat.pow_succ, Nat.mul_assoc, Nat.mul_assoc]
      rw [hv] at hlim ⊢
      obtain ⟨o', h1, h2, h3, h4⟩ := times_inner a b ac bc ha hb hL n i hlt M 0 0 o (by unfold M; omega) (by omega) ho hol (by omega) (by rw [List.drop_zero, Nat.add_zero, Nat.zero_add]; omega)
      rw [List.drop_zero, Nat.add_zero, Nat.zero_add] at h3
      rw [decide_eq_true (by omega), cond_true]
      rw [← Nat.add_assoc, ← h3] at hlim ⊢
      obtain ⟨c, ih⟩ := times_outer a b ac bc ha hb hL n (i + 1) o' (by omega) (by omega) h1 h2 hlim
      exact ⟨c, Eq.trans h4 ih⟩
    · refine ⟨some (a.length + b.length), ?_⟩
      have := sp88_eq o (some (a.length + b.length)) (a.length + b.length) hol.symm (by omega)
      rw [decide_eq_false (by omega), cond_false, List.drop_eq_nil_of_le (by omega)]
      have hcut : cutL (a.length + b.length) (nd o) 0 (a.length + b.length) = nd o := cutL_all (by simp [hol])
      simp only [Nat.mul_one, hcut, this, Nat.zero_add, Nat.le_refl, if_true, Option.bind_some, rdL, trim10 ho, val_nil, Nat.zero_mul, Nat.mul_zero, Nat.add_zero]
theorem sp54_eq (a b : List Nat) (n k : Nat) (hn : n = a.length) (hk : k = b.length) (ac bc : Option Nat) (ha : dig10 a) (hb : dig10 b) (hL : a.length + b.length ≤ 400000) : ∃ c, sp54 [.list n ac (nd a), .list k bc (nd b)] = some (.list (dig 10 (val 10 a * val 10 b)).length c (nd (dig 10 (val 10 a * val 10 b)))) := by
  subst hn hk
  have va := val_lt (b := 10) (by omega) a ha
  have vb := val_lt (b := 10) (by omega) b hb
  have hz : val 10 (List.replicate (a.length + b.length) 0) = 0 := val_zeros _ _
  obtain ⟨c, h⟩ := times_outer a b ac bc ha hb hL M 0 (List.replicate (a.length + b.length) 0) (by unfold M; omega) (by omega) (fun x hx => by have := (List.mem_replicate.1 hx).2; omega) (by simp) (by rw [hz, List.drop_zero, Nat.pow_zero, Nat.one_mul, Nat.zero_add, Nat.pow_add]; exact Nat.mul_lt_mul'' va vb)
  rw [hz, List.drop_zero, Nat.pow_zero, Nat.one_mul, Nat.zero_add] at h
  refine ⟨c, ?_⟩
  have w : IntKind.wrap .i64 ((a.length : Int) + (b.length : Int)) = ((a.length + b.length : Nat) : Int) := wrap_of (by simp) (by omega)
  simp only [sp54, F54, w, Int.toNat_natCast, Nat.mul_one, flat_zeros]
  rw [if_pos ⟨by omega, by omega, fits_len (by omega) (by omega)⟩]
  exact h

/-- NatsProduct. -/
theorem product_true (l k : List Nat) (hl : isBy l) (hk : isBy k) (c c' : Option Nat) : sp9 [.agg [.list l.length c (nb l)], .agg [.list k.length c' (nb k)]] = some (.v (.bool true)) := by
  obtain ⟨c1, h1⟩ := sp39_eq l _ rfl c
  obtain ⟨c2, h2⟩ := sp39_eq k _ rfl c'
  have ha := isN_ofN hl
  have hb := isN_ofN hk
  revert h1 h2 ha hb
  generalize ofN l = a
  generalize ofN k = b
  intro h1 h2 ha hb
  have la := ha.lt
  have lb := hb.lt
  have hal := ha.len
  have hbl := hb.len
  have da := dig10_len (n := valBE a) (k := 64) la
  have db := dig10_len (n := valBE b) (k := 64) lb
  have hprod : valBE a * valBE b < 256 ^ 200 := lim_lt2000 (Nat.mul_lt_mul'' la lb)
  obtain ⟨c3, h3⟩ := sp45_eq a c1 _ rfl ha.by_ (by omega)
  obtain ⟨c4, h4⟩ := sp45_eq b c2 _ rfl hb.by_ (by omega)
  obtain ⟨c5, h5⟩ := sp54_eq (dig 10 (valBE a)) (dig 10 (valBE b)) _ _ rfl rfl c3 c4 (dig10_dig _) (dig10_dig _) (by omega)
  rw [val_dig (by omega), val_dig (by omega)] at h5
  have h6 := sp55_eq a b _ _ rfl rfl c1 c2 ha hb
  obtain ⟨n6, cs6, e6, r6, _, _, s6⟩ := numR_cases (valBE a * valBE b)
  rw [r6] at h6
  have h7 := sp49_eq (valBE a * valBE b) _ rfl c5 hprod
  have h8 := s6 _ c5 rfl
  simp only [sp9]
  unfold F9
  refine (stepL h1).trans ?_; try dsimp only
  refine (stepL h2).trans ?_; try dsimp only
  refine (stepL h3).trans ?_; try dsimp only
  refine (stepL h4).trans ?_; try dsimp only
  refine (stepL h5).trans ?_; try dsimp only
  refine (stepT h6).trans ?_; try dsimp only
  refine (stepI h7).trans ?_; try dsimp only
  refine (stepB h8).trans ?_; try dsimp only
  rw [cond_true]
  exact fin_true
end Go.Ev
