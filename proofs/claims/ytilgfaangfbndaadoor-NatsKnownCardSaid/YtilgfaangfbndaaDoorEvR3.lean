/-
  The reference's Text and Parse in terms of numbers; the law NatsText in plain form.
-/
import Derived.Test.YtilgfaangfbndaaDoorEvW6
import Derived.Test.YtilgfaangfbndaaDoorEvG9
import Derived.Test.YtilgfaangfbndaaDoorEvN7
set_option linter.unusedSimpArgs false
set_option linter.unusedVariables false
set_option maxRecDepth 100000
namespace Go.Ev
open Go
theorem strB_append (l m : List Nat) : strB (l ++ m) = strB l ++ strB m := by
  apply ByteArray.ext
  simp [strB]
theorem digit_cut : ∀ x : Nat, x < 10 → ByteArray.extract (ByteArray.mk #[48, 49, 50, 51, 52, 53, 54, 55, 56, 57]) x (x + 1) = strB [48 + x]
  | 0, _ | 1, _ | 2, _ | 3, _ | 4, _ | 5, _ | 6, _ | 7, _ | 8, _ | 9, _ => by kernel_rfl
  | n + 10, h => by omega
theorem str_at {l : List Nat} (hb : isBy l) {i : Nat} (h : i < l.length) : (List.getD (Array.toList (ByteArray.data (strB l))) i 0).toNat = l[i] := by
  have hx := hb _ (List.getElem_mem h)
  simp only [strB, List.getD_eq_getElem?_getD, List.getElem?_map, List.getElem?_eq_getElem h, Option.map_some, Option.getD_some]
  simp only [UInt8.toNat_ofNat']
  exact Nat.mod_eq_of_lt (by omega)

theorem rtext_loop (a : List Nat) (c : Option Nat) (ha : dig10 a) (hl : a.length ≤ 400000) (m : Nat) : ∀ (n k : Nat) (s : List Nat), k < n → k ≤ a.length → s.length + k ≤ 1000000 →
    F64_64_5 m n a.length c (nd a) (strB s) ((k : Int) - 1) = some (.v (.string (strB (s ++ (a.take k).reverse.map (48 + ·)))))
  | 0, k, s, h, _, _ => by omega
  | n + 1, k, s, h, hk, hs => by
    rw [F64_64_5_s]
    cases k with
    | zero =>
      rw [decide_eq_false (by omega), cond_false]
      simp
    | succ k =>
      have hka : k < a.length := by omega
      have hx : a[k] < 10 := ha _ (List.getElem_mem hka)
      rw [show (((k + 1 : Nat) : Int) - 1) = (k : Int) by omega]
      have w1 : IntKind.wrap .i64 ((a[k] : Int) + 1) = ((a[k] + 1 : Nat) : Int) := wrap_of (by omega) (by omega)
      have w2 : IntKind.wrap .i64 ((k : Int) - 1) = (k : Int) - 1 := wrap_i64 (by omega) (by omega)
      have e0 : (0 : Int) ≤ (k : Int) ∧ (k : Int) < ((a.length : Nat) : Int) := by omega
      have e10 : ByteArray.size (ByteArray.mk #[48, 49, 50, 51, 52, 53, 54, 55, 56, 57]) = 10 := rfl
      rw [decide_eq_true (by omega), cond_true, if_pos e0, show Int.toNat (k : Int) * 1 = k by omega, rdI_nd_lt hka, Option.bind_some, if_pos e0, Option.bind_some, w1, w2, e10, if_pos (by omega), if_pos (by omega), Int.toNat_natCast, Int.toNat_natCast, digit_cut _ hx, str_size, str_size, if_pos (by simp; omega), ← strB_append]
      have := rtext_loop a c ha hl m n k (s ++ [48 + a[k]]) (by omega) (by omega) (by simp; omega)
      rw [this]
      congr 4
      rw [take_succ_rev hka]
      simp

theorem sp64_eq (v n : Nat) (hn : n = (dig 10 v).length) (c : Option Nat) (hl : (dig 10 v).length ≤ 400000) : sp64 [.list n c (nd (dig 10 v))] = some (.v (.string (strB (txt v)))) := by
  subst hn
  simp only [sp64]
  unfold F64
  by_cases h0 : v = 0
  · subst h0
    rw [dig_zero, show ((([] : List Nat).length : Int) == 0) = true from rfl, cond_true]
    rfl
  · have hne : dig 10 v ≠ [] := fun h => h0 ((dig_eq_nil (by omega)).1 h)
    have hpos : 0 < (dig 10 v).length := List.length_pos_iff.2 hne
    have w2 : IntKind.wrap .i64 (((dig 10 v).length : Int) - 1) = ((dig 10 v).length : Int) - 1 := wrap_i64 (by omega) (by omega)
    rw [show (((dig 10 v).length : Int) == 0) = false by simp; omega, cond_false, w2]
    have := rtext_loop (dig 10 v) c (dig10_dig v) hl M M (dig 10 v).length [] (by unfold M; omega) (by omega) (by simp; omega)
    rw [show ByteArray.mk #[] = strB [] from rfl, this, List.take_length, List.nil_append, txt, if_neg h0]

/-! ### Parse of the reference -/
/-- What has been read of a text, the last digit first. -/
def rdg (l : List Nat) : List Nat := l.reverse.map (· - 48)
theorem rdg_snoc (l : List Nat) (x : Nat) : rdg (l ++ [x]) = (x - 48) :: rdg l := by simp [rdg]
theorem rdg_dig {l : List Nat} (h : isDig l = true) : dig10 (rdg l) := fun x hx => by
  simp only [rdg, List.mem_map, List.mem_reverse] at hx
  obtain ⟨y, hy, rfl⟩ := hx
  have := List.all_eq_true.1 h y hy
  simp only [Bool.and_eq_true, decide_eq_true_eq] at this
  omega
theorem dec_snoc : ∀ (l : List Nat) (v x : Nat), dec v (l ++ [x]) = dec v l * 10 + (x - 48)
  | [], v, x => rfl
  | d :: r, v, x => dec_snoc r _ x
theorem rdg_val : ∀ (n : Nat) (l : List Nat), l.length = n → val 10 (rdg l) = dec 0 l
  | 0, l, h => by rw [List.length_eq_zero_iff.1 h]; rfl
  | n + 1, l, h => by
    rcases List.eq_nil_or_concat l with rfl | ⟨l', x, rfl⟩
    · rfl
    · rw [List.concat_eq_append] at h ⊢
      rw [rdg_snoc, val_cons, dec_snoc, rdg_val n l' (by simp at h; exact h)]
      omega
theorem rdg_len (l : List Nat) : (rdg l).length = l.length := by simp [rdg]
theorem rdg_canon (l : List Nat) (h : badForm l = false) : dig 10 (dec 0 l) = rdg l ∨ l.length = 1 := by
  cases l with
  | nil => cases h
  | cons a r =>
    simp only [badForm, Bool.or_eq_false_iff, Bool.not_eq_false'] at h
    have hd : isDig (a :: r) = true := h.2
    by_cases hr : r = []
    · right; rw [hr]; rfl
    · left
      have ha : a ≠ 48 := fun h48 => by
        have := h.1
        rw [decide_eq_true h48, decide_eq_true (List.length_pos_iff.2 hr)] at this
        cases this
      have hda := List.all_eq_true.1 hd a (by simp)
      simp only [Bool.and_eq_true, decide_eq_true_eq] at hda
      rw [← rdg_val _ (a :: r) rfl]
      refine dig_val (by omega) _ (rdg_dig hd) (.inr ⟨rdg r, a - 48, ?_, by omega⟩)
      simp [rdg]

/-- What Parse of the reference returns. -/
def refP (l : List Nat) (c : Option Nat) : D := if badForm l then .tup [.list 0 (some 0) [], .v (.int .i64 6)] else if 155 < l.length then .tup [.list 0 (some 0) [], .v (.int .i64 3)] else if dec 0 l < lim then .tup [.list (dig 10 (dec 0 l)).length c (nd (dig 10 (dec 0 l))), .v (.int .i64 0)] else .tup [.list 0 (some 0) [], .v (.int .i64 3)]

theorem rparse_end (l : List Nat) (hbf : badForm l = false) (hl : l.length ≤ 1000) (c : Option Nat) (n i : Nat) (hi : i = l.length) (k : Nat) (hk : k = l.length) : F65_65_5 M (n + 1) (strB l) k c (nd (rdg l)) (i : Int) = some (refP l c) := by
  subst hi hk
  have hd : isDig l = true := by
    cases l with
    | nil => cases hbf
    | cons a r => simp only [badForm, Bool.or_eq_false_iff, Bool.not_eq_false'] at hbf; exact hbf.2
  have h88 := sp88_eq (rdg l) c l.length (rdg_len l).symm (by rw [rdg_len]; omega)
  rw [trim10 (rdg_dig hd), rdg_val _ l rfl] at h88
  have hle : (dig 10 (dec 0 l)).length ≤ l.length := by
    refine (dig_length_le (by omega) _ _).2 ?_
    have := val_lt (b := 10) (by omega) (rdg l) (rdg_dig hd)
    rw [rdg_len, rdg_val _ l rfl] at this
    exact this
  have hcan := rdg_canon l hbf
  revert h88 hle hcan
  generalize hv : dec 0 l = v
  intro h88 hle hcan
  rw [F65_65_5_s, str_size, decide_eq_false (by omega), cond_false, refP, hbf]
  refine (stepL h88).trans ?_; try dsimp only
  by_cases h155 : 155 < l.length
  · have : (dig 10 v).length = l.length := by
      rcases hcan with h | h
      · rw [h, rdg_len]
      · omega
    rw [this, decide_eq_true (by omega), cond_true, if_neg (by decide), if_pos h155]
  · rw [decide_eq_false (by omega), cond_false, if_neg (by decide), if_neg h155, hv]
    have hb : (byt v).length ≤ 1000000 := by
      refine Nat.le_trans ((byt_length_le v l.length).2 ?_) (by omega)
      have h1 := (dig_length_le (b := 10) (by omega) v l.length).1 hle
      refine Nat.lt_of_lt_of_le h1 (Nat.pow_le_pow_left (show 10 ≤ 256 by omega) _)
    obtain ⟨c', h76⟩ := sp76_eq v c _ rfl (by omega) hb
    refine (stepL h76).trans ?_; try dsimp only
    have := byt_len_lim (v := v)
    by_cases h : v < lim
    · rw [decide_eq_false (by have := this.1 h; omega), cond_false, if_pos h, F65_65_j13_e]
    · have h3 : ¬ (byt v).length ≤ 64 := fun h4 => h (this.2 h4)
      rw [decide_eq_true (by omega), cond_true, if_neg h]

theorem rparse_loop (l : List Nat) (hb : isBy l) (hl : l.length ≤ 1000) : ∀ (n i : Nat) (c : Option Nat), l.length - i < n → i ≤ l.length → (isDig (l.drop i) = true → badForm l = false) →
    ∃ c', F65_65_5 M n (strB l) i c (nd (rdg (l.take i))) (i : Int) = some (if isDig (l.drop i) then refP l c' else .tup [.list 0 (some 0) [], .v (.int .i64 6)])
  | 0, i, c, h, _, _ => by omega
  | n + 1, i, c, h, hi, h2 => by
    by_cases hlt : i < l.length
    · have e0 : (0 : Int) ≤ (i : Int) ∧ (i : Int) < (l.length : Int) := by omega
      have hat := str_at hb hlt
      have hby := hb _ (List.getElem_mem hlt)
      rw [F65_65_5_s, str_size, decide_eq_true e0.2, cond_true, if_pos e0, Int.toNat_natCast, hat]
      rw [isDig_drop hlt] at h2 ⊢
      by_cases hd1 : l[i] < 48
      · refine ⟨c, ?_⟩
        rw [decide_eq_true (by omega), cond_true, decide_eq_false (show ¬ 48 ≤ l[i] by omega)]
        rfl
      · by_cases hd2 : 57 < l[i]
        · refine ⟨c, ?_⟩
          rw [decide_eq_false (by omega), cond_false, if_pos e0, decide_eq_true (by omega), cond_true, decide_eq_false (show ¬ l[i] ≤ 57 by omega), Bool.and_false]
          rfl
        · have w1 : IntKind.wrap .u8 ((l[i] : Int) - 48) = ((l[i] - 48 : Nat) : Int) := by
            have h8 : IntKind.wrap .u8 ((l[i] : Int) - 48) = ((l[i] : Int) - 48) % 256 := by rw [wrap_u8]
            rw [h8]; omega
          have w2 : IntKind.wrap .i64 ((l[i] - 48 : Nat) : Int) = ((l[i] - 48 : Nat) : Int) := wrap_of rfl (by omega)
          have w3 : IntKind.wrap .i64 ((i : Int) + 1) = ((i + 1 : Nat) : Int) := wrap_of (by simp) (by omega)
          have hlen : (nd (rdg (l.take i))).length = i * 1 := by rw [nd_length, rdg_len, List.length_take]; omega
          have hnext : D.v (.int .i64 ((l[i] - 48 : Nat) : Int)) :: nd (rdg (l.take i)) = nd (rdg (l.take (i + 1))) := by
            rw [List.take_succ_eq_append_getElem hlt, rdg_snoc, nd_cons]
          have key : ∃ c2, F65_65_j9 M n (strB l) i c (nd (rdg (l.take i))) (i : Int) = F65_65_5 M n (strB l) (i + 1) c2 (nd (rdg (l.take (i + 1)))) ((i + 1 : Nat) : Int) := by
            rw [F65_65_j9_e, str_size, if_pos e0, if_pos hlen, Int.toNat_natCast, hat, w1, w2, w3, Nat.add_comm 1 i]
            by_cases hi0 : i = 0
            · subst hi0
              refine ⟨some 1, ?_⟩
              rw [if_pos (by omega), if_pos ⟨by omega, hlen⟩, if_pos (by omega)]
              have : nd (rdg (l.take 0)) = [] := by simp [rdg]
              rw [this] at hnext ⊢
              rw [← hnext]
              rfl
            · refine ⟨none, ?_⟩
              rw [if_neg (by omega), if_pos ⟨fits_len (by omega) (by omega), hlen⟩, if_pos (by omega)]
              rw [show ([D.v (.int .i64 ((l[i] - 48 : Nat) : Int))] ++ nd (rdg (l.take i))) = nd (rdg (l.take (i + 1))) from hnext]
              rw [cutL_all (by rw [nd_length, rdg_len, List.length_take]; omega)]
          rw [decide_eq_true (show 48 ≤ l[i] by omega), decide_eq_true (show l[i] ≤ 57 by omega), Bool.and_true, Bool.true_and] at h2 ⊢
          obtain ⟨c2, hkey⟩ := key
          obtain ⟨c3, h3⟩ := rparse_loop l hb hl n (i + 1) c2 (by omega) (by omega) h2
          refine ⟨c3, ?_⟩
          rw [decide_eq_false (by omega), cond_false, if_pos e0, decide_eq_false (by omega), cond_false, hkey, h3]
    · have : i = l.length := by omega
      subst this
      refine ⟨c, ?_⟩
      rw [List.drop_length] at h2 ⊢
      rw [if_pos (show isDig [] = true from rfl), List.take_length]
      exact rparse_end l (h2 rfl) hl c n _ rfl _ rfl

theorem sp65_eq (l : List Nat) (hb : isBy l) (hl : l.length ≤ 1000) : ∃ c, sp65 [.v (.string (strB l))] = some (refP l c) := by
  simp only [sp65]
  unfold F65
  have hempty : (ByteArray.toList (strB l) == ByteArray.toList (ByteArray.mk #[])) = decide (l = []) := by
    rw [str_toList, toList_eq]
    cases l with
    | nil => rfl
    | cons a r => simp
  rw [hempty]
  cases l with
  | nil => exact ⟨none, rfl⟩
  | cons a r =>
    have ha := hb a (by simp)
    have j3 : ¬ (a = 48 ∧ 0 < r.length) → ∃ c, F65_65_j3 M (strB (a :: r)) = some (refP (a :: r) c) := fun hno => by
      have hbf : badForm (a :: r) = !isDig (a :: r) := by
        simp only [badForm]
        by_cases h1 : a = 48
        · rw [decide_eq_true h1, decide_eq_false (fun h => hno ⟨h1, h⟩)]; rfl
        · rw [decide_eq_false h1]; rfl
      obtain ⟨c, h1⟩ := rparse_loop (a :: r) hb hl M 0 (some 0) (by unfold M; omega) (by omega) (by rw [List.drop_zero, hbf]; intro h; rw [h]; rfl)
      refine ⟨c, ?_⟩
      rw [F65_65_j3_e]
      refine Eq.trans h1 ?_
      rw [List.drop_zero]
      by_cases hd : isDig (a :: r) = true
      · rw [if_pos hd]
      · have hd' : isDig (a :: r) = false := by simpa using hd
        rw [if_neg hd, refP, hbf, hd']
        rfl
    have hat := str_at hb (i := 0) (by simp)
    have e0 : (0 : Int) ≤ 0 ∧ (0 : Int) < (((a :: r).length : Nat) : Int) := by rw [List.length_cons]; omega
    rw [decide_eq_false (by simp), cond_false, str_size, if_pos e0, hat]
    by_cases h48 : a = 48
    · rw [show ((((a :: r)[0] : Nat) : Int) == 48) = true by simp [h48], cond_true]
      by_cases h1 : 0 < r.length
      · refine ⟨none, ?_⟩
        rw [decide_eq_true (by simp; omega), cond_true, refP]
        have : badForm (a :: r) = true := by simp [badForm, h48, h1]
        rw [if_pos this]
      · rw [decide_eq_false (by simp; omega), cond_false]
        exact j3 (fun h => h1 h.2)
    · rw [show ((((a :: r)[0] : Nat) : Int) == 48) = false by simp; omega, cond_false]
      exact j3 (fun h => h48 h.1)

/-- The outcome of Parse is that of the reference's. -/
theorem parse_same (l : List Nat) (c : Option Nat) : ∃ n cs e n' c' cs' e', parseN l = .tup [.list n (some n) cs, .v (.int .i64 e)] ∧ refP l c = .tup [.list n' c' cs', .v (.int .i64 e')] ∧
    sp47 [.list n (some n) cs, .v (.int .i64 e), .list n' c' cs', .v (.int .i64 e')] = some (.v (.bool true)) := by
  by_cases h1 : badForm l = true
  · exact ⟨0, [], 6, 0, some 0, [], 6, by rw [parseN, if_pos h1], by rw [refP, if_pos h1], sp47_err 6 (by omega) 0 (some 0) []⟩
  · by_cases h2 : 155 < l.length
    · exact ⟨0, [], 3, 0, some 0, [], 3, by rw [parseN, if_neg h1, if_pos h2], by rw [refP, if_neg h1, if_pos h2], sp47_err 3 (by omega) 0 (some 0) []⟩
    · by_cases h3 : dec 0 l < lim
      · exact ⟨_, _, 0, _, c, _, 0, by rw [parseN, if_neg h1, if_neg h2, numR_ok h3], by rw [refP, if_neg h1, if_neg h2, if_pos h3], sp47_ok _ h3 _ _ rfl rfl c⟩
      · exact ⟨0, [], 3, 0, some 0, [], 3, by rw [parseN, if_neg h1, if_neg h2, numR_err h3], by rw [refP, if_neg h1, if_neg h2, if_neg h3], sp47_err 3 (by omega) 0 (some 0) []⟩

/-! ### The text of a number is one that Parse takes -/
theorem dec_txt (v : Nat) : dec 0 (txt v) = v := by
  unfold txt
  by_cases h : v = 0
  · rw [if_pos h, h]; rfl
  · rw [if_neg h, ← rdg_val _ _ rfl]
    have : rdg ((dig 10 v).reverse.map (48 + ·)) = dig 10 v := by
      rw [rdg, List.map_reverse, List.map_map, List.map_reverse, List.reverse_reverse]
      refine (List.map_congr_left fun x _ => ?_).trans (List.map_id _)
      show 48 + x - 48 = x
      omega
    rw [this, val_dig (by omega)]
theorem dig10_48 {l : List Nat} (h : dig10 l) : isDig (l.reverse.map (48 + ·)) = true := by
  refine List.all_eq_true.2 fun x hx => ?_
  simp only [List.mem_map, List.mem_reverse] at hx
  obtain ⟨y, hy, rfl⟩ := hx
  have := h y hy
  simp only [Bool.and_eq_true, decide_eq_true_eq]
  omega
theorem txt_isBy (v : Nat) : isBy (txt v) := fun x hx => by
  unfold txt at hx
  by_cases h : v = 0
  · rw [if_pos h] at hx; simp at hx; omega
  · rw [if_neg h] at hx
    simp only [List.mem_map, List.mem_reverse] at hx
    obtain ⟨y, hy, rfl⟩ := hx
    have := dig10_dig v y hy
    omega
theorem dig_last {v : Nat} (h : v ≠ 0) : ∃ l d, dig 10 v = l ++ [d] ∧ d ≠ 0 := by
  revert h
  refine dig_ind (b := 10) (by omega) (p := fun v => v ≠ 0 → ∃ l d, dig 10 v = l ++ [d] ∧ d ≠ 0) (fun h => absurd rfl h) (fun n hn ih _ => ?_) v
  rw [dig_pos (by omega) hn]
  by_cases h : n / 10 = 0
  · exact ⟨[], n % 10, by rw [h, dig_zero]; rfl, by omega⟩
  · obtain ⟨l, d, h1, h2⟩ := ih h
    exact ⟨n % 10 :: l, d, by rw [h1]; rfl, h2⟩
theorem txt_form (v : Nat) : badForm (txt v) = false := by
  unfold txt
  by_cases h : v = 0
  · rw [if_pos h]; rfl
  · rw [if_neg h]
    obtain ⟨l, d, h1, h2⟩ := dig_last h
    have h3 := dig10_48 (dig10_dig v)
    rw [h1, List.reverse_append, List.reverse_cons, List.reverse_nil, List.nil_append, List.singleton_append, List.map_cons] at h3 ⊢
    simp only [badForm]
    rw [h3, decide_eq_false (by omega)]
    rfl
theorem txt_len {v : Nat} (h : v < lim) : (txt v).length ≤ 155 := by
  unfold txt
  by_cases h0 : v = 0
  · rw [if_pos h0]; simp
  · rw [if_neg h0, List.length_map, List.length_reverse]
    refine (dig_length_le (by omega) v 155).2 (Nat.lt_of_lt_of_le h ?_)
    unfold lim
    decide
theorem parse_txt {v : Nat} (h : v < lim) : parseN (txt v) = .tup [.list (byt v).length (some (byt v).length) (nb (byt v)), .v (.int .i64 0)] := by
  rw [parseN, txt_form, if_neg (by decide), if_neg (by have := txt_len h; omega), dec_txt, numR_ok h]

theorem text_j6 (l : List Nat) (hb : isBy l) : F14_14_j6 sp39 sp45 sp47 sp52 sp62 sp63 sp64 sp65 M (strB l) = some (.v (.bool true)) := by
  rw [F14_14_j6_e, str_size]
  by_cases h : 200 < l.length
  · rw [decide_eq_true (by omega), cond_true]
    exact fin_true
  · obtain ⟨c, h65⟩ := sp65_eq l hb (by omega)
    obtain ⟨n, cs, e, n', c', cs', e', h1, h2, h3⟩ := parse_same l c
    rw [h2] at h65
    have h63 := sp63_eq l hb (by omega)
    rw [h1] at h63
    rw [decide_eq_false (by omega), cond_false]
    refine (stepT h63).trans ?_; try dsimp only
    refine (stepT h65).trans ?_; try dsimp only
    refine (stepB h3).trans ?_; try dsimp only
    rw [cond_true]
    exact fin_true

/-- NatsText. -/
theorem text_true (l : List Nat) (hl : isBy l) (c : Option Nat) (s : List Nat) (hs : isBy s) : sp14 [.agg [.list l.length c (nb l)], .v (.string (strB s))] = some (.v (.bool true)) := by
  obtain ⟨c1, h1⟩ := sp39_eq l _ rfl c
  have ha := isN_ofN hl
  revert h1 ha
  generalize ofN l = a
  intro h1 ha
  have la := ha.lt
  have hal := ha.len
  have da := dig10_len (n := valBE a) (k := 64) la
  obtain ⟨c3, h3⟩ := sp45_eq a c1 _ rfl ha.by_ (by omega)
  have h2 := sp62_eq a _ rfl c1 ha
  have h4 := sp63_eq (txt (valBE a)) (txt_isBy _) (by have := txt_len la; omega)
  rw [parse_txt la, ha.eq] at h4
  have h5 := sp64_eq (valBE a) _ rfl c3 (by omega)
  simp only [sp14]
  unfold F14
  refine (stepL h1).trans ?_; try dsimp only
  refine (stepS h2).trans ?_; try dsimp only
  refine (stepT h4).trans ?_; try dsimp only
  refine (stepL h3).trans ?_; try dsimp only
  refine (stepS h5).trans ?_; try dsimp only
  rw [show (ByteArray.toList (strB (txt (valBE a))) == ByteArray.toList (strB (txt (valBE a)))) = true by simp, Bool.not_true, cond_false, show ((0 : Int) != 0) = false from rfl, cond_false]
  refine (eqs' rfl rfl _ _).trans ?_
  exact text_j6 s hs
end Go.Ev
