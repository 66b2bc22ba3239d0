/-
  The program's digits: of, adder and number, in terms of numbers; Add and Mul.
-/
import Derived.Test.YtilgfaangfbndaaDoorEvG6a
import Derived.Test.YtilgfaangfbndaaDoorEvS8
set_option linter.unusedSimpArgs false
set_option linter.unusedVariables false
set_option maxRecDepth 100000
namespace Go.Ev
open Go

theorem val_set {b : Nat} : ∀ (l : List Nat) (i x : Nat) (h : i < l.length), val b (l.set i x) + b ^ i * l[i] = val b l + b ^ i * x
  | [], i, x, h => by simp at h
  | d :: l, 0, x, h => by simp; omega
  | d :: l, i + 1, x, h => by
    have ih := val_set (b := b) l i x (by simpa using h)
    simp only [List.set_cons_succ, val_cons, List.getElem_cons_succ, Nat.pow_succ]
    rw [Nat.mul_comm (b ^ i) b, Nat.mul_assoc, Nat.mul_assoc]
    have e1 : b * val b (l.set i x) + b * (b ^ i * l[i]'(by simpa using h)) = b * val b l + b * (b ^ i * x) := by rw [← Nat.mul_add, ih, Nat.mul_add]
    omega
theorem isBy_set {l : List Nat} (h : isBy l) {i x : Nat} (hx : x < 256) : isBy (l.set i x) := fun y hy => by
  rcases List.mem_or_eq_of_mem_set hy with hy | rfl
  · exact h y hy
  · exact hx
theorem rd_blk {l : List Nat} {i : Nat} (h : i < l.length) : rdI .u8 (nb l)[0 + (Int.toNat (i : Int)) * 1]? = some (l[i] : Int) := by
  rw [show 0 + (Int.toNat (i : Int)) * 1 = i by omega]; exact rdI_nb_lt h
/-- Numbers of at most 64 bytes. -/
def lim : Nat := 256 ^ 64
theorem byt_len_lim {v : Nat} : v < lim ↔ (byt v).length ≤ 64 := (byt_length_le v 64).symm
theorem valBE_lim {l : List Nat} (h : isBy l) (h64 : l.length ≤ 64) : valBE l < lim := Nat.lt_of_lt_of_le (valBE_lt l h) (Nat.pow_le_pow_right (by omega) h64)
/-- What 'number' returns. -/
def numR (v : Nat) : D := if v < lim then .tup [.list (byt v).length (some (byt v).length) (nb (byt v)), .v (.int .i64 0)] else .tup [.list 0 (some 0) [], .v (.int .i64 3)]
def numR3 (v : Nat) (r : Int) : D := if v < lim then .tup [.list (byt v).length (some (byt v).length) (nb (byt v)), .v (.int .u32 r), .v (.int .i64 0)] else .tup [.list 0 (some 0) [], .v (.int .u32 r), .v (.int .i64 3)]

theorem take_succ_rev {l : List Nat} {i : Nat} (h : i < l.length) : (l.take (i + 1)).reverse = l[i] :: (l.take i).reverse := by
  rw [List.take_succ_eq_append_getElem h, List.reverse_append]; rfl
/-- The digits up to a digit that is not zero are the digits of their value. -/
theorem dig_take {d : List Nat} (hd : isBy d) {k : Nat} (hk : k < d.length) (h0 : d[k] ≠ 0) : dig 256 (val 256 (d.take (k + 1))) = d.take (k + 1) :=
  dig_val (by omega) _ (isBy_take hd _) (.inr ⟨d.take k, d[k], List.take_succ_eq_append_getElem hk, h0⟩)
theorem val_take_ge {d : List Nat} {k : Nat} (hk : k < d.length) (h0 : d[k] ≠ 0) : 256 ^ k ≤ val 256 (d.take (k + 1)) := by
  rw [val_take_succ d hk]
  have : 256 ^ k * 1 ≤ 256 ^ k * d[k] := Nat.mul_le_mul_left _ (by omega)
  omega

/-! ### of -/
theorem of_go (m : Nat) (a : List Nat) (ac : Option Nat) (ha : isBy a) (hl : a.length ≤ 128) (z : List D) : ∀ (n i : Nat), a.length - i < n → i ≤ a.length →
    F84_84_3 m n a.length ac (nb a) (a.length : Int) (i : Int) z (nb (List.replicate (a.length - i) 0 ++ ((a.take i).reverse ++ List.replicate (128 - a.length) 0))) = some (.agg (nb (a.reverse ++ List.replicate (128 - a.length) 0)))
  | 0, i, h, _ => by omega
  | n + 1, i, h, hi => by
    rw [F84_84_3_s]
    by_cases hlt : i < a.length
    · have e0 : (0 : Int) ≤ (i : Int) ∧ (i : Int) < (a.length : Int) := by omega
      have w1 : IntKind.wrap .i64 ((a.length : Int) - 1) = ((a.length - 1 : Nat) : Int) := wrap_of (by omega) (by omega)
      have w2 : IntKind.wrap .i64 (((a.length - 1 : Nat) : Int) - (i : Int)) = ((a.length - 1 - i : Nat) : Int) := wrap_of (by omega) (by omega)
      have w3 : IntKind.wrap .i64 ((i : Int) + 1) = ((i + 1 : Nat) : Int) := wrap_of (by simp) (by omega)
      rw [decide_eq_true e0.2, cond_true, if_pos e0, show Int.toNat (i : Int) * 1 = i by omega, rdI_nb_lt hlt, Option.bind_some, w1, w2, w3]
      rw [if_pos (by omega), show 0 + Int.toNat ((a.length - 1 - i : Nat) : Int) * 1 = a.length - 1 - i by omega, if_pos ⟨rfl, by omega⟩, nb_set]
      have e1 : a.length - i = (a.length - 1 - i) + 1 := by omega
      rw [e1, replicate_set, ← List.cons_append, ← take_succ_rev hlt]
      have := of_go m a ac ha hl z n (i + 1) (by omega) (by omega)
      rw [show a.length - (i + 1) = a.length - 1 - i by omega] at this
      exact this
    · have : i = a.length := by omega
      subst this
      rw [decide_eq_false (by omega), cond_false, if_pos (by simp; omega)]
      simp
theorem nb_replicate (n : Nat) : List.replicate n (D.v (.int .u8 (0 : Int))) = nb (List.replicate n 0) := by simp [nb]
theorem sp84_eq (a : List Nat) (n : Nat) (hn : n = a.length) (ac : Option Nat) (ha : isBy a) (hl : a.length ≤ 128) : sp84 [.list n ac (nb a)] = some (.agg (nb (a.reverse ++ List.replicate (128 - a.length) 0))) := by
  subst hn
  have := of_go M a ac ha hl (List.replicate 128 (D.v (.int .u8 (0 : Int)))) M 0 (by unfold M; omega) (by omega)
  simp only [List.take_zero, List.reverse_nil, List.nil_append, Nat.sub_zero] at this
  rw [← List.replicate_append_replicate.symm.trans (by rfl : _ = List.replicate a.length 0 ++ List.replicate (128 - a.length) 0), show a.length + (128 - a.length) = 128 by omega] at this
  simp only [sp84, F84]
  rw [nb_replicate] at this ⊢
  exact this
theorem val_zeros (b n : Nat) : val b (List.replicate n 0) = 0 := by
  have := val_replicate b n []
  simpa using this
theorem ofBlk_val (a : List Nat) (n : Nat) : val 256 (a.reverse ++ List.replicate n 0) = valBE a := by rw [val_append, val_zeros]; simp [valBE]
theorem ofBlk_isBy {a : List Nat} (ha : isBy a) (n : Nat) : isBy (a.reverse ++ List.replicate n 0) := fun x hx => by
  rcases List.mem_append.1 hx with hx | hx
  · exact ha x (List.mem_reverse.1 hx)
  · have := (List.mem_replicate.1 hx).2; omega

/-! ### number -/
theorem num8_46 (y0 : Nat) (y1 : Option Nat) (y2 : List D) (y3 y4 : Int) (d : List Nat) (hd : isBy d) (hl : d.length = 128) (k : Nat) (hk : k ≤ 64) : ∀ (n i : Nat), k - i < n → i ≤ k →
    F46_86_8 M n y0 y1 y2 y3 y4 (k : Int) k (k : Int) (i : Int) (nb d) (nb (List.replicate (k - i) 0 ++ ((d.take i).reverse ++ List.replicate (128 - k) 0))) = some (.tup [.list k (some k) (nb (d.take k).reverse), .v (.int .i64 0)])
  | 0, i, h, _ => by omega
  | n + 1, i, h, hi => by
    rw [F46_86_8_s]
    by_cases hlt : i < k
    · have e0 : (0 : Int) ≤ (i : Int) ∧ (i : Int) < (k : Int) := by omega
      have hid : i < d.length := by omega
      have w1 : IntKind.wrap .i64 ((k : Int) - 1) = ((k - 1 : Nat) : Int) := wrap_of (by omega) (by omega)
      have w2 : IntKind.wrap .i64 (((k - 1 : Nat) : Int) - (i : Int)) = ((k - 1 - i : Nat) : Int) := wrap_of (by omega) (by omega)
      have w3 : IntKind.wrap .i64 ((i : Int) + 1) = ((i + 1 : Nat) : Int) := wrap_of (by simp) (by omega)
      rw [decide_eq_true e0.2, cond_true, if_pos e0, rd_blk hid, Option.bind_some, w1, w2, w3]
      rw [if_pos (by omega), show 0 + Int.toNat ((k - 1 - i : Nat) : Int) * 1 = k - 1 - i by omega, if_pos ⟨rfl, by omega⟩, nb_set]
      have e1 : k - i = (k - 1 - i) + 1 := by omega
      rw [e1, replicate_set, ← List.cons_append, ← take_succ_rev hid]
      have := num8_46 y0 y1 y2 y3 y4 d hd hl k hk n (i + 1) (by omega) (by omega)
      rw [show k - (i + 1) = k - 1 - i by omega] at this
      exact this
    · have : i = k := by omega
      subst this
      rw [decide_eq_false (by omega), cond_false, if_pos (by omega), if_pos (by omega), if_pos (by omega)]
      have e1 : cutL 128 (nb (List.replicate (i - i) 0 ++ ((d.take i).reverse ++ List.replicate (128 - i) 0))) 0 ((Int.toNat (i : Int) - 0) * 1) = nb (d.take i).reverse := by
        rw [cutL_eq (by simp; omega), List.drop_zero, nb_take]
        congr 1
        rw [Nat.sub_self, List.replicate_zero, List.nil_append]
        exact List.take_left' (by simp; omega)
      rw [e1, show Int.toNat (i : Int) - 0 = i by omega]

theorem num4_46 (y0 : Nat) (y1 : Option Nat) (y2 : List D) (y3 y4 : Int) (d : List Nat) (hd : isBy d) (hl : d.length = 128) (k : Nat) (hk : k ≤ 128) (hc : dig 256 (val 256 (d.take k)) = d.take k) (hge : 64 < k → lim ≤ val 256 (d.take k)) :
    F46_86_j4 M y0 y1 y2 y3 y4 (k : Int) (nb d) = some (numR (val 256 (d.take k))) := by
  rw [F46_86_j4_e]
  by_cases h64 : 64 < k
  · rw [decide_eq_true (by omega), cond_true]
    have := hge h64
    simp only [numR, if_neg (Nat.not_lt.2 this)]
  · rw [decide_eq_false (by omega), cond_false, if_pos (by omega)]
    have h8 := num8_46 y0 y1 y2 y3 y4 d hd hl k (by omega) M 0 (by unfold M; omega) (by omega)
    simp only [List.take_zero, List.reverse_nil, List.nil_append, Nat.sub_zero] at h8
    rw [← List.replicate_append_replicate.symm.trans (by rfl : _ = List.replicate k 0 ++ List.replicate (128 - k) 0), show k + (128 - k) = 128 by omega, ← nb_replicate] at h8
    rw [show Int.toNat (k : Int) - 0 = k by omega]
    refine Eq.trans h8 ?_
    have hb : byt (val 256 (d.take k)) = (d.take k).reverse := by rw [byt, hc]
    have hlen : (byt (val 256 (d.take k))).length = k := by rw [hb, List.length_reverse, List.length_take]; omega
    have hlt : val 256 (d.take k) < lim := byt_len_lim.2 (by omega)
    rw [numR, if_pos hlt, hlen, hb]

theorem num2_46 (y0 : Nat) (y1 : Option Nat) (y2 : List D) (y3 y4 : Int) (d : List Nat) (hd : isBy d) (hl : d.length = 128) : ∀ (n k : Nat), k < n → k ≤ 128 →
    F46_86_2 M n y0 y1 y2 y3 y4 (k : Int) (nb d) = some (numR (val 256 (d.take k)))
  | 0, k, h, _ => by omega
  | n + 1, 0, h, _ => by
    rw [F46_86_2_s, decide_eq_false (by omega), cond_false]
    exact num4_46 y0 y1 y2 y3 y4 d hd hl 0 (by omega) (by simp [dig_zero]) (by omega)
  | n + 1, k + 1, h, hk => by
    have hid : k < d.length := by omega
    have w1 : IntKind.wrap .i64 (((k + 1 : Nat) : Int) - 1) = (k : Int) := wrap_of (by omega) (by omega)
    rw [F46_86_2_s, decide_eq_true (by omega), cond_true, w1, if_pos (by omega), rd_blk hid, Option.bind_some]
    by_cases h0 : d[k] = 0
    · rw [show ((d[k] : Int) == 0) = true by simp [h0], cond_true, F46_86_j3_e, w1]
      have := num2_46 y0 y1 y2 y3 y4 d hd hl n k (by omega) (by omega)
      rw [this, val_take_succ d hid, h0]
      simp
    · rw [show ((d[k] : Int) == 0) = false by simp [h0], cond_false]
      refine num4_46 y0 y1 y2 y3 y4 d hd hl (k + 1) hk (dig_take hd hid h0) (fun h64 => ?_)
      exact Nat.le_trans (Nat.pow_le_pow_right (by omega) (by omega)) (val_take_ge hid h0)
theorem num_46 (y0 : Nat) (y1 : Option Nat) (y2 : List D) (y3 y4 : Int) (d : List Nat) (hd : isBy d) (hl : d.length = 128) : F46_86_2 M M y0 y1 y2 y3 y4 (128 : Int) (nb d) = some (numR (val 256 d)) := by
  have := num2_46 y0 y1 y2 y3 y4 d hd hl M 128 (by unfold M; omega) (Nat.le_refl _)
  rw [List.take_of_length_le (by omega)] at this
  exact this

theorem num8_50 (y0 y1 : Int) (xx : List D) (d : List Nat) (hd : isBy d) (hl : d.length = 128) (k : Nat) (hk : k ≤ 64) : ∀ (n i : Nat), k - i < n → i ≤ k →
    F50_86_8 M n y0 y1 (k : Int) k (k : Int) (i : Int) (nb d) xx (nb (List.replicate (k - i) 0 ++ ((d.take i).reverse ++ List.replicate (128 - k) 0))) = some (.tup [.list k (some k) (nb (d.take k).reverse), .v (.int .i64 0)])
  | 0, i, h, _ => by omega
  | n + 1, i, h, hi => by
    rw [F50_86_8_s]
    by_cases hlt : i < k
    · have e0 : (0 : Int) ≤ (i : Int) ∧ (i : Int) < (k : Int) := by omega
      have hid : i < d.length := by omega
      have w1 : IntKind.wrap .i64 ((k : Int) - 1) = ((k - 1 : Nat) : Int) := wrap_of (by omega) (by omega)
      have w2 : IntKind.wrap .i64 (((k - 1 : Nat) : Int) - (i : Int)) = ((k - 1 - i : Nat) : Int) := wrap_of (by omega) (by omega)
      have w3 : IntKind.wrap .i64 ((i : Int) + 1) = ((i + 1 : Nat) : Int) := wrap_of (by simp) (by omega)
      rw [decide_eq_true e0.2, cond_true, if_pos e0, rd_blk hid, Option.bind_some, w1, w2, w3]
      rw [if_pos (by omega), show 0 + Int.toNat ((k - 1 - i : Nat) : Int) * 1 = k - 1 - i by omega, if_pos ⟨rfl, by omega⟩, nb_set]
      have e1 : k - i = (k - 1 - i) + 1 := by omega
      rw [e1, replicate_set, ← List.cons_append, ← take_succ_rev hid]
      have := num8_50 y0 y1 xx d hd hl k hk n (i + 1) (by omega) (by omega)
      rw [show k - (i + 1) = k - 1 - i by omega] at this
      exact this
    · have : i = k := by omega
      subst this
      rw [decide_eq_false (by omega), cond_false, if_pos (by omega), if_pos (by omega), if_pos (by omega)]
      have e1 : cutL 128 (nb (List.replicate (i - i) 0 ++ ((d.take i).reverse ++ List.replicate (128 - i) 0))) 0 ((Int.toNat (i : Int) - 0) * 1) = nb (d.take i).reverse := by
        rw [cutL_eq (by simp; omega), List.drop_zero, nb_take]
        congr 1
        rw [Nat.sub_self, List.replicate_zero, List.nil_append]
        exact List.take_left' (by simp; omega)
      rw [e1, show Int.toNat (i : Int) - 0 = i by omega]

theorem num4_50 (y0 y1 : Int) (xx : List D) (d : List Nat) (hd : isBy d) (hl : d.length = 128) (k : Nat) (hk : k ≤ 128) (hc : dig 256 (val 256 (d.take k)) = d.take k) (hge : 64 < k → lim ≤ val 256 (d.take k)) :
    F50_86_j4 M y0 y1 (k : Int) (nb d) xx = some (numR (val 256 (d.take k))) := by
  rw [F50_86_j4_e]
  by_cases h64 : 64 < k
  · rw [decide_eq_true (by omega), cond_true]
    have := hge h64
    simp only [numR, if_neg (Nat.not_lt.2 this)]
  · rw [decide_eq_false (by omega), cond_false, if_pos (by omega)]
    have h8 := num8_50 y0 y1 xx d hd hl k (by omega) M 0 (by unfold M; omega) (by omega)
    simp only [List.take_zero, List.reverse_nil, List.nil_append, Nat.sub_zero] at h8
    rw [← List.replicate_append_replicate.symm.trans (by rfl : _ = List.replicate k 0 ++ List.replicate (128 - k) 0), show k + (128 - k) = 128 by omega, ← nb_replicate] at h8
    rw [show Int.toNat (k : Int) - 0 = k by omega]
    refine Eq.trans h8 ?_
    have hb : byt (val 256 (d.take k)) = (d.take k).reverse := by rw [byt, hc]
    have hlen : (byt (val 256 (d.take k))).length = k := by rw [hb, List.length_reverse, List.length_take]; omega
    have hlt : val 256 (d.take k) < lim := byt_len_lim.2 (by omega)
    rw [numR, if_pos hlt, hlen, hb]

theorem num2_50 (y0 y1 : Int) (xx : List D) (d : List Nat) (hd : isBy d) (hl : d.length = 128) : ∀ (n k : Nat), k < n → k ≤ 128 →
    F50_86_2 M n y0 y1 (k : Int) (nb d) xx = some (numR (val 256 (d.take k)))
  | 0, k, h, _ => by omega
  | n + 1, 0, h, _ => by
    rw [F50_86_2_s, decide_eq_false (by omega), cond_false]
    exact num4_50 y0 y1 xx d hd hl 0 (by omega) (by simp [dig_zero]) (by omega)
  | n + 1, k + 1, h, hk => by
    have hid : k < d.length := by omega
    have w1 : IntKind.wrap .i64 (((k + 1 : Nat) : Int) - 1) = (k : Int) := wrap_of (by omega) (by omega)
    rw [F50_86_2_s, decide_eq_true (by omega), cond_true, w1, if_pos (by omega), rd_blk hid, Option.bind_some]
    by_cases h0 : d[k] = 0
    · rw [show ((d[k] : Int) == 0) = true by simp [h0], cond_true, F50_86_j3_e, w1]
      have := num2_50 y0 y1 xx d hd hl n k (by omega) (by omega)
      rw [this, val_take_succ d hid, h0]
      simp
    · rw [show ((d[k] : Int) == 0) = false by simp [h0], cond_false]
      refine num4_50 y0 y1 xx d hd hl (k + 1) hk (dig_take hd hid h0) (fun h64 => ?_)
      exact Nat.le_trans (Nat.pow_le_pow_right (by omega) (by omega)) (val_take_ge hid h0)
theorem num_50 (y0 y1 : Int) (xx : List D) (d : List Nat) (hd : isBy d) (hl : d.length = 128) : F50_86_2 M M y0 y1 (128 : Int) (nb d) xx = some (numR (val 256 d)) := by
  have := num2_50 y0 y1 xx d hd hl M 128 (by unfold M; omega) (Nat.le_refl _)
  rw [List.take_of_length_le (by omega)] at this
  exact this

theorem num8_55 (y0 : Nat) (y1 : Option Nat) (y2 : List D) (y3 : Nat) (y4 : Option Nat) (y5 : List D) (y6 : Nat) (y7 : Option Nat) (y8 : List D) (y9 y10 : Int) (d : List Nat) (hd : isBy d) (hl : d.length = 128) (k : Nat) (hk : k ≤ 64) : ∀ (n i : Nat), k - i < n → i ≤ k →
    F55_86_8 M n y0 y1 y2 y3 y4 y5 y6 y7 y8 y9 y10 (k : Int) k (k : Int) (i : Int) (nb d) (nb (List.replicate (k - i) 0 ++ ((d.take i).reverse ++ List.replicate (128 - k) 0))) = some (.tup [.list k (some k) (nb (d.take k).reverse), .v (.int .i64 0)])
  | 0, i, h, _ => by omega
  | n + 1, i, h, hi => by
    rw [F55_86_8_s]
    by_cases hlt : i < k
    · have e0 : (0 : Int) ≤ (i : Int) ∧ (i : Int) < (k : Int) := by omega
      have hid : i < d.length := by omega
      have w1 : IntKind.wrap .i64 ((k : Int) - 1) = ((k - 1 : Nat) : Int) := wrap_of (by omega) (by omega)
      have w2 : IntKind.wrap .i64 (((k - 1 : Nat) : Int) - (i : Int)) = ((k - 1 - i : Nat) : Int) := wrap_of (by omega) (by omega)
      have w3 : IntKind.wrap .i64 ((i : Int) + 1) = ((i + 1 : Nat) : Int) := wrap_of (by simp) (by omega)
      rw [decide_eq_true e0.2, cond_true, if_pos e0, rd_blk hid, Option.bind_some, w1, w2, w3]
      rw [if_pos (by omega), show 0 + Int.toNat ((k - 1 - i : Nat) : Int) * 1 = k - 1 - i by omega, if_pos ⟨rfl, by omega⟩, nb_set]
      have e1 : k - i = (k - 1 - i) + 1 := by omega
      rw [e1, replicate_set, ← List.cons_append, ← take_succ_rev hid]
      have := num8_55 y0 y1 y2 y3 y4 y5 y6 y7 y8 y9 y10 d hd hl k hk n (i + 1) (by omega) (by omega)
      rw [show k - (i + 1) = k - 1 - i by omega] at this
      exact this
    · have : i = k := by omega
      subst this
      rw [decide_eq_false (by omega), cond_false, if_pos (by omega), if_pos (by omega), if_pos (by omega)]
      have e1 : cutL 128 (nb (List.replicate (i - i) 0 ++ ((d.take i).reverse ++ List.replicate (128 - i) 0))) 0 ((Int.toNat (i : Int) - 0) * 1) = nb (d.take i).reverse := by
        rw [cutL_eq (by simp; omega), List.drop_zero, nb_take]
        congr 1
        rw [Nat.sub_self, List.replicate_zero, List.nil_append]
        exact List.take_left' (by simp; omega)
      rw [e1, show Int.toNat (i : Int) - 0 = i by omega]

theorem num4_55 (y0 : Nat) (y1 : Option Nat) (y2 : List D) (y3 : Nat) (y4 : Option Nat) (y5 : List D) (y6 : Nat) (y7 : Option Nat) (y8 : List D) (y9 y10 : Int) (d : List Nat) (hd : isBy d) (hl : d.length = 128) (k : Nat) (hk : k ≤ 128) (hc : dig 256 (val 256 (d.take k)) = d.take k) (hge : 64 < k → lim ≤ val 256 (d.take k)) :
    F55_86_j4 M y0 y1 y2 y3 y4 y5 y6 y7 y8 y9 y10 (k : Int) (nb d) = some (numR (val 256 (d.take k))) := by
  rw [F55_86_j4_e]
  by_cases h64 : 64 < k
  · rw [decide_eq_true (by omega), cond_true]
    have := hge h64
    simp only [numR, if_neg (Nat.not_lt.2 this)]
  · rw [decide_eq_false (by omega), cond_false, if_pos (by omega)]
    have h8 := num8_55 y0 y1 y2 y3 y4 y5 y6 y7 y8 y9 y10 d hd hl k (by omega) M 0 (by unfold M; omega) (by omega)
    simp only [List.take_zero, List.reverse_nil, List.nil_append, Nat.sub_zero] at h8
    rw [← List.replicate_append_replicate.symm.trans (by rfl : _ = List.replicate k 0 ++ List.replicate (128 - k) 0), show k + (128 - k) = 128 by omega, ← nb_replicate] at h8
    rw [show Int.toNat (k : Int) - 0 = k by omega]
    refine Eq.trans h8 ?_
    have hb : byt (val 256 (d.take k)) = (d.take k).reverse := by rw [byt, hc]
    have hlen : (byt (val 256 (d.take k))).length = k := by rw [hb, List.length_reverse, List.length_take]; omega
    have hlt : val 256 (d.take k) < lim := byt_len_lim.2 (by omega)
    rw [numR, if_pos hlt, hlen, hb]

theorem num2_55 (y0 : Nat) (y1 : Option Nat) (y2 : List D) (y3 : Nat) (y4 : Option Nat) (y5 : List D) (y6 : Nat) (y7 : Option Nat) (y8 : List D) (y9 y10 : Int) (d : List Nat) (hd : isBy d) (hl : d.length = 128) : ∀ (n k : Nat), k < n → k ≤ 128 →
    F55_86_2 M n y0 y1 y2 y3 y4 y5 y6 y7 y8 y9 y10 (k : Int) (nb d) = some (numR (val 256 (d.take k)))
  | 0, k, h, _ => by omega
  | n + 1, 0, h, _ => by
    rw [F55_86_2_s, decide_eq_false (by omega), cond_false]
    exact num4_55 y0 y1 y2 y3 y4 y5 y6 y7 y8 y9 y10 d hd hl 0 (by omega) (by simp [dig_zero]) (by omega)
  | n + 1, k + 1, h, hk => by
    have hid : k < d.length := by omega
    have w1 : IntKind.wrap .i64 (((k + 1 : Nat) : Int) - 1) = (k : Int) := wrap_of (by omega) (by omega)
    rw [F55_86_2_s, decide_eq_true (by omega), cond_true, w1, if_pos (by omega), rd_blk hid, Option.bind_some]
    by_cases h0 : d[k] = 0
    · rw [show ((d[k] : Int) == 0) = true by simp [h0], cond_true, F55_86_j3_e, w1]
      have := num2_55 y0 y1 y2 y3 y4 y5 y6 y7 y8 y9 y10 d hd hl n k (by omega) (by omega)
      rw [this, val_take_succ d hid, h0]
      simp
    · rw [show ((d[k] : Int) == 0) = false by simp [h0], cond_false]
      refine num4_55 y0 y1 y2 y3 y4 y5 y6 y7 y8 y9 y10 d hd hl (k + 1) hk (dig_take hd hid h0) (fun h64 => ?_)
      exact Nat.le_trans (Nat.pow_le_pow_right (by omega) (by omega)) (val_take_ge hid h0)
theorem num_55 (y0 : Nat) (y1 : Option Nat) (y2 : List D) (y3 : Nat) (y4 : Option Nat) (y5 : List D) (y6 : Nat) (y7 : Option Nat) (y8 : List D) (y9 y10 : Int) (d : List Nat) (hd : isBy d) (hl : d.length = 128) : F55_86_2 M M y0 y1 y2 y3 y4 y5 y6 y7 y8 y9 y10 (128 : Int) (nb d) = some (numR (val 256 d)) := by
  have := num2_55 y0 y1 y2 y3 y4 y5 y6 y7 y8 y9 y10 d hd hl M 128 (by unfold M; omega) (Nat.le_refl _)
  rw [List.take_of_length_le (by omega)] at this
  exact this

theorem num8_56 (y0 y1 y2 : Int) (d : List Nat) (hd : isBy d) (hl : d.length = 128) (k : Nat) (hk : k ≤ 64) : ∀ (n i : Nat), k - i < n → i ≤ k →
    F56_86_8 M n y0 y1 y2 (k : Int) k (k : Int) (i : Int) (nb d) (nb (List.replicate (k - i) 0 ++ ((d.take i).reverse ++ List.replicate (128 - k) 0))) = some (.tup [.list k (some k) (nb (d.take k).reverse), .v (.int .u32 (IntKind.wrap .u32 y1)), .v (.int .i64 0)])
  | 0, i, h, _ => by omega
  | n + 1, i, h, hi => by
    rw [F56_86_8_s]
    by_cases hlt : i < k
    · have e0 : (0 : Int) ≤ (i : Int) ∧ (i : Int) < (k : Int) := by omega
      have hid : i < d.length := by omega
      have w1 : IntKind.wrap .i64 ((k : Int) - 1) = ((k - 1 : Nat) : Int) := wrap_of (by omega) (by omega)
      have w2 : IntKind.wrap .i64 (((k - 1 : Nat) : Int) - (i : Int)) = ((k - 1 - i : Nat) : Int) := wrap_of (by omega) (by omega)
      have w3 : IntKind.wrap .i64 ((i : Int) + 1) = ((i + 1 : Nat) : Int) := wrap_of (by simp) (by omega)
      rw [decide_eq_true e0.2, cond_true, if_pos e0, rd_blk hid, Option.bind_some, w1, w2, w3]
      rw [if_pos (by omega), show 0 + Int.toNat ((k - 1 - i : Nat) : Int) * 1 = k - 1 - i by omega, if_pos ⟨rfl, by omega⟩, nb_set]
      have e1 : k - i = (k - 1 - i) + 1 := by omega
      rw [e1, replicate_set, ← List.cons_append, ← take_succ_rev hid]
      have := num8_56 y0 y1 y2 d hd hl k hk n (i + 1) (by omega) (by omega)
      rw [show k - (i + 1) = k - 1 - i by omega] at this
      exact this
    · have : i = k := by omega
      subst this
      rw [decide_eq_false (by omega), cond_false, if_pos (by omega), if_pos (by omega), if_pos (by omega)]
      have e1 : cutL 128 (nb (List.replicate (i - i) 0 ++ ((d.take i).reverse ++ List.replicate (128 - i) 0))) 0 ((Int.toNat (i : Int) - 0) * 1) = nb (d.take i).reverse := by
        rw [cutL_eq (by simp; omega), List.drop_zero, nb_take]
        congr 1
        rw [Nat.sub_self, List.replicate_zero, List.nil_append]
        exact List.take_left' (by simp; omega)
      rw [e1, show Int.toNat (i : Int) - 0 = i by omega]

theorem num4_56 (y0 y1 y2 : Int) (d : List Nat) (hd : isBy d) (hl : d.length = 128) (k : Nat) (hk : k ≤ 128) (hc : dig 256 (val 256 (d.take k)) = d.take k) (hge : 64 < k → lim ≤ val 256 (d.take k)) :
    F56_86_j4 M y0 y1 y2 (k : Int) (nb d) = some (numR3 (val 256 (d.take k)) (IntKind.wrap .u32 y1)) := by
  rw [F56_86_j4_e]
  by_cases h64 : 64 < k
  · rw [decide_eq_true (by omega), cond_true]
    have := hge h64
    simp only [numR3, if_neg (Nat.not_lt.2 this)]
  · rw [decide_eq_false (by omega), cond_false, if_pos (by omega)]
    have h8 := num8_56 y0 y1 y2 d hd hl k (by omega) M 0 (by unfold M; omega) (by omega)
    simp only [List.take_zero, List.reverse_nil, List.nil_append, Nat.sub_zero] at h8
    rw [← List.replicate_append_replicate.symm.trans (by rfl : _ = List.replicate k 0 ++ List.replicate (128 - k) 0), show k + (128 - k) = 128 by omega, ← nb_replicate] at h8
    rw [show Int.toNat (k : Int) - 0 = k by omega]
    refine Eq.trans h8 ?_
    have hb : byt (val 256 (d.take k)) = (d.take k).reverse := by rw [byt, hc]
    have hlen : (byt (val 256 (d.take k))).length = k := by rw [hb, List.length_reverse, List.length_take]; omega
    have hlt : val 256 (d.take k) < lim := byt_len_lim.2 (by omega)
    rw [numR3, if_pos hlt, hlen, hb]

theorem num2_56 (y0 y1 y2 : Int) (d : List Nat) (hd : isBy d) (hl : d.length = 128) : ∀ (n k : Nat), k < n → k ≤ 128 →
    F56_86_2 M n y0 y1 y2 (k : Int) (nb d) = some (numR3 (val 256 (d.take k)) (IntKind.wrap .u32 y1))
  | 0, k, h, _ => by omega
  | n + 1, 0, h, _ => by
    rw [F56_86_2_s, decide_eq_false (by omega), cond_false]
    exact num4_56 y0 y1 y2 d hd hl 0 (by omega) (by simp [dig_zero]) (by omega)
  | n + 1, k + 1, h, hk => by
    have hid : k < d.length := by omega
    have w1 : IntKind.wrap .i64 (((k + 1 : Nat) : Int) - 1) = (k : Int) := wrap_of (by omega) (by omega)
    rw [F56_86_2_s, decide_eq_true (by omega), cond_true, w1, if_pos (by omega), rd_blk hid, Option.bind_some]
    by_cases h0 : d[k] = 0
    · rw [show ((d[k] : Int) == 0) = true by simp [h0], cond_true, F56_86_j3_e, w1]
      have := num2_56 y0 y1 y2 d hd hl n k (by omega) (by omega)
      rw [this, val_take_succ d hid, h0]
      simp
    · rw [show ((d[k] : Int) == 0) = false by simp [h0], cond_false]
      refine num4_56 y0 y1 y2 d hd hl (k + 1) hk (dig_take hd hid h0) (fun h64 => ?_)
      exact Nat.le_trans (Nat.pow_le_pow_right (by omega) (by omega)) (val_take_ge hid h0)
theorem num_56 (y0 y1 y2 : Int) (d : List Nat) (hd : isBy d) (hl : d.length = 128) : F56_86_2 M M y0 y1 y2 (128 : Int) (nb d) = some (numR3 (val 256 d) (IntKind.wrap .u32 y1)) := by
  have := num2_56 y0 y1 y2 d hd hl M 128 (by unfold M; omega) (Nat.le_refl _)
  rw [List.take_of_length_le (by omega)] at this
  exact this

theorem add_46 (n0 : Nat) (y0 : Nat) (y1 : Option Nat) (y2 : List D) (y4 x11 y3 : Int) : ∀ (n at_ v : Nat) (d : List Nat), 128 - at_ < n → isBy d → d.length = 128 → v ≤ 4294967296 → val 256 d + 256 ^ at_ * v < 256 ^ 128 →
    ∃ d', isBy d' ∧ d'.length = 128 ∧ val 256 d' = val 256 d + 256 ^ at_ * v ∧ F46_94_0 M n0 n y0 y1 y2 y4 x11 y3 (at_ : Int) (v : Int) (nb d) = F46_46_7 M n0 y0 y1 y2 y3 (IntKind.wrap .i64 (y4 + (1 : Int))) (nb d')
  | 0, at_, v, d, h, _, _, _, _ => by omega
  | n + 1, at_, v, d, h, hd, hl, hv, hlim => by
    by_cases h0 : v = 0
    · subst h0
      exact ⟨d, hd, hl, by simp, by rw [F46_94_0_s, decide_eq_false (by omega), cond_false]⟩
    · have hat : at_ < 128 := by
        rcases Nat.lt_or_ge at_ 128 with h1 | h1
        · exact h1
        · exfalso
          have h2 : 256 ^ 128 ≤ 256 ^ at_ := Nat.pow_le_pow_right (by omega) h1
          have h3 : 256 ^ at_ * 1 ≤ 256 ^ at_ * v := Nat.mul_le_mul_left _ (by omega)
          omega
      have hid : at_ < d.length := by omega
      have hdb : d[at_] < 256 := hd _ (List.getElem_mem hid)
      have hset := val_set (b := 256) d at_ ((v + d[at_]) % 256) hid
      have hval : val 256 (d.set at_ ((v + d[at_]) % 256)) + 256 ^ (at_ + 1) * ((v + d[at_]) / 256) = val 256 d + 256 ^ at_ * v := by
        rw [Nat.pow_succ, Nat.mul_assoc]
        have e1 : 256 ^ at_ * (v + d[at_]) = 256 ^ at_ * ((v + d[at_]) % 256) + 256 ^ at_ * (256 * ((v + d[at_]) / 256)) := by
          rw [← Nat.mul_add, Nat.mod_add_div]
        rw [Nat.mul_add] at e1
        omega
      obtain ⟨d', h1, h2, h3, h4⟩ := add_46 n0 y0 y1 y2 y4 x11 y3 n (at_ + 1) ((v + d[at_]) / 256) (d.set at_ ((v + d[at_]) % 256)) (by omega) (isBy_set hd (by omega)) (by simp [hl]) (by omega) (by rw [hval]; exact hlim)
      refine ⟨d', h1, h2, by rw [h3, hval], ?_⟩
      rw [← h4, F46_94_0_s, decide_eq_true (by omega), cond_true, decide_eq_true (by omega), cond_true, F46_94_j2_e]
      have w1 : IntKind.wrap .i64 (d[at_] : Int) = ((d[at_] : Nat) : Int) := wrap_nat (by omega)
      have w2 : IntKind.wrap .i64 ((v : Int) + ((d[at_] : Nat) : Int)) = ((v + d[at_] : Nat) : Int) := wrap_of (by simp) (by omega)
      have w3 : IntKind.wrap .i64 ((at_ : Int) + 1) = ((at_ + 1 : Nat) : Int) := wrap_of (by simp) (by omega)
      have w4 : Int.fdiv ((v + d[at_] : Nat) : Int) (2 ^ 8) = (((v + d[at_]) / 256 : Nat) : Int) := by rw [Int.fdiv_eq_ediv_of_nonneg _ (by decide)]; omega
      have w5 : IntKind.wrap .u8 ((v + d[at_] : Nat) : Int) = (((v + d[at_]) % 256 : Nat) : Int) := by rw [wrap_u8]; omega
      rw [if_pos (by omega), rd_blk hid, Option.bind_some, if_pos (by omega), show 0 + Int.toNat (at_ : Int) * 1 = at_ by omega, if_pos ⟨rfl, hat⟩, w1, w2, w3, w4, w5, nb_set]

theorem add_55 (n0 n1 : Nat) (y0 : Nat) (y1 : Option Nat) (y2 : List D) (y3 : Nat) (y4 : Option Nat) (y5 : List D) (y6 y7 y13 x30 : Int) (y8 : Nat) (y9 : Option Nat) (y10 : List D) (y11 y12 : Int) : ∀ (n at_ v : Nat) (d : List Nat), 128 - at_ < n → isBy d → d.length = 128 → v ≤ 4294967296 → val 256 d + 256 ^ at_ * v < 256 ^ 128 →
    ∃ d', isBy d' ∧ d'.length = 128 ∧ val 256 d' = val 256 d + 256 ^ at_ * v ∧ F55_94_0 M n0 n1 n y0 y1 y2 y3 y4 y5 y6 y7 y13 x30 y8 y9 y10 y11 y12 (at_ : Int) (v : Int) (nb d) = F55_55_10 M n0 n1 y0 y1 y2 y3 y4 y5 y6 y7 y8 y9 y10 y11 y12 (IntKind.wrap .i64 (y13 + (1 : Int))) (nb d')
  | 0, at_, v, d, h, _, _, _, _ => by omega
  | n + 1, at_, v, d, h, hd, hl, hv, hlim => by
    by_cases h0 : v = 0
    · subst h0
      exact ⟨d, hd, hl, by simp, by rw [F55_94_0_s, decide_eq_false (by omega), cond_false]⟩
    · have hat : at_ < 128 := by
        rcases Nat.lt_or_ge at_ 128 with h1 | h1
        · exact h1
        · exfalso
          have h2 : 256 ^ 128 ≤ 256 ^ at_ := Nat.pow_le_pow_right (by omega) h1
          have h3 : 256 ^ at_ * 1 ≤ 256 ^ at_ * v := Nat.mul_le_mul_left _ (by omega)
          omega
      have hid : at_ < d.length := by omega
      have hdb : d[at_] < 256 := hd _ (List.getElem_mem hid)
      have hset := val_set (b := 256) d at_ ((v + d[at_]) % 256) hid
      have hval : val 256 (d.set at_ ((v + d[at_]) % 256)) + 256 ^ (at_ + 1) * ((v + d[at_]) / 256) = val 256 d + 256 ^ at_ * v := by
        rw [Nat.pow_succ, Nat.mul_assoc]
        have e1 : 256 ^ at_ * (v + d[at_]) = 256 ^ at_ * ((v + d[at_]) % 256) + 256 ^ at_ * (256 * ((v + d[at_]) / 256)) := by
          rw [← Nat.mul_add, Nat.mod_add_div]
        rw [Nat.mul_add] at e1
        omega
      obtain ⟨d', h1, h2, h3, h4⟩ := add_55 n0 n1 y0 y1 y2 y3 y4 y5 y6 y7 y13 x30 y8 y9 y10 y11 y12 n (at_ + 1) ((v + d[at_]) / 256) (d.set at_ ((v + d[at_]) % 256)) (by omega) (isBy_set hd (by omega)) (by simp [hl]) (by omega) (by rw [hval]; exact hlim)
      refine ⟨d', h1, h2, by rw [h3, hval], ?_⟩
      rw [← h4, F55_94_0_s, decide_eq_true (by omega), cond_true, decide_eq_true (by omega), cond_true, F55_94_j2_e]
      have w1 : IntKind.wrap .i64 (d[at_] : Int) = ((d[at_] : Nat) : Int) := wrap_nat (by omega)
      have w2 : IntKind.wrap .i64 ((v : Int) + ((d[at_] : Nat) : Int)) = ((v + d[at_] : Nat) : Int) := wrap_of (by simp) (by omega)
      have w3 : IntKind.wrap .i64 ((at_ : Int) + 1) = ((at_ + 1 : Nat) : Int) := wrap_of (by simp) (by omega)
      have w4 : Int.fdiv ((v + d[at_] : Nat) : Int) (2 ^ 8) = (((v + d[at_]) / 256 : Nat) : Int) := by rw [Int.fdiv_eq_ediv_of_nonneg _ (by decide)]; omega
      have w5 : IntKind.wrap .u8 ((v + d[at_] : Nat) : Int) = (((v + d[at_]) % 256 : Nat) : Int) := by rw [wrap_u8]; omega
      rw [if_pos (by omega), rd_blk hid, Option.bind_some, if_pos (by omega), show 0 + Int.toNat (at_ : Int) * 1 = at_ by omega, if_pos ⟨rfl, hat⟩, w1, w2, w3, w4, w5, nb_set]

/-! ### Add -/
theorem sp83_eq (a b : List Nat) (n k : Nat) (hn : n = a.length) (hk : k = b.length) (ac bc : Option Nat) : sp83 [.list n ac (nb a), .list k bc (nb b)] = some (.v (.int .i64 (if checkN a = 0 then checkN b else checkN a))) := by
  simp only [sp83, F83]
  rw [sp68_eq a n hn ac]
  simp only [Option.bind_some, rdI64]
  by_cases h : checkN a = 0
  · rw [h, show ((0 : Int) != 0) = false from rfl, cond_false, sp68_eq b k hk bc]
    simp only [Option.bind_some, rdI64, if_true]
  · rw [show (checkN a != 0) = true by simp [h], cond_true, if_neg h]

/-- A valid number. -/
structure isN (l : List Nat) : Prop where
  by_ : isBy l
  len : l.length ≤ 64
  head : l.head? ≠ some 0
theorem isN.check {l : List Nat} (h : isN l) : checkN l = 0 := by
  have := h.len
  simp [checkN, h.head]; omega
theorem isN.lt {l : List Nat} (h : isN l) : valBE l < lim := valBE_lim h.by_ h.len
theorem isN.eq {l : List Nat} (h : isN l) : byt (valBE l) = l := byt_valBE l h.by_ h.head
theorem isN_byt {v : Nat} (h : v < lim) : isN (byt v) := ⟨byt_isBy v, byt_len_lim.1 h, byt_head v⟩
theorem isN_ofN {l : List Nat} (h : isBy l) : isN (ofN l) := ⟨ofN_isBy h, ofN_len l, ofN_head h⟩
theorem lim2 : lim * lim = 256 ^ 128 := by unfold lim; rw [← Nat.pow_add]
theorem lim_pos : 1 ≤ lim := Nat.pow_pos (by omega)

theorem add_loop (b : List Nat) (bc : Option Nat) (hb : isBy b) (hl : b.length ≤ 64) : ∀ (n i : Nat) (d : List Nat), b.length - i < n → i ≤ b.length → isBy d → d.length = 128 → val 256 d + valBE (b.drop i) < 256 ^ 128 →
    F46_46_7 M n b.length bc (nb b) (b.length : Int) (i : Int) (nb d) = some (numR (val 256 d + valBE (b.drop i)))
  | 0, i, d, h, _, _, _, _ => by omega
  | n + 1, i, d, h, hi, hd, hdl, hlim => by
    rw [F46_46_7_s]
    by_cases hlt : i < b.length
    · have e0 : (0 : Int) ≤ (i : Int) ∧ (i : Int) < (b.length : Int) := by omega
      have hbb : b[i] < 256 := hb _ (List.getElem_mem hlt)
      have w1 : IntKind.wrap .i64 ((b.length : Int) - 1) = ((b.length - 1 : Nat) : Int) := wrap_of (by omega) (by omega)
      have w2 : IntKind.wrap .i64 (((b.length - 1 : Nat) : Int) - (i : Int)) = ((b.length - 1 - i : Nat) : Int) := wrap_of (by omega) (by omega)
      have w3 : IntKind.wrap .i64 ((i : Int) + 1) = ((i + 1 : Nat) : Int) := wrap_of (by simp) (by omega)
      have w4 : IntKind.wrap .i64 (b[i] : Int) = ((b[i] : Nat) : Int) := wrap_nat (by omega)
      have hv : valBE (b.drop i) = 256 ^ (b.length - 1 - i) * b[i] + valBE (b.drop (i + 1)) := by
        rw [List.drop_eq_getElem_cons hlt, valBE_cons, List.length_drop, Nat.mul_comm, show b.length - (i + 1) = b.length - 1 - i by omega]
      rw [hv] at hlim ⊢
      obtain ⟨d', h1, h2, h3, h4⟩ := add_46 n b.length bc (nb b) (i : Int) (b[i] : Int) (b.length : Int) M (b.length - 1 - i) b[i] d (by unfold M; omega) hd hdl (by omega) (by omega)
      rw [decide_eq_true e0.2, cond_true, if_pos e0, show Int.toNat (i : Int) * 1 = i by omega, rdI_nb_lt hlt, Option.bind_some, w1, w2, w4, h4, w3]
      rw [← Nat.add_assoc, ← h3] at hlim ⊢
      exact add_loop b bc hb hl n (i + 1) d' (by omega) (by omega) h1 h2 hlim
    · have : i = b.length := by omega
      subst this
      rw [decide_eq_false (by omega), cond_false, num_46 _ _ _ _ _ d hd hdl]
      simp [valBE_nil]

/-- nats.Add. -/
theorem sp46_eq (a b : List Nat) (n k : Nat) (hn : n = a.length) (hk : k = b.length) (ac bc : Option Nat) (ha : isN a) (hb : isN b) : sp46 [.list n ac (nb a), .list k bc (nb b)] = some (numR (valBE a + valBE b)) := by
  subst hn hk
  simp only [sp46, F46]
  rw [sp83_eq a b _ _ rfl rfl, ha.check, if_pos rfl, hb.check]
  simp only [Option.bind_some, rdI64]
  have hal := ha.len
  rw [show ((0 : Int) != 0) = false from rfl, cond_false, sp84_eq a _ rfl ac ha.by_ (by omega)]
  simp only [Option.bind_some, rdA]
  rw [if_pos (by simp; omega)]
  have h1 := ha.lt
  have h2 := hb.lt
  have h3 := lim2
  have h4 : 2 * lim ≤ lim * lim := Nat.mul_le_mul_right _ (by unfold lim; decide)
  have := add_loop b bc hb.by_ hb.len M 0 (a.reverse ++ List.replicate (128 - a.length) 0) (by have := hb.len; unfold M; omega) (by omega) (ofBlk_isBy ha.by_ _) (by simp; omega) (by rw [ofBlk_val, List.drop_zero]; omega)
  rw [ofBlk_val, List.drop_zero] at this
  exact this
end Go.Ev
