/-
  The program's Div, Of, Uint and Pow in terms of numbers.
-/
import Derived.Test.YtilgfaangfbndaaDoorEvN5
import Derived.Test.YtilgfaangfbndaaDoorEvG6b
set_option linter.unusedSimpArgs false
set_option linter.unusedVariables false
set_option maxRecDepth 100000
namespace Go.Ev
open Go

theorem wrap_u64 (x : Int) : IntKind.wrap .u64 x = x % 18446744073709551616 := by
  have h1 : (2 ^ IntKind.u64.bits : Int) = 18446744073709551616 := by decide
  simp [IntKind.wrap, IntKind.signed, h1]
theorem wrap_u32 (x : Int) : IntKind.wrap .u32 x = x % 4294967296 := by
  have h1 : (2 ^ IntKind.u32.bits : Int) = 4294967296 := by decide
  simp [IntKind.wrap, IntKind.signed, h1]
theorem or_byte_u {a b : Nat} (hb : b < 256) (ha : a < 72057594037927936) :
    IntKind.wrap .u64 (((BitVec.ofInt (IntKind.bits .u64) (IntKind.wrap .u64 ((a : Int) * 2 ^ 8)) ||| BitVec.ofInt (IntKind.bits .u64) (IntKind.wrap .u64 (b : Int))).toNat : Nat) : Int) = ((a * 256 + b : Nat) : Int) := by
  rw [show IntKind.bits .u64 = 64 from rfl]
  have e1 : IntKind.wrap .u64 ((a : Int) * 2 ^ 8) = ((a * 256 : Nat) : Int) := by rw [wrap_u64]; omega
  have e2 : IntKind.wrap .u64 (b : Int) = (b : Int) := by rw [wrap_u64]; omega
  rw [e1, e2]
  have t1 : (BitVec.ofInt 64 ((a * 256 : Nat) : Int)).toNat = a * 2 ^ 8 := by
    rw [BitVec.toNat_ofInt, pow64]; omega
  have t2 : (BitVec.ofInt 64 (b : Int)).toNat = b := by
    rw [BitVec.toNat_ofInt, pow64]; omega
  rw [BitVec.toNat_or, t1, t2, ← Nat.shiftLeft_eq, ← Nat.shiftLeft_add_eq_or_of_lt (by omega), Nat.shiftLeft_eq, wrap_u64]
  omega

/-! ### Div -/
theorem take_set_mid {l qs : List Nat} {k q : Nat} (h : k < l.length) : (l.take (k + 1) ++ qs).set k q = l.take k ++ q :: qs := by
  rw [List.take_succ_eq_append_getElem h, List.append_assoc, List.set_append_right _ _ (by simp; omega)]
  simp [Nat.min_eq_left (Nat.le_of_lt h)]
theorem get_mid {l qs : List Nat} {k : Nat} (h : k < l.length) (h2 : k < (l.take (k + 1) ++ qs).length) : (l.take (k + 1) ++ qs)[k] = l[k] := by
  rw [List.getElem_append_left (by simp; omega)]
  simp

theorem div_loop (d : List Nat) (hd : isBy d) (hdl : d.length = 128) (by_ : Nat) (h0 : 0 < by_) (hby : by_ ≤ 4294967295) : ∀ (n k r : Nat) (qs : List Nat), k < n → k ≤ 128 → r < by_ → isBy qs → k + qs.length = 128 →
    F56_56_9 M n (by_ : Int) (r : Int) ((k : Int) - 1) (nb (d.take k ++ qs)) = some (numR3 (256 ^ k * val 256 qs + (r * 256 ^ k + val 256 (d.take k)) / by_) (((r * 256 ^ k + val 256 (d.take k)) % by_ : Nat) : Int))
  | 0, k, r, qs, h, _, _, _, _ => by omega
  | n + 1, 0, r, qs, h, _, hr, hq, hl => by
    rw [F56_56_9_s, decide_eq_false (by omega), cond_false, List.take_zero, List.nil_append, num_56 _ _ _ qs hq (by omega)]
    have w : IntKind.wrap .u32 (r : Int) = (r : Int) := by rw [wrap_u32]; omega
    rw [w]
    simp only [Nat.pow_zero, Nat.one_mul, Nat.mul_one, val_nil, Nat.add_zero, Nat.div_eq_of_lt hr, Nat.mod_eq_of_lt hr]
  | n + 1, k + 1, r, qs, h, hk, hr, hq, hl => by
    have hid : k < d.length := by omega
    have hdk : d[k] < 256 := hd _ (List.getElem_mem hid)
    have hqd : (256 * r + d[k]) / by_ < 256 := by rw [Nat.div_lt_iff_lt_mul h0]; omega
    have hlen : k < (d.take (k + 1) ++ qs).length := by simp; omega
    obtain ⟨s1, s2⟩ := div_step (b := 256) (by_ := by_) (r := r) (d := d[k]) (k := k) (Q := val 256 qs) (X := val 256 (d.take k)) h0
    have ih := div_loop d hd hdl by_ h0 hby n k ((256 * r + d[k]) % by_) ((256 * r + d[k]) / by_ :: qs) (by omega) (by omega) (Nat.mod_lt _ h0) (fun x hx => by
      rcases List.mem_cons.1 hx with rfl | hx
      · exact hqd
      · exact hq x hx) (by simp; omega)
    rw [val_take_succ d hid, s1, s2, ← val_cons, ← ih, F56_56_9_s]
    have ei : ((k + 1 : Nat) : Int) - 1 = (k : Int) := by omega
    have e0 : (0 : Int) ≤ (k : Int) ∧ (k : Int) < 128 := by omega
    have w1 : IntKind.wrap .u64 (d[k] : Int) = ((d[k] : Nat) : Int) := by rw [wrap_u64]; omega
    have w2 : IntKind.wrap .u64 (by_ : Int) = (by_ : Int) := by rw [wrap_u64]; omega
    have hor := or_byte_u (a := r) (b := d[k]) hdk (by omega)
    have hcomm : r * 256 + d[k] = 256 * r + d[k] := by omega
    rw [hcomm] at hor
    have w3 : IntKind.wrap .u64 (Int.tdiv ((256 * r + d[k] : Nat) : Int) (by_ : Int)) = (((256 * r + d[k]) / by_ : Nat) : Int) := by
      rw [Int.tdiv_eq_ediv_of_nonneg (by omega), ← Int.natCast_ediv, wrap_u64]
      exact (show ∀ q : Nat, q < 256 → ((q : Nat) : Int) % 18446744073709551616 = (q : Int) from fun q hq => by omega) _ hqd
    have w4 : Int.tmod ((256 * r + d[k] : Nat) : Int) (by_ : Int) = (((256 * r + d[k]) % by_ : Nat) : Int) := by rw [Int.tmod_eq_emod_of_nonneg (by omega)]; exact (Int.natCast_emod _ _).symm
    have w5 : IntKind.wrap .u8 (((256 * r + d[k]) / by_ : Nat) : Int) = (((256 * r + d[k]) / by_ : Nat) : Int) := by
      rw [wrap_u8]
      exact (show ∀ q : Nat, q < 256 → ((q : Nat) : Int) % 256 = (q : Int) from fun q hq => by omega) _ hqd
    have w6 : IntKind.wrap .i64 ((k : Int) - 1) = (k : Int) - 1 := wrap_i64 (by omega) (by omega)
    rw [ei, decide_eq_true (by omega), cond_true, if_pos e0, rd_blk hlen, Option.bind_some, get_mid hid hlen, w2, if_neg (by omega), if_pos e0, show 0 + Int.toNat (k : Int) * 1 = k by omega, if_pos ⟨rfl, by omega⟩, if_neg (by omega), hor, w3, w4, w5, w6, nb_set, take_set_mid hid]

/-- nats.Div. -/
theorem sp56_eq (a : List Nat) (n : Nat) (hn : n = a.length) (ac : Option Nat) (ha : isN a) (by_ : Nat) (hby : by_ ≤ 4294967295) : sp56 [.list n ac (nb a), .v (.int .u32 (by_ : Int))] = some (if by_ = 0 then .tup [.list 0 (some 0) [], .v (.int .u32 0), .v (.int .i64 1)] else .tup [.list (byt (valBE a / by_)).length (some (byt (valBE a / by_)).length) (nb (byt (valBE a / by_))), .v (.int .u32 ((valBE a % by_ : Nat) : Int)), .v (.int .i64 0)]) := by
  subst hn
  have hal := ha.len
  simp only [sp56, F56]
  rw [sp68_eq a _ rfl, ha.check]
  simp only [Option.bind_some, rdI64]
  rw [show ((0 : Int) != 0) = false from rfl, cond_false]
  by_cases h0 : by_ = 0
  · subst h0; rfl
  · rw [if_neg h0, show ((by_ : Int) == 0) = false by simp <;> omega, cond_false, sp84_eq a _ rfl ac ha.by_ (by omega)]
    simp only [Option.bind_some, rdA]
    rw [if_pos (by simp; omega)]
    have := div_loop (a.reverse ++ List.replicate (128 - a.length) 0) (ofBlk_isBy ha.by_ _) (by simp; omega) by_ (by omega) hby M 128 0 [] (by unfold M; omega) (by omega) (by omega) (by intro x hx; cases hx) (by simp)
    rw [List.take_of_length_le (by simp; omega), List.append_nil, ofBlk_val] at this
    simp only [Nat.zero_mul, Nat.zero_add, val_nil, Nat.mul_zero] at this
    refine Eq.trans this ?_
    have hq : valBE a / by_ < lim := Nat.lt_of_le_of_lt (Nat.div_le_self _ _) ha.lt
    rw [numR3, if_pos hq]

/-! ### Reverse in place -/
def swp (l : List Nat) (i : Nat) : List Nat := (List.range l.length).map fun t => if t < i ∨ l.length ≤ t + i then l.getD (l.length - 1 - t) 0 else l.getD t 0
theorem swp_length (l : List Nat) (i : Nat) : (swp l i).length = l.length := by simp [swp]
theorem swp_get (l : List Nat) (i t : Nat) (h : t < (swp l i).length) : (swp l i)[t] = if t < i ∨ l.length ≤ t + i then l.getD (l.length - 1 - t) 0 else l.getD t 0 := by simp [swp]
theorem swp_zero (l : List Nat) : swp l 0 = l := by
  apply List.ext_getElem (swp_length l 0)
  intro t h1 h2
  rw [swp_get, if_neg (by omega)]
  simp [List.getD, List.getElem?_eq_getElem h2]
theorem swp_end (l : List Nat) (i : Nat) (h : l.length ≤ 2 * i + 1) : swp l i = l.reverse := by
  apply List.ext_getElem (by simp [swp_length])
  intro t h1 h2
  rw [swp_length] at h1
  rw [swp_get, List.getElem_reverse]
  have e : l.getD (l.length - 1 - t) 0 = l[l.length - 1 - t]'(by omega) := by simp [List.getD, List.getElem?_eq_getElem (show l.length - 1 - t < l.length by omega)]
  split
  · exact e
  · rename_i hn
    have e2 : l.getD t 0 = l[t] := by simp [List.getD, List.getElem?_eq_getElem h1]
    have e3 : ∀ (s : Nat) (hs : s < l.length), s = t → l[s] = l[t] := fun s hs he => by subst he; rfl
    rw [e2]
    exact (e3 _ _ (by omega)).symm
theorem swp_step (l : List Nat) (i x y : Nat) (h : 2 * i + 1 < l.length) (hx : x = l.getD i 0) (hy : y = l.getD (l.length - 1 - i) 0) :
    ((swp l i).set i y).set (l.length - 1 - i) x = swp l (i + 1) := by
  apply List.ext_getElem (by simp [swp_length])
  intro t h3 h4
  rw [swp_length] at h4
  rw [List.getElem_set, List.getElem_set, swp_get, swp_get]
  by_cases g1 : l.length - 1 - i = t
  · rw [if_pos g1, if_pos (by omega), hx]
    congr 1; omega
  · rw [if_neg g1]
    by_cases g2 : i = t
    · rw [if_pos g2, if_pos (by omega), hy]
      congr 1; omega
    · rw [if_neg g2]
      by_cases g3 : t < i ∨ l.length ≤ t + i
      · rw [if_pos g3, if_pos (by omega)]
      · rw [if_neg g3, if_neg (by omega)]

theorem rev_58 (y0 : Int) (y1 : Nat) (l : List Nat) (hl : l.length ≤ 1000000) : ∀ (n i : Nat), l.length - i < n → i ≤ l.length →
    ∃ n' p q, F58_89_1 M n y0 y1 l.length (i : Int) ((l.length : Int) - 1 - (i : Int)) l.length (nb (swp l i)) = F58_89_1 M (n' + 1) y0 y1 l.length p q l.length (nb l.reverse) ∧ ¬ p < q
  | 0, i, h, _ => by omega
  | n + 1, i, h, hi => by
    by_cases hlt : 2 * i + 1 < l.length
    · have h1 : i < (swp l i).length := by rw [swp_length]; omega
      have h2 : l.length - 1 - i < (swp l i).length := by rw [swp_length]; omega
      have ej : (l.length : Int) - 1 - (i : Int) = ((l.length - 1 - i : Nat) : Int) := by omega
      have w1 : IntKind.wrap .i64 ((i : Int) + 1) = ((i + 1 : Nat) : Int) := wrap_of (by simp) (by omega)
      have w2 : IntKind.wrap .i64 (((l.length - 1 - i : Nat) : Int) - 1) = (l.length : Int) - 1 - ((i + 1 : Nat) : Int) := by rw [wrap_i64 (by omega) (by omega)]; omega
      obtain ⟨n', p, q, ih, hpq⟩ := rev_58 y0 y1 l hl n (i + 1) (by omega) (by omega)
      refine ⟨n', p, q, ?_, hpq⟩
      rw [← ih, F58_89_1_s, ej, decide_eq_true (by omega), cond_true, if_pos (by omega), rd_blk h2, Option.bind_some, if_pos (by omega), rd_blk h1, Option.bind_some, if_pos (by omega), show 0 + Int.toNat (i : Int) * 1 = i by omega, if_pos ⟨rfl, by omega⟩, if_pos (by omega), show 0 + Int.toNat ((l.length - 1 - i : Nat) : Int) * 1 = l.length - 1 - i by omega, if_pos ⟨rfl, by omega⟩, w1, w2, nb_set, nb_set, swp_step l i _ _ hlt (by rw [swp_get, if_neg (by omega)]) (by rw [swp_get, if_neg (by omega)])]
    · refine ⟨n, (i : Int), (l.length : Int) - 1 - (i : Int), ?_, by omega⟩
      rw [swp_end l i (by omega)]

theorem rev_62 (y0 : Nat) (y1 : Option Nat) (y2 : List D) (y3 : Nat) (l : List Nat) (hl : l.length ≤ 1000000) : ∀ (n i : Nat), l.length - i < n → i ≤ l.length →
    ∃ n' p q, F62_89_1 M n y0 y1 y2 y3 l.length (i : Int) ((l.length : Int) - 1 - (i : Int)) l.length (nb (swp l i)) = F62_89_1 M (n' + 1) y0 y1 y2 y3 l.length p q l.length (nb l.reverse) ∧ ¬ p < q
  | 0, i, h, _ => by omega
  | n + 1, i, h, hi => by
    by_cases hlt : 2 * i + 1 < l.length
    · have h1 : i < (swp l i).length := by rw [swp_length]; omega
      have h2 : l.length - 1 - i < (swp l i).length := by rw [swp_length]; omega
      have ej : (l.length : Int) - 1 - (i : Int) = ((l.length - 1 - i : Nat) : Int) := by omega
      have w1 : IntKind.wrap .i64 ((i : Int) + 1) = ((i + 1 : Nat) : Int) := wrap_of (by simp) (by omega)
      have w2 : IntKind.wrap .i64 (((l.length - 1 - i : Nat) : Int) - 1) = (l.length : Int) - 1 - ((i + 1 : Nat) : Int) := by rw [wrap_i64 (by omega) (by omega)]; omega
      obtain ⟨n', p, q, ih, hpq⟩ := rev_62 y0 y1 y2 y3 l hl n (i + 1) (by omega) (by omega)
      refine ⟨n', p, q, ?_, hpq⟩
      rw [← ih, F62_89_1_s, ej, decide_eq_true (by omega), cond_true, if_pos (by omega), rd_blk h2, Option.bind_some, if_pos (by omega), rd_blk h1, Option.bind_some, if_pos (by omega), show 0 + Int.toNat (i : Int) * 1 = i by omega, if_pos ⟨rfl, by omega⟩, if_pos (by omega), show 0 + Int.toNat ((l.length - 1 - i : Nat) : Int) * 1 = l.length - 1 - i by omega, if_pos ⟨rfl, by omega⟩, w1, w2, nb_set, nb_set, swp_step l i _ _ hlt (by rw [swp_get, if_neg (by omega)]) (by rw [swp_get, if_neg (by omega)])]
    · refine ⟨n, (i : Int), (l.length : Int) - 1 - (i : Int), ?_, by omega⟩
      rw [swp_end l i (by omega)]

/-! ### Of -/
theorem of_bytes : ∀ (n v : Nat) (o : List Nat), (dig 256 v).length < n → o.length + (dig 256 v).length ≤ 100000 → v < 18446744073709551616 →
    F58_58_2 M n (v : Int) o.length o.length (nb o) = F58_89_1 M M 0 (o ++ dig 256 v).length (o ++ dig 256 v).length 0 (((o ++ dig 256 v).length : Int) - 1) (o ++ dig 256 v).length (nb (o ++ dig 256 v))
  | 0, v, o, h, _, _ => by omega
  | n + 1, v, o, h, hl, hv => by
    rw [F58_58_2_s]
    by_cases h0 : v = 0
    · subst h0
      have w : IntKind.wrap .i64 ((o.length : Int) - 1) = (o.length : Int) - 1 := wrap_i64 (by omega) (by omega)
      rw [decide_eq_false (by omega), cond_false, dig_zero, List.append_nil, w]
      rfl
    · have hd := dig_pos (b := 256) (by omega) h0
      rw [hd, List.length_cons] at h hl
      have w1 : Int.fdiv (v : Int) (2 ^ 8) = ((v / 256 : Nat) : Int) := by rw [Int.fdiv_eq_ediv_of_nonneg _ (by decide)]; omega
      have w2 : IntKind.wrap .u8 (v : Int) = ((v % 256 : Nat) : Int) := by rw [wrap_u8]; omega
      have ih := of_bytes n (v / 256) (o ++ [v % 256]) (by omega) (by simp; omega) (by omega)
      rw [List.append_assoc, List.singleton_append, ← hd] at ih
      rw [decide_eq_true (by omega), cond_true, if_pos ⟨Nat.le_refl _, by omega, fits_len (by omega) (by omega), rfl⟩, w1, w2, ← ih]
      simp [nb_append, nb]
/-- nats.Of. -/
theorem sp58_eq (v : Nat) (hv : v < 18446744073709551616) : sp58 [.v (.int .u64 (v : Int))] = some (.list (byt v).length (some (byt v).length) (nb (byt v))) := by
  have hl : (dig 256 v).length ≤ 8 := (dig_length_le (by omega) v 8).2 (by omega)
  have h1 := of_bytes M v [] (by unfold M; omega) (by simp; omega) hv
  simp only [List.nil_append, List.length_nil, nb_nil] at h1
  simp only [sp58, F58]
  rw [h1]
  obtain ⟨n', p, q, h2, hpq⟩ := rev_58 0 (dig 256 v).length (dig 256 v) (by omega) M 0 (by unfold M; omega) (by omega)
  rw [swp_zero] at h2
  have e : ((dig 256 v).length : Int) - 1 - ((0 : Nat) : Int) = ((dig 256 v).length : Int) - 1 := by omega
  rw [e] at h2
  refine Eq.trans h2 ?_
  rw [F58_89_1_s, decide_eq_false hpq, cond_false, if_pos (by omega), if_pos (by omega), if_pos (by omega)]
  have : Int.toNat ((dig 256 v).length : Int) - 0 = (dig 256 v).length := by omega
  rw [this, Nat.mul_one, cutL_all (by simp)]
  simp [byt]

/-! ### Uint -/
theorem uint_loop (l : List Nat) (c : Option Nat) (hb : isBy l) (hl : l.length ≤ 8) : ∀ (n i : Nat), l.length - i < n → i ≤ l.length →
    F69_69_8 M n ((valBE (l.take i) : Nat) : Int) l.length c (nb l) (l.length : Int) (i : Int) = some (.tup [.v (.int .u64 ((valBE l : Nat) : Int)), .v (.int .i64 0)])
  | 0, i, h, _ => by omega
  | n + 1, i, h, hi => by
    rw [F69_69_8_s]
    by_cases hlt : i < l.length
    · have e0 : (0 : Int) ≤ (i : Int) ∧ (i : Int) < (l.length : Int) := by omega
      have hx : l[i] < 256 := hb _ (List.getElem_mem hlt)
      have hv := valBE_lt (l.take i) (isBy_take hb i)
      rw [List.length_take, Nat.min_eq_left (by omega)] at hv
      have hp : 256 ^ i ≤ 256 ^ 7 := Nat.pow_le_pow_right (by omega) (by omega)
      have w3 : IntKind.wrap .i64 ((i : Int) + 1) = ((i + 1 : Nat) : Int) := wrap_of (by simp) (by omega)
      rw [decide_eq_true e0.2, cond_true, if_pos e0, show Int.toNat (i : Int) * 1 = i by omega, rdI_nb_lt hlt, Option.bind_some, or_byte_u hx (by omega), w3]
      have := uint_loop l c hb hl n (i + 1) (by omega) (by omega)
      rw [List.take_succ_eq_append_getElem hlt, valBE_concat, Nat.add_comm, Nat.mul_comm] at this
      exact this
    · rw [decide_eq_false (by omega), cond_false, List.take_of_length_le (by omega)]
theorem sp69_eq (l : List Nat) (n : Nat) (hn : n = l.length) (c : Option Nat) (h : isN l) : sp69 [.list n c (nb l)] = some (if l.length ≤ 8 then .tup [.v (.int .u64 ((valBE l : Nat) : Int)), .v (.int .i64 0)] else .tup [.v (.int .u64 0), .v (.int .i64 3)]) := by
  subst hn
  simp only [sp69, F69]
  rw [sp68_eq l _ rfl, h.check]
  simp only [Option.bind_some, rdI64]
  rw [show ((0 : Int) != 0) = false from rfl, cond_false]
  by_cases h8 : l.length ≤ 8
  · rw [decide_eq_false (by omega), cond_false, if_pos h8]
    exact uint_loop l c h.by_ h8 M 0 (by unfold M; omega) (by omega)
  · rw [decide_eq_true (by omega), cond_true, if_neg h8]
theorem sp69_bad (l : List Nat) (n : Nat) (hn : n = l.length) (c : Option Nat) (h : checkN l ≠ 0) : sp69 [.list n c (nb l)] = some (.tup [.v (.int .u64 0), .v (.int .i64 (checkN l))]) := by
  simp only [sp69, F69]
  rw [sp68_eq l _ hn]
  simp only [Option.bind_some, rdI64]
  rw [show (checkN l != 0) = true by simp [h], cond_true]

/-! ### Pow -/
theorem pow_ge (v a b q : Nat) (h2 : 2 ≤ v) (h : a * b ≤ q) : (2 ^ a) ^ b ≤ v ^ q := by
  rw [← Nat.pow_mul]
  exact Nat.le_trans (Nat.pow_le_pow_left h2 _) (Nat.pow_le_pow_right (by omega) h)
theorem pow_loop (a : List Nat) (ac : Option Nat) (ha : isN a) (K : Nat) (hK : K ≤ 512) (h2 : 2 ≤ valBE a) : ∀ (n i : Nat), K - i < n → i ≤ K → valBE a ^ i < lim →
    F59_59_12 M n a.length ac (nb a) (byt (valBE a ^ i)).length (some (byt (valBE a ^ i)).length) (nb (byt (valBE a ^ i))) (K : Int) (i : Int) = some (numR (valBE a ^ K))
  | 0, i, h, _, _ => by omega
  | n + 1, i, h, hi, hlt => by
    rw [F59_59_12_s]
    by_cases hik : i < K
    · have hm := sp55_eq (byt (valBE a ^ i)) a _ _ rfl rfl (some (byt (valBE a ^ i)).length) ac (isN_byt hlt) ha
      rw [valBE_byt, ← Nat.pow_succ] at hm
      rw [decide_eq_true (by omega), cond_true, hm]
      simp only [Option.bind_some]
      by_cases ho : valBE a ^ (i + 1) < lim
      · have w3 : IntKind.wrap .i64 ((i : Int) + 1) = ((i + 1 : Nat) : Int) := wrap_of (by simp) (by omega)
        rw [show numR (valBE a ^ (i + 1)) = .tup [.list (byt (valBE a ^ (i + 1))).length (some (byt (valBE a ^ (i + 1))).length) (nb (byt (valBE a ^ (i + 1)))), .v (.int .i64 0)] from if_pos ho]
        simp only [Option.bind_some, rdT, List.length_cons, List.length_nil, List.getElem?_cons_zero, List.getElem?_cons_succ, rdI64, rdL, if_true, w3]
        rw [show ((0 : Int) != 0) = false from rfl, cond_false]
        exact pow_loop a ac ha K hK h2 n (i + 1) (by omega) (by omega) ho
      · have hge : valBE a ^ (i + 1) ≤ valBE a ^ K := Nat.pow_le_pow_right (by omega) (by omega)
        rw [show numR (valBE a ^ (i + 1)) = .tup [.list 0 (some 0) [], .v (.int .i64 3)] from if_neg ho, show numR (valBE a ^ K) = .tup [.list 0 (some 0) [], .v (.int .i64 3)] from if_neg (by omega)]
        rfl
    · have : i = K := by omega
      subst this
      rw [decide_eq_false (by omega), cond_false, numR, if_pos hlt]

/-- nats.Pow. -/
theorem sp59_eq (a : List Nat) (n : Nat) (hn : n = a.length) (ac : Option Nat) (ha : isN a) (k : Nat) (hk : k < 9223372036854775808) : sp59 [.list n ac (nb a), .v (.int .i64 (k : Int))] = some (numR (valBE a ^ k)) := by
  subst hn
  have hal := ha.len
  simp only [sp59, F59]
  rw [sp68_eq a _ rfl, ha.check]
  simp only [Option.bind_some, rdI64]
  rw [show ((0 : Int) != 0) = false from rfl, cond_false, decide_eq_false (show ¬ ((k : Int) < 0) by omega), cond_false]
  have one : byt 1 = [1] := by rw [byt_pos (by omega), show 1 / 256 = 0 from rfl, byt_zero]; rfl
  by_cases h0 : k = 0
  · subst h0
    rw [show (((0 : Nat) : Int) == 0) = true from rfl, cond_true, Nat.pow_zero, numR, if_pos (by unfold lim; decide), one]
    rfl
  · rw [show ((k : Int) == 0) = false by simp <;> omega, cond_false]
    obtain ⟨c, h90⟩ := sp90_eq a _ rfl (by omega) ac
    have clone : valBE a ^ k = valBE a → (((sp90 [.list a.length ac (nb a)]).bind fun d3 =>
 (rdL (some d3)).bind fun q4 =>
 if 0 ≤ ((q4.n : Nat) : Int) ∧ ((q4.n : Nat) : Int) ≤ ((q4.n : Nat) : Int) then
 if 0 ≤ ((q4.n : Nat) : Int) ∧ ((q4.n : Nat) : Int) ≤ (((Int.toNat ((q4.n : Nat) : Int)) : Nat) : Int) then
 some (D.tup [(D.list ((Int.toNat ((q4.n : Nat) : Int)) - 0) (some ((Int.toNat ((q4.n : Nat) : Int)) - 0)) ((List.drop 0 q4.cs).take (((Int.toNat ((q4.n : Nat) : Int)) - 0) * 1))), (D.v (.int .i64 (0 : Int)))])
 else none
 else none) : Option D) = some (numR (valBE a ^ k)) := fun he => by
      rw [h90, he, numR, if_pos ha.lt, ha.eq]
      simp only [Option.bind_some, rdL]
      rw [if_pos (by omega), if_pos (by omega), clip_eq _ rfl]
      simp
    have big : 2 ≤ valBE a → F59_59_j10 M a.length ac (nb a) (k : Int) = some (numR (valBE a ^ k)) := fun h2 => by
      rw [F59_59_j10_e]
      have hmm : mm true (k : Int) 512 = ((min k 512 : Nat) : Int) := by unfold mm; simp; omega
      rw [hmm]
      have hl1 : valBE a ^ 0 < lim := by rw [Nat.pow_zero]; unfold lim; decide
      have := pow_loop a ac ha (min k 512) (by omega) h2 M 0 (by unfold M; omega) (by omega) hl1
      rw [Nat.pow_zero, one] at this
      refine Eq.trans this ?_
      clear this
      have hpos : 0 < valBE a := by omega
      have hgen : ∀ q, 512 ≤ q → lim ≤ valBE a ^ q := fun q hq => pow_ge (valBE a) 8 64 q h2 hq
      have hmin : min k 512 = k ∨ (512 ≤ min k 512 ∧ 512 ≤ k) := by omega
      revert hmin
      generalize min k 512 = K
      intro hmin
      rcases hmin with h | ⟨h, h'⟩
      · rw [h]
      · rw [numR, numR, if_neg (Nat.not_lt.2 (hgen K h)), if_neg (Nat.not_lt.2 (hgen k h'))]
    match a, ha, hal, clone, big with
    | [], ha, hal, clone, big =>
      rw [show ((([] : List Nat).length : Int) == 0) = true from rfl, cond_true]
      exact clone (by rw [valBE_nil]; exact Nat.zero_pow (by omega))
    | [x], ha, hal, clone, big =>
      have hx : rdI .u8 (nb [x])[0]? = some (x : Int) := rfl
      have hv : valBE [x] = x := by simp [valBE]
      rw [show ((([x] : List Nat).length : Int) == 0) = false from rfl, cond_false, show ((([x] : List Nat).length : Int) == 1) = true from rfl, cond_true, if_pos (by simp), hx, Option.bind_some]
      by_cases h1 : x = 1
      · subst h1
        rw [show (((1 : Nat) : Int) == 1) = true from rfl, cond_true]
        exact clone (by rw [hv, Nat.one_pow])
      · have hx0 : x ≠ 0 := fun h => by subst h; exact ha.head rfl
        rw [show ((x : Int) == 1) = false by simp <;> omega, cond_false]
        exact big (by rw [hv]; omega)
    | x :: y :: r, ha, hal, clone, big =>
      have hx0 : x ≠ 0 := fun h => by subst h; exact ha.head rfl
      rw [show (((x :: y :: r).length : Int) == 0) = false by simp <;> omega, cond_false, show (((x :: y :: r).length : Int) == 1) = false by simp <;> omega, cond_false]
      refine big ?_
      rw [valBE_cons, List.length_cons, Nat.pow_succ]
      have h1 : 1 ≤ 256 ^ r.length := Nat.pow_pos (by omega)
      have h2 : 1 * 256 ≤ x * (256 ^ r.length * 256) := Nat.mul_le_mul (by omega) (by omega)
      omega
end Go.Ev
