/-
  The reference's digits, second part: Divide and Bytes in terms of numbers.
-/
import Derived.Test.YtilgfaangfbndaaDoorEvN2
set_option linter.unusedSimpArgs false
set_option linter.unusedVariables false
set_option maxRecDepth 100000
namespace Go.Ev
open Go

theorem replicate_set {k q : Nat} (qs : List Nat) : (List.replicate (k + 1) 0 ++ qs).set k q = List.replicate k 0 ++ q :: qs := by
  induction k with
  | zero => rfl
  | succ k ih =>
    rw [List.replicate_succ, List.cons_append, List.set_cons_succ, ih, List.replicate_succ, List.cons_append]
theorem val_replicate (b : Nat) : ∀ (k : Nat) (l : List Nat), val b (List.replicate k 0 ++ l) = b ^ k * val b l
  | 0, l => by simp
  | k + 1, l => by rw [List.replicate_succ, List.cons_append, val_cons, val_replicate b k l, Nat.pow_succ, Nat.zero_add, Nat.mul_comm (b ^ k) b, Nat.mul_assoc]
theorem val_take_succ {b : Nat} (l : List Nat) {k : Nat} (h : k < l.length) : val b (l.take (k + 1)) = val b (l.take k) + b ^ k * l[k] := by
  rw [List.take_succ_eq_append_getElem h, val_append, List.length_take, Nat.min_eq_left (by omega)]
  simp
/-- One digit of a division. -/
theorem div_step {b by_ r d k Q X : Nat} (hby : 0 < by_) :
    b ^ (k + 1) * Q + (r * b ^ (k + 1) + (X + b ^ k * d)) / by_ = b ^ k * ((b * r + d) / by_ + b * Q) + ((b * r + d) % by_ * b ^ k + X) / by_ ∧
    (r * b ^ (k + 1) + (X + b ^ k * d)) % by_ = ((b * r + d) % by_ * b ^ k + X) % by_ := by
  have e : r * b ^ (k + 1) + (X + b ^ k * d) = by_ * (b ^ k * ((b * r + d) / by_)) + ((b * r + d) % by_ * b ^ k + X) := by
    have h1 : r * b ^ (k + 1) + b ^ k * d = b ^ k * (b * r + d) := by
      rw [Nat.mul_add, Nat.pow_succ, Nat.mul_comm r, Nat.mul_assoc]
    have h2 : b ^ k * (b * r + d) = by_ * (b ^ k * ((b * r + d) / by_)) + (b * r + d) % by_ * b ^ k := by
      conv => lhs; rw [← Nat.div_add_mod (b * r + d) by_]
      rw [Nat.mul_add, Nat.mul_left_comm, Nat.mul_comm (b ^ k) ((b * r + d) % by_)]
    omega
  rw [e, Nat.mul_add_div hby, Nat.mul_add_mod]
  refine ⟨?_, rfl⟩
  rw [Nat.mul_add, Nat.pow_succ, Nat.mul_assoc]
  omega

theorem divide_loop (m : Nat) (a : List Nat) (ac : Option Nat) (ha : dig10 a) (hl : a.length ≤ 1000000) (by_ : Nat) (hby0 : 0 < by_) (hby : by_ ≤ 4294967296) : ∀ (n k r : Nat) (qs : List Nat), k < n → r < by_ → dig10 qs → k + qs.length = a.length →
    ∃ c, F57_57_4 m n a.length ac (nd a) (by_ : Int) a.length (r : Int) ((k : Int) - 1) a.length (nd (List.replicate k 0 ++ qs)) =
      some (.tup [.list (dig 10 (10 ^ k * val 10 qs + (r * 10 ^ k + val 10 (a.take k)) / by_)).length c (nd (dig 10 (10 ^ k * val 10 qs + (r * 10 ^ k + val 10 (a.take k)) / by_))), .v (.int .i64 (((r * 10 ^ k + val 10 (a.take k)) % by_ : Nat) : Int))])
  | 0, k, r, qs, h, _, _, _ => by omega
  | n + 1, 0, r, qs, h, hr, hq, hlen => by
    refine ⟨some a.length, ?_⟩
    rw [F57_57_4_s, decide_eq_false (by omega), cond_false]
    have e0 : (nd (List.replicate 0 0 ++ qs)).length = a.length := by simp; omega
    have hs := sp88_eq qs (some a.length) a.length (by omega) (by omega)
    simp only [List.replicate_zero, List.nil_append, Nat.mul_one, Nat.zero_add, Nat.le_refl, if_true] at e0 ⊢
    rw [cutL_all e0, hs]
    simp only [Option.bind_some, rdL, trim10 hq, Nat.pow_zero, Nat.one_mul, Nat.mul_one, List.take_zero, val_nil, Nat.add_zero, Nat.div_eq_of_lt hr, Nat.mod_eq_of_lt hr]
  | n + 1, k + 1, r, qs, h, hr, hq, hlen => by
    have hk : k < a.length := by omega
    have hd : a[k] < 10 := ha _ (List.getElem_mem hk)
    have hqd : (10 * r + a[k]) / by_ < 10 := by rw [Nat.div_lt_iff_lt_mul hby0]; omega
    obtain ⟨c, ih⟩ := divide_loop m a ac ha hl by_ hby0 hby n k ((10 * r + a[k]) % by_) ((10 * r + a[k]) / by_ :: qs) (by omega) (Nat.mod_lt _ hby0) (fun x hx => by
      rcases List.mem_cons.1 hx with rfl | hx
      · exact hqd
      · exact hq x hx) (by simp; omega)
    refine ⟨c, ?_⟩
    obtain ⟨s1, s2⟩ := div_step (b := 10) (by_ := by_) (r := r) (d := a[k]) (k := k) (Q := val 10 qs) (X := val 10 (a.take k)) hby0
    rw [val_take_succ a hk, s1, s2, ← val_cons]
    rw [← ih, F57_57_4_s]
    have ei : ((k + 1 : Nat) : Int) - 1 = (k : Int) := by omega
    have e0 : (0 : Int) ≤ (k : Int) ∧ (k : Int) < (a.length : Int) := by omega
    have en : ¬ (by_ : Int) = 0 := by omega
    have w1 : IntKind.wrap .i64 ((10 : Int) * (r : Int)) = ((10 * r : Nat) : Int) := wrap_of (by simp) (by omega)
    have w2 : IntKind.wrap .i64 (((10 * r : Nat) : Int) + (a[k] : Int)) = ((10 * r + a[k] : Nat) : Int) := wrap_of (by simp) (by omega)
    have w3 : IntKind.wrap .i64 (Int.tdiv ((10 * r + a[k] : Nat) : Int) (by_ : Int)) = (((10 * r + a[k]) / by_ : Nat) : Int) := wrap_of (by rw [Int.tdiv_eq_ediv_of_nonneg (by omega)]; exact (Int.natCast_ediv _ _).symm) (by omega)
    have w4 : Int.tmod ((10 * r + a[k] : Nat) : Int) (by_ : Int) = (((10 * r + a[k]) % by_ : Nat) : Int) := by rw [Int.tmod_eq_emod_of_nonneg (by omega)]; exact (Int.natCast_emod _ _).symm
    have w5 : IntKind.wrap .i64 ((k : Int) - 1) = (k : Int) - 1 := wrap_i64 (by omega) (by omega)
    rw [ei, decide_eq_true (by omega), cond_true, if_pos e0, show Int.toNat (k : Int) * 1 = k by omega, rdI_nd_lt hk]
    simp only [Option.bind_some]
    rw [if_neg en, if_pos e0, Nat.zero_add, if_pos ⟨trivial, hk⟩, if_neg en, w1, w2, w3, w4, w5, nd_set, replicate_set]

theorem flat_zeros (n : Nat) : (List.replicate n [D.v (.int .i64 (0 : Int))]).flatten = nd (List.replicate n 0) := by
  induction n with
  | zero => rfl
  | succ n ih => rw [List.replicate_succ, List.flatten_cons, ih, List.replicate_succ, nd_cons]; rfl

theorem sp57_eq (a : List Nat) (ac : Option Nat) (n : Nat) (hn : n = a.length) (ha : dig10 a) (hl : a.length ≤ 1000000) (by_ : Nat) (hby0 : 0 < by_) (hby : by_ ≤ 4294967296) :
    ∃ c, sp57 [.list n ac (nd a), .v (.int .i64 (by_ : Int))] = some (.tup [.list (dig 10 (val 10 a / by_)).length c (nd (dig 10 (val 10 a / by_))), .v (.int .i64 ((val 10 a % by_ : Nat) : Int))]) := by
  subst hn
  obtain ⟨c, h⟩ := divide_loop M a ac ha hl by_ hby0 hby M a.length 0 [] (by unfold M; omega) hby0 (by intro x hx; cases hx) (by simp)
  refine ⟨c, ?_⟩
  simp only [Nat.zero_mul, Nat.zero_add, val_nil, Nat.mul_zero, List.take_length, List.append_nil] at h
  simp only [sp57, F57, Int.toNat_natCast, Nat.mul_one, flat_zeros]
  rw [if_pos ⟨by omega, by omega, fits_len (by omega) (by omega)⟩]
  have w : IntKind.wrap .i64 ((a.length : Int) - 1) = (a.length : Int) - 1 := wrap_i64 (by omega) (by omega)
  rw [w]
  exact h

/-! ### Bytes -/
theorem byt_pos {v : Nat} (h : v ≠ 0) : byt v = byt (v / 256) ++ [v % 256] := by rw [byt, dig_pos (by omega) h]; simp [byt]
theorem dig_div_len {b v : Nat} (hb : 2 ≤ b) (q : Nat) (h : q ≤ v) : (dig b q).length ≤ (dig b v).length := by
  rw [dig_length_le hb]
  exact Nat.lt_of_le_of_lt h ((dig_length_le hb v _).1 (Nat.le_refl _))

theorem bytes_loop (m : Nat) : ∀ (n v : Nat) (o : List Nat) (c c' : Option Nat), (byt v).length < n → (dig 10 v).length ≤ 1000000 → o.length + (byt v).length ≤ 1000000 → (o = [] → c' = some 0) →
    ∃ c'', F76_76_2 m n (dig 10 v).length c (nd (dig 10 v)) o.length c' (nb o) = some (.list (byt v ++ o).length c'' (nb (byt v ++ o)))
  | 0, v, o, c, c', h, _, _, _ => by omega
  | n + 1, v, o, c, c', h, h10, hl, hc => by
    by_cases hv : v = 0
    · subst hv
      refine ⟨c', ?_⟩
      rw [F76_76_2_s, dig_zero, byt_zero]
      simp
    · have hp := byt_pos hv
      have hl1 : (byt v).length = (byt (v / 256)).length + 1 := by rw [hp]; simp
      have hlen : 0 < (dig 10 v).length := by rw [dig_pos (by omega) hv]; simp
      obtain ⟨q, hq⟩ := sp57_eq (dig 10 v) c _ rfl (dig10_dig v) h10 256 (by omega) (by omega)
      rw [val_dig (by omega)] at hq
      have hw : IntKind.wrap .u8 ((v % 256 : Nat) : Int) = ((v % 256 : Nat) : Int) := by rw [wrap_u8]; omega
      have hw2 : IntKind.wrap .u8 ((v : Int) % 256) = (v : Int) % 256 := by rw [wrap_u8]; omega
      have h10' : (dig 10 (v / 256)).length ≤ 1000000 := Nat.le_trans (dig_div_len (by omega) _ (Nat.div_le_self _ _)) h10
      have hres : ∀ cc : Option Nat, ∃ c'', F76_76_2 m n (dig 10 (v / 256)).length q (nd (dig 10 (v / 256))) (1 + o.length) cc (nb (v % 256 :: o)) = some (.list (byt v ++ o).length c'' (nb (byt v ++ o))) := fun cc => by
        obtain ⟨c'', ih⟩ := bytes_loop m n (v / 256) (v % 256 :: o) q cc (by omega) h10' (by simp; omega) (by simp)
        refine ⟨c'', ?_⟩
        rw [show 1 + o.length = (v % 256 :: o).length by simp; omega, ih, hp]
        simp
      cases o with
      | nil =>
        obtain ⟨c'', hr⟩ := hres (some 1)
        refine ⟨c'', ?_⟩
        rw [← hr, F76_76_2_s, decide_eq_true (by omega), cond_true, show ((256 : Int)) = ((256 : Nat) : Int) from rfl, hq]
        simp [rdT, rdL, rdI, hw2, cutL, nb]
      | cons x o =>
        obtain ⟨c'', hr⟩ := hres none
        refine ⟨c'', ?_⟩
        rw [← hr, F76_76_2_s, decide_eq_true (by omega), cond_true, show ((256 : Int)) = ((256 : Nat) : Int) from rfl, hq]
        have hno : ¬ 1 + (x :: o).length ≤ 1 := by simp
        have hfit : fitsRow (1 + (x :: o).length) 1 := fits_len (by omega) (by omega)
        have hcut : cutL ((1 + (x :: o).length) * 1) ([D.v (.int .u8 ((v % 256 : Nat) : Int))] ++ nb (x :: o)) 0 ((1 + (x :: o).length) * 1) = nb (v % 256 :: x :: o) := by
          rw [cutL_all (by simp; omega)]; rfl
        simp only [Option.bind_some, rdT, List.length_cons, List.length_nil, if_true, List.getElem?_cons_zero, List.getElem?_cons_succ, rdL, rdI, hw, nb_length, Nat.mul_one]
        simp only [List.length_cons, Nat.mul_one] at hno hfit hcut ⊢
        rw [if_neg hno, if_pos ⟨hfit, trivial⟩, if_pos (by omega), hcut]

theorem sp76_eq (v : Nat) (c : Option Nat) (n : Nat) (hn : n = (dig 10 v).length) (h10 : (dig 10 v).length ≤ 1000000) (hl : (byt v).length ≤ 1000000) :
    ∃ c', sp76 [.list n c (nd (dig 10 v))] = some (.list (byt v).length c' (nb (byt v))) := by
  subst hn
  obtain ⟨c', h⟩ := bytes_loop M M v [] c (some 0) (by unfold M; omega) h10 (by simpa using hl) (fun _ => rfl)
  refine ⟨c', ?_⟩
  simpa [sp76, F76] using h
end Go.Ev
