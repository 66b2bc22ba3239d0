/-
  The reference's digits: trim, scale, Of, Divide, Bytes in terms of numbers. No program but the printed functions in plain form.
-/
import Derived.Test.YtilgfaangfbndaaDoorEvG5
import Derived.Test.YtilgfaangfbndaaDoorEvL
import Derived.Test.YtilgfaangfbndaaDoorEvN
set_option linter.unusedSimpArgs false
set_option linter.unusedVariables false
set_option maxRecDepth 100000
namespace Go.Ev
open Go

/-- Bytes, and whole numbers, as data. -/
def nb (l : List Nat) : List D := l.map fun (x : Nat) => .v (.int .u8 (x : Int))
def nd (l : List Nat) : List D := l.map fun (x : Nat) => .v (.int .i64 (x : Int))
@[simp] theorem nb_length (l : List Nat) : (nb l).length = l.length := by simp [nb]
@[simp] theorem nd_length (l : List Nat) : (nd l).length = l.length := by simp [nd]
@[simp] theorem nb_nil : nb [] = [] := rfl
@[simp] theorem nd_nil : nd [] = [] := rfl
theorem nb_cons (x : Nat) (l : List Nat) : nb (x :: l) = .v (.int .u8 (x : Int)) :: nb l := rfl
theorem nd_cons (x : Nat) (l : List Nat) : nd (x :: l) = .v (.int .i64 (x : Int)) :: nd l := rfl
theorem nb_append (l l' : List Nat) : nb (l ++ l') = nb l ++ nb l' := by simp [nb]
theorem nd_append (l l' : List Nat) : nd (l ++ l') = nd l ++ nd l' := by simp [nd]
theorem nb_drop (l : List Nat) (n : Nat) : (nb l).drop n = nb (l.drop n) := by simp [nb, List.map_drop]
theorem nd_drop (l : List Nat) (n : Nat) : (nd l).drop n = nd (l.drop n) := by simp [nd, List.map_drop]
theorem nb_take (l : List Nat) (n : Nat) : (nb l).take n = nb (l.take n) := by simp [nb, List.map_take]
theorem nd_take (l : List Nat) (n : Nat) : (nd l).take n = nd (l.take n) := by simp [nd, List.map_take]
theorem nb_set (l : List Nat) (n x : Nat) : (nb l).set n (.v (.int .u8 (x : Int))) = nb (l.set n x) := by simp [nb, List.map_set]
theorem nd_set (l : List Nat) (n x : Nat) : (nd l).set n (.v (.int .i64 (x : Int))) = nd (l.set n x) := by simp [nd, List.map_set]
theorem rdI_nb (l : List Nat) (i : Nat) : rdI .u8 (nb l)[i]? = l[i]?.map fun (x : Nat) => (x : Int) := by
  simp only [nb, List.getElem?_map]
  cases l[i]? <;> simp [rdI]
theorem rdI_nd (l : List Nat) (i : Nat) : rdI .i64 (nd l)[i]? = l[i]?.map fun (x : Nat) => (x : Int) := by
  simp only [nd, List.getElem?_map]
  cases l[i]? <;> simp [rdI]
theorem rdI_nb_lt {l : List Nat} {i : Nat} (h : i < l.length) : rdI .u8 (nb l)[i]? = some (l[i] : Int) := by rw [rdI_nb, List.getElem?_eq_getElem h]; rfl
theorem rdI_nd_lt {l : List Nat} {i : Nat} (h : i < l.length) : rdI .i64 (nd l)[i]? = some (l[i] : Int) := by rw [rdI_nd, List.getElem?_eq_getElem h]; rfl
theorem cutL_all {α : Type} {n : Nat} {cs : List α} (h : cs.length = n) : cutL n cs 0 n = cs := by
  rw [cutL_eq h, List.drop_zero, List.take_of_length_le (by omega)]
theorem cap_id (c : Option Nat) : Option.map (fun q => q) c = c := by cases c <;> rfl
theorem cap_sub0 (c : Option Nat) : Option.map (fun q => q - 0) c = c := by cases c <;> rfl
theorem wrap_nat {n : Nat} (h : n < 9223372036854775808) : IntKind.wrap .i64 (n : Int) = (n : Int) := wrap_i64 (by omega) (by omega)
theorem wrap_of {x : Int} {n : Nat} (hx : x = (n : Int)) (h : n < 9223372036854775808) : IntKind.wrap .i64 x = (n : Int) := by subst hx; exact wrap_nat h

/-! ### trim -/
theorem trim_loop (m : Nat) (c : Option Nat) : ∀ (n : Nat) (l : List Nat), l.length < n → l.length ≤ 1000000 → F88_88_1 m n l.length c (nd l) = some (.list (trimZ l).length c (nd (trimZ l)))
  | 0, l, h, _ => by omega
  | n + 1, l, h, hb => by
    rw [F88_88_1_s]
    rcases List.eq_nil_or_concat l with rfl | ⟨l', d, rfl⟩
    · simp [trimZ]
    · simp only [List.concat_eq_append] at h hb ⊢
      have hl : (l' ++ [d]).length = l'.length + 1 := by simp
      have e1 : IntKind.wrap .i64 ((((l' ++ [d]).length : Nat) : Int) - 1) = (l'.length : Int) := wrap_of (by omega) (by omega)
      have e2 : (0 : Int) ≤ (l'.length : Int) ∧ (l'.length : Int) < (((l' ++ [d]).length : Nat) : Int) := by omega
      have e3 : (0 : Int) ≤ (l'.length : Int) ∧ (l'.length : Int) ≤ (((l' ++ [d]).length : Nat) : Int) := by omega
      have e4 : rdI .i64 (nd (l' ++ [d]))[l'.length]? = some (d : Int) := by rw [rdI_nd]; simp
      rw [decide_eq_true (by omega), cond_true, e1, if_pos e2]
      simp only [Int.toNat_natCast, Nat.mul_one, e4, Option.bind_some, if_pos e3, Nat.sub_zero, cap_sub0, List.drop_zero, nd_take]
      rw [trimZ_concat]
      by_cases hd : d = 0
      · subst hd
        rw [if_pos rfl, show (((0 : Nat) : Int) == 0) = true from rfl, cond_true, F88_88_j2_e, e1]
        simp only [if_pos e3, Int.toNat_natCast, Nat.sub_zero, cap_id, List.drop_zero, nd_take, Nat.mul_one]
        rw [List.take_left' rfl]
        exact trim_loop m c n l' (by omega) (by omega)
      · rw [if_neg hd, show ((d : Int) == 0) = false by simp; omega, cond_false]
theorem sp88_eq (l : List Nat) (c : Option Nat) (n : Nat) (hn : n = l.length) (h : l.length ≤ 1000000) : sp88 [.list n c (nd l)] = some (.list (trimZ l).length c (nd (trimZ l))) := by
  subst hn
  simp only [sp88, F88]
  exact trim_loop M c M l (by unfold M; omega) h

/-! ### scale -/
def dig10 (l : List Nat) : Prop := ∀ x, x ∈ l → x < 10
theorem dig10_concat {l : List Nat} (h : dig10 l) {d : Nat} (hd : d < 10) : dig10 (l ++ [d]) := fun x hx => by
  rcases List.mem_append.1 hx with hx | hx
  · exact h x hx
  · simp at hx; omega
theorem trim10 {l : List Nat} (h : dig10 l) : trimZ l = dig 10 (val 10 l) := trimZ_eq (by omega) l h
theorem fits_len {n by_ : Nat} (h : n ≤ 2000000) (hb : by_ ≤ 64) : fitsRow n by_ := by
  have : n * by_ ≤ 2000000 * 64 := Nat.mul_le_mul h hb
  exact ⟨by omega, by omega⟩

theorem carry_loop (m : Nat) : ∀ (n c : Nat) (o : List Nat), c < n → c ≤ 1000000000000 → dig10 o → o.length + (dig 10 c).length ≤ 1000000 →
    F82_82_9 m n o.length (c : Int) o.length (nd o) = some (.list (dig 10 (val 10 o + 10 ^ o.length * c)).length none (nd (dig 10 (val 10 o + 10 ^ o.length * c))))
  | 0, c, o, h, _, _, _ => by omega
  | n + 1, c, o, h, hc, ho, hl => by
    rw [F82_82_9_s]
    by_cases h0 : c = 0
    · subst h0
      rw [dig_zero] at hl
      have := sp88_eq o none o.length rfl (by simpa using hl)
      simp only [Nat.mul_one, cutL_all (nd_length o), this, Nat.zero_add, Nat.le_refl, if_true, Option.bind_some, rdL, trim10 ho, Nat.mul_zero, Nat.add_zero]
      simp
    · have hdd := dig_pos (b := 10) (by omega) h0
      rw [hdd, List.length_cons] at hl
      have e1 : IntKind.wrap .i64 (Int.tdiv (c : Int) 10) = ((c / 10 : Nat) : Int) := wrap_of (by rw [Int.tdiv_eq_ediv_of_nonneg (by omega)]; omega) (by omega)
      have e2 : Int.tmod (c : Int) 10 = ((c % 10 : Nat) : Int) := by rw [Int.tmod_eq_emod_of_nonneg (by omega)]; omega
      rw [decide_eq_true (by omega), cond_true, if_pos ⟨Nat.le_refl _, by omega, fits_len (by omega) (by omega), rfl⟩, e1, e2]
      have ih := carry_loop m n (c / 10) (o ++ [c % 10]) (by omega) (by omega) (dig10_concat ho (by omega)) (by simp; omega)
      have e3 : val 10 (o ++ [c % 10]) + 10 ^ (o ++ [c % 10]).length * (c / 10) = val 10 o + 10 ^ o.length * c := by
        rw [val_append, List.length_append, List.length_singleton, Nat.pow_succ, Nat.mul_assoc, Nat.add_assoc, ← Nat.mul_add]
        congr 2
        simp; omega
      rw [e3] at ih
      rw [← ih]
      simp [nd_append, nd]

theorem val_drop {b : Nat} (l : List Nat) {i : Nat} (h : i < l.length) : val b (l.drop i) = l[i] + b * val b (l.drop (i + 1)) := by
  rw [List.drop_eq_getElem_cons h, val_cons]

theorem dig_small {c : Nat} (h : c ≤ 1000000000000) : (dig 10 c).length ≤ 13 := by
  rw [dig_length_le (by omega)]
  exact Nat.lt_of_le_of_lt h (by decide)

theorem scale_loop (m : Nat) (a : List Nat) (ac : Option Nat) (ha : dig10 a) (hl : a.length ≤ 900000) (by_ : Nat) (hby : by_ ≤ 4294967296) : ∀ (n c : Nat) (o : List Nat), a.length - o.length < n → o.length ≤ a.length → c ≤ by_ → dig10 o →
    M ≤ m →
    F82_82_4 m n a.length ac (nd a) (by_ : Int) o.length (c : Int) (o.length : Int) o.length (nd o) =
      some (.list (dig 10 (val 10 o + 10 ^ o.length * (c + by_ * val 10 (a.drop o.length)))).length none (nd (dig 10 (val 10 o + 10 ^ o.length * (c + by_ * val 10 (a.drop o.length))))))
  | 0, c, o, h, _, _, _, _ => by omega
  | n + 1, c, o, h, hoa, hc, ho, hm => by
    rw [F82_82_4_s]
    by_cases hi : o.length < a.length
    · have e0 : (0 : Int) ≤ (o.length : Int) ∧ (o.length : Int) < (a.length : Int) := by omega
      have hd : a[o.length] < 10 := ha _ (List.getElem_mem hi)
      have hprod : a[o.length] * by_ ≤ 9 * by_ := Nat.mul_le_mul_right _ (by omega)
      have w1 : IntKind.wrap .i64 ((a[o.length] : Int) * (by_ : Int)) = ((a[o.length] * by_ : Nat) : Int) := wrap_of (by simp) (by omega)
      have w2 : IntKind.wrap .i64 ((c : Int) + ((a[o.length] * by_ : Nat) : Int)) = ((c + a[o.length] * by_ : Nat) : Int) := wrap_of (by simp) (by omega)
      have e1 : IntKind.wrap .i64 (Int.tdiv ((c + a[o.length] * by_ : Nat) : Int) 10) = (((c + a[o.length] * by_) / 10 : Nat) : Int) := wrap_of (by rw [Int.tdiv_eq_ediv_of_nonneg (by omega)]; omega) (by omega)
      have e2 : Int.tmod ((c + a[o.length] * by_ : Nat) : Int) 10 = (((c + a[o.length] * by_) % 10 : Nat) : Int) := by rw [Int.tmod_eq_emod_of_nonneg (by omega)]; omega
      have e3 : IntKind.wrap .i64 ((o.length : Int) + 1) = (((o ++ [(c + a[o.length] * by_) % 10]).length : Nat) : Int) := wrap_of (by simp) (by simp; omega)
      rw [decide_eq_true e0.2, cond_true, if_pos e0, show Int.toNat (o.length : Int) * 1 = o.length by omega, rdI_nd_lt hi]
      simp only [Option.bind_some]
      rw [if_pos ⟨Nat.le_refl _, by omega, fits_len (by omega) (by omega), trivial⟩, w1, w2, e1, e2, e3]
      have ih := scale_loop m a ac ha hl by_ hby n ((c + a[o.length] * by_) / 10) (o ++ [(c + a[o.length] * by_) % 10]) (by simp; omega) (by simp; omega) (by omega) (dig10_concat ho (by omega)) hm
      have ev : val 10 (o ++ [(c + a[o.length] * by_) % 10]) + 10 ^ (o ++ [(c + a[o.length] * by_) % 10]).length * ((c + a[o.length] * by_) / 10 + by_ * val 10 (a.drop (o ++ [(c + a[o.length] * by_) % 10]).length)) = val 10 o + 10 ^ o.length * (c + by_ * val 10 (a.drop o.length)) := by
        rw [val_append, List.length_append, List.length_singleton, val_drop a hi, Nat.pow_succ, Nat.mul_assoc, Nat.add_assoc, ← Nat.mul_add]
        congr 2
        simp only [val_cons, val_nil, Nat.mul_zero, Nat.add_zero, Nat.mul_add]
        have : by_ * (10 * val 10 (List.drop (o.length + 1) a)) = 10 * (by_ * val 10 (List.drop (o.length + 1) a)) := by rw [Nat.mul_left_comm]
        rw [this, Nat.mul_comm by_ a[o.length]]
        omega
      rw [ev] at ih
      rw [← ih]
      simp [nd_append, nd]
    · have heq : o.length = a.length := by omega
      rw [decide_eq_false (by omega), cond_false, List.drop_eq_nil_of_le (by omega), val_nil, Nat.mul_zero, Nat.add_zero]
      refine carry_loop m m c o (by unfold M at hm; omega) (by omega) ho ?_
      have := dig_small (c := c) (by omega)
      omega

theorem sp82_eq (a : List Nat) (ac : Option Nat) (ha : dig10 a) (hl : a.length ≤ 900000) (by_ c : Nat) (hby : by_ ≤ 4294967296) (hc : c ≤ by_) :
    sp82 [.list a.length ac (nd a), .v (.int .i64 (by_ : Int)), .v (.int .i64 (c : Int))] = some (.list (dig 10 (c + by_ * val 10 a)).length none (nd (dig 10 (c + by_ * val 10 a)))) := by
  have := scale_loop M a ac ha hl by_ hby M c [] (by unfold M; simp; omega) (by simp) hc (by intro x hx; cases hx) (Nat.le_refl _)
  simpa [sp82, F82] using this

/-! ### Of -/
theorem dig10_dig (n : Nat) : dig10 (dig 10 n) := dig_lt (by omega) n
theorem dig10_len {n k : Nat} (h : n < 256 ^ k) : (dig 10 n).length ≤ 3 * k := by
  rw [dig_length_le (by omega), Nat.pow_mul]
  exact Nat.lt_of_lt_of_le h (Nat.pow_le_pow_left (by decide) k)
theorem isBy_take {l : List Nat} (h : isBy l) (n : Nat) : isBy (l.take n) := fun x hx => h x (List.mem_of_mem_take hx)
theorem isBy_drop {l : List Nat} (h : isBy l) (n : Nat) : isBy (l.drop n) := fun x hx => h x (List.mem_of_mem_drop hx)

theorem of_loop (m : Nat) (b : List Nat) (bc : Option Nat) (hb : isBy b) (hl : b.length ≤ 200000) : ∀ (n i : Nat) (c : Option Nat), b.length - i < n → i ≤ b.length →
    ∃ c', F45_45_3 m n b.length bc (nb b) (dig 10 (valBE (b.take i))).length c (nd (dig 10 (valBE (b.take i)))) (i : Int) = some (.list (dig 10 (valBE b)).length c' (nd (dig 10 (valBE b))))
  | 0, i, c, h, _ => by omega
  | n + 1, i, c, h, hi => by
    by_cases hlt : i < b.length
    · obtain ⟨c', ih⟩ := of_loop m b bc hb hl n (i + 1) none (by omega) (by omega)
      refine ⟨c', ?_⟩
      rw [F45_45_3_s]
      have e0 : (0 : Int) ≤ (i : Int) ∧ (i : Int) < (b.length : Int) := by omega
      have hd : b[i] < 256 := hb _ (List.getElem_mem hlt)
      have w1 : IntKind.wrap .i64 (b[i] : Int) = ((b[i] : Nat) : Int) := wrap_nat (by omega)
      have e3 : IntKind.wrap .i64 ((i : Int) + 1) = ((i + 1 : Nat) : Int) := wrap_of (by simp) (by omega)
      have hlen : (dig 10 (valBE (b.take i))).length ≤ 900000 := by
        have := dig10_len (valBE_lt (b.take i) (isBy_take hb i))
        rw [List.length_take] at this
        omega
      have hs := sp82_eq (dig 10 (valBE (b.take i))) c (dig10_dig _) hlen 256 b[i] (by omega) (by omega)
      rw [val_dig (by omega)] at hs
      have hv : b[i] + 256 * valBE (b.take i) = valBE (b.take (i + 1)) := by
        rw [List.take_succ_eq_append_getElem hlt, valBE_concat]
      rw [hv] at hs
      rw [decide_eq_true e0.2, cond_true, if_pos e0, show Int.toNat (i : Int) * 1 = i by omega, rdI_nb_lt hlt]
      simp only [Option.bind_some]
      rw [w1, show ((256 : Int)) = ((256 : Nat) : Int) from rfl, hs]
      simp only [Option.bind_some, rdL, e3]
      exact ih
    · refine ⟨c, ?_⟩
      rw [F45_45_3_s, decide_eq_false (by omega), cond_false, List.take_of_length_le (by omega)]

theorem sp45_eq (b : List Nat) (bc : Option Nat) (n : Nat) (hn : n = b.length) (hb : isBy b) (hl : b.length ≤ 200000) :
    ∃ c, sp45 [.list n bc (nb b)] = some (.list (dig 10 (valBE b)).length c (nd (dig 10 (valBE b)))) := by
  subst hn
  obtain ⟨c, h⟩ := of_loop M b bc hb hl M 0 (some 0) (by unfold M; omega) (by omega)
  refine ⟨c, ?_⟩
  simpa [sp45, F45, valBE_nil, dig_zero] using h
end Go.Ev
