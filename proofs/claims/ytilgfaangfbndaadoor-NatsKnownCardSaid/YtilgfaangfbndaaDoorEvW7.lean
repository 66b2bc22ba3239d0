/-
  The closed law NatsKnown in plain form.
-/
import Derived.Test.YtilgfaangfbndaaDoorEvR3
import Derived.Test.YtilgfaangfbndaaDoorEvG9d
import Derived.Test.YtilgfaangfbndaaDoorEvW5
set_option linter.unusedSimpArgs false
set_option linter.unusedVariables false
set_option maxRecDepth 100000
namespace Go.Ev
open Go
def big : List Nat := [49, 51, 52, 48, 55, 56, 48, 55, 57, 50, 57, 57, 52, 50, 53, 57, 55, 48, 57, 57, 53, 55, 52, 48, 50, 52, 57, 57, 56, 50, 48, 53, 56, 52, 54, 49, 50, 55, 52, 55, 57, 51, 54, 53, 56, 50, 48, 53, 57, 50, 51, 57, 51, 51, 55, 55, 55, 50, 51, 53, 54, 49, 52, 52, 51, 55, 50, 49, 55, 54, 52, 48, 51, 48, 48, 55, 51, 53, 52, 54, 57, 55, 54, 56, 48, 49, 56, 55, 52, 50, 57, 56, 49, 54, 54, 57, 48, 51, 52, 50, 55, 54, 57, 48, 48, 51, 49, 56, 53, 56, 49, 56, 54, 52, 56, 54, 48, 53, 48, 56, 53, 51, 55, 53, 51, 56, 56, 50, 56, 49, 49, 57, 52, 54, 53, 54, 57, 57, 52, 54, 52, 51, 51, 54, 52, 57, 48, 48, 54, 48, 56, 52, 48, 57, 53]
theorem big_dec : dec 0 big + 1 = lim := by kernel_rfl
theorem big_form : badForm big = false := by kernel_rfl
theorem big_isBy : isBy big := isBy_of rfl
def over : List Nat := big.take 154 ++ [54]
theorem over_dec : dec 0 over = lim := by kernel_rfl
theorem over_form : badForm over = false := by kernel_rfl
theorem over_isBy : isBy over := isBy_of rfl
theorem over_str : ByteArray.extract (ByteArray.mk #[49, 51, 52, 48, 55, 56, 48, 55, 57, 50, 57, 57, 52, 50, 53, 57, 55, 48, 57, 57, 53, 55, 52, 48, 50, 52, 57, 57, 56, 50, 48, 53, 56, 52, 54, 49, 50, 55, 52, 55, 57, 51, 54, 53, 56, 50, 48, 53, 57, 50, 51, 57, 51, 51, 55, 55, 55, 50, 51, 53, 54, 49, 52, 52, 51, 55, 50, 49, 55, 54, 52, 48, 51, 48, 48, 55, 51, 53, 52, 54, 57, 55, 54, 56, 48, 49, 56, 55, 52, 50, 57, 56, 49, 54, 54, 57, 48, 51, 52, 50, 55, 54, 57, 48, 48, 51, 49, 56, 53, 56, 49, 56, 54, 52, 56, 54, 48, 53, 48, 56, 53, 51, 55, 53, 51, 56, 56, 50, 56, 49, 49, 57, 52, 54, 53, 54, 57, 57, 52, 54, 52, 51, 51, 54, 52, 57, 48, 48, 54, 48, 56, 52, 48, 57, 53]) 0 154 ++ ByteArray.mk #[54] = strB over := by kernel_rfl
theorem big_str : ByteArray.mk #[49, 51, 52, 48, 55, 56, 48, 55, 57, 50, 57, 57, 52, 50, 53, 57, 55, 48, 57, 57, 53, 55, 52, 48, 50, 52, 57, 57, 56, 50, 48, 53, 56, 52, 54, 49, 50, 55, 52, 55, 57, 51, 54, 53, 56, 50, 48, 53, 57, 50, 51, 57, 51, 51, 55, 55, 55, 50, 51, 53, 54, 49, 52, 52, 51, 55, 50, 49, 55, 54, 52, 48, 51, 48, 48, 55, 51, 53, 52, 54, 57, 55, 54, 56, 48, 49, 56, 55, 52, 50, 57, 56, 49, 54, 54, 57, 48, 51, 52, 50, 55, 54, 57, 48, 48, 51, 49, 56, 53, 56, 49, 56, 54, 52, 56, 54, 48, 53, 48, 56, 53, 51, 55, 53, 51, 56, 56, 50, 56, 49, 49, 57, 52, 54, 53, 54, 57, 57, 52, 54, 52, 51, 51, 54, 52, 57, 48, 48, 54, 48, 56, 52, 48, 57, 53] = strB big := by kernel_rfl

theorem map48 : ∀ l : List Nat, isDig l = true → (l.map (· - 48)).map (48 + ·) = l
  | [], _ => rfl
  | a :: r, h => by
    simp only [isDig, List.all_cons, Bool.and_eq_true, decide_eq_true_eq] at h
    have := map48 r h.2
    rw [List.map_cons, List.map_cons, this, show 48 + (a - 48) = a by omega]
/-- The text of the value of a text that Parse takes is the text. -/
theorem txt_dec (l : List Nat) (h : badForm l = false) (hl : l.length ≠ 1) : txt (dec 0 l) = l := by
  have hd : isDig l = true := by
    cases l with
    | nil => cases h
    | cons a r => simp only [badForm, Bool.or_eq_false_iff, Bool.not_eq_false'] at h; exact h.2
  have h1 : dig 10 (dec 0 l) = rdg l := by
    rcases rdg_canon l h with h | h
    · exact h
    · exact absurd h hl
  have h0 : dec 0 l ≠ 0 := fun h0 => by
    rw [h0, dig_zero] at h1
    have := congrArg List.length h1
    rw [rdg_len] at this
    cases l with
    | nil => cases h
    | cons a r => cases this
  rw [txt, if_neg h0, h1, rdg, ← List.map_reverse, List.reverse_reverse, map48 l hd]

theorem val_full : ∀ n : Nat, valBE (List.replicate n 255) + 1 = 256 ^ n
  | 0 => rfl
  | n + 1 => by
    rw [List.replicate_succ, valBE_cons, List.length_replicate]
    have := val_full n
    rw [Nat.pow_succ]
    omega
theorem full_isN : isN (List.replicate 64 255) := ⟨fun x hx => by have := (List.mem_replicate.1 hx).2; omega, by simp, by simp [List.replicate_succ]⟩
theorem full_bits : bitsN (List.replicate 64 255) = 512 := by kernel_rfl
theorem big_rest : (256 ^ 64 - 1) % 4294967295 = 0 := by kernel_rfl

section
variable (f : List Nat) (hf : isN f) (hv : valBE f + 1 = lim) (hl : f.length = 64) (hb : bitsN f = 512)
include hf hv hl
theorem known_j18 : F15_15_j18 sp46 sp52 sp55 sp56 sp58 sp59 sp62 sp63 sp66 sp67 M 64 64 (nb f) = some (.v (.bool true)) := by
  have i0 : isN [] := ⟨fun x hx => (by cases hx), by simp, by simp⟩
  have i1 : isN [1] := ⟨isBy_one (by omega), by simp, by simp⟩
  have hb1 : byt 1 = [1] := by
    have := i1.eq
    exact this
  have l1 : 1 < lim := Nat.lt_of_lt_of_le (by omega) lim_big
  have l0 : 0 < lim := Nat.lt_of_lt_of_le (by omega) lim_big
  have h1 := sp59_eq [] 0 rfl (some 0) i0 0 (by omega)
  have p0 : numR (valBE [] ^ 0) = .tup [.list 1 (some 1) (nb [1]), .v (.int .i64 0)] := by
    rw [Nat.pow_zero, numR_ok l1, hb1]; rfl
  rw [p0] at h1
  have g2 : ∀ k : Nat, 1 ≤ k → k < 9223372036854775808 → sp59 [.list 0 (some 0) [], .v (.int .i64 (k : Int))] = some (.tup [.list 0 (some 0) (nb []), .v (.int .i64 0)]) := fun k h1 h2 => by
    have h3 := sp59_eq [] 0 rfl (some 0) i0 k h2
    rw [show valBE [] = 0 from rfl, Nat.zero_pow (by omega), numR_ok l0, byt_zero] at h3
    exact h3
  have g3 : ∀ k : Nat, k < 9223372036854775808 → sp59 [.list 1 (some 1) (nb [1]), .v (.int .i64 (k : Int))] = some (.tup [.list 1 (some 1) (nb [1]), .v (.int .i64 0)]) := fun k h2 => by
    have h3 := sp59_eq [1] 1 rfl (some 1) i1 k h2
    rw [show valBE [1] = 1 from rfl, Nat.one_pow, numR_ok l1, hb1] at h3
    exact h3
  have h2 := g2 4611686018427387904 (by omega) (by omega)
  have h3 := g3 4611686018427387904 (by omega)
  have h4 := sp56_eq f 64 hl.symm (some 64) hf 4294967295 (by omega)
  have hr : valBE f % 4294967295 = 0 := by
    have := big_rest
    have e : valBE f = 256 ^ 64 - 1 := by unfold lim at hv; omega
    rw [e]
  rw [if_neg (by decide : ¬ ((4294967295 : Nat) = 0)), hr] at h4
  have hlt : valBE f < lim := hf.lt
  have hq : valBE f / 4294967295 < lim := Nat.lt_of_le_of_lt (Nat.div_le_self _ _) hlt
  have h5 := sp58_eq 4294967295 (by omega)
  have hk : (4294967295 : Nat) < lim := Nat.lt_of_lt_of_le (show 4294967295 < 256 ^ 4 by omega) (by unfold lim; exact Nat.pow_le_pow_right (by omega) (by omega))
  have h6 := sp55_eq (byt (valBE f / 4294967295)) (byt 4294967295) _ _ rfl rfl (some (byt (valBE f / 4294967295)).length) (some (byt 4294967295).length) (isN_byt hq) (isN_byt hk)
  rw [valBE_byt, valBE_byt, Nat.div_mul_cancel (Nat.dvd_of_mod_eq_zero hr), numR_ok hlt, hf.eq] at h6
  rw [F15_15_j18_e]
  refine (stepT h1).trans ?_; try dsimp only
  refine (stepT h2).trans ?_; try dsimp only
  refine (stepT h3).trans ?_; try dsimp only
  refine (stepT3 h4).trans ?_; try dsimp only
  refine (stepL h5).trans ?_; try dsimp only
  refine (stepT h6).trans ?_; try dsimp only
  refine (stepB (sp66_eq [1] (isBy_one (by omega)) 1 rfl (some 1))).trans ?_; try dsimp only
  rw [cond_true]
  refine (stepB (sp66_eq [] (by intro x hx; cases hx) 0 rfl (some 0))).trans ?_; try dsimp only
  rw [cond_true]
  refine (stepB (sp66_eq [1] (isBy_one (by omega)) 1 rfl (some 1))).trans ?_; try dsimp only
  rw [cond_true, show ((0 : Int) == 0) = true from rfl, cond_true, show ((((0 : Nat) : Int)) == 0) = true from rfl, cond_true, cond_true]
  refine (eqs rfl hl.symm _ _).trans ?_
  exact fin_true
theorem known_j12 : F15_15_j12 sp46 sp52 sp55 sp56 sp58 sp59 sp62 sp63 sp66 sp67 M 64 64 (nb f) = some (.v (.bool true)) := by
  have hlt : valBE f < lim := hf.lt
  have h18 := known_j18 f hf hv hl
  have hdb : dec 0 big = valBE f := by have := big_dec; omega
  have ht : txt (valBE f) = big := by rw [← hdb]; exact txt_dec big big_form (by decide)
  have h1 := sp62_eq f 64 hl.symm (some 64) hf
  rw [ht] at h1
  have h2 := sp63_eq big big_isBy (by rw [show big.length = 155 from rfl]; omega)
  rw [parseN, big_form, if_neg (by decide), if_neg (by decide), hdb, numR_ok hlt, hf.eq, hl] at h2
  have h3 := sp63_eq over over_isBy (by rw [show over.length = 155 by decide]; omega)
  rw [parseN, over_form, if_neg (by decide), if_neg (by rw [show over.length = 155 by decide]; omega), over_dec, numR_err (by omega)] at h3
  rw [F15_15_j12_e, over_str, big_str]
  refine (stepS h1).trans ?_; try dsimp only
  refine (stepT h2).trans ?_; try dsimp only
  rw [if_pos (by decide +kernel), if_pos (by decide +kernel)]
  refine (stepT h3).trans ?_; try dsimp only
  rw [show (ByteArray.toList (strB big) == ByteArray.toList (strB big)) = true by simp, Bool.not_true, cond_false, if_pos (by rw [nb_length, hl]), bytesOf_nb, Option.bind_some]
  refine (stepB (sp66_eq f hf.by_ 64 hl.symm (some 64))).trans ?_; try dsimp only
  rw [Bool.not_true, cond_false, show ((3 : Int) != 3) = false from rfl, cond_false]
  exact h18
include hb
theorem known_end (n : Nat) : F15_15_3 sp46 sp52 sp55 sp56 sp58 sp59 sp62 sp63 sp66 sp67 M (n + 1) 64 (nb f) = some (.v (.bool true)) := by
  have hlt : valBE f < lim := hf.lt
  have h12 := known_j12 f hf hv hl
  have i0 : isN [] := ⟨fun x hx => (by cases hx), by simp, by simp⟩
  have i1 : isN [1] := ⟨isBy_one (by omega), by simp, by simp⟩
  have i2 : isN [2] := ⟨isBy_one (by omega), by simp, by simp⟩
  have lp := lim_pos
  have h1 := sp46_eq f [1] 64 1 hl.symm rfl (some 64) (some 1) hf i1
  rw [show valBE [1] = 1 from rfl, numR_err (by omega)] at h1
  have h2 := sp46_eq f [] 64 0 hl.symm rfl (some 64) (some 0) hf i0
  rw [show valBE [] = 0 from rfl, Nat.add_zero, numR_ok hlt, hf.eq, hl] at h2
  have h3 := sp55_eq f [2] 64 1 hl.symm rfl (some 64) (some 1) hf i2
  have hbig := lim_big
  rw [show valBE [2] = 2 from rfl, numR_err (by omega)] at h3
  have h4 := sp55_eq f [1] 64 1 hl.symm rfl (some 64) (some 1) hf i1
  rw [show valBE [1] = 1 from rfl, Nat.mul_one, numR_ok hlt, hf.eq, hl] at h4
  have h5 := sp67_eq f 64 hl.symm (some 64) hf
  rw [hb] at h5
  rw [F15_15_3_s, decide_eq_false (by omega), cond_false]
  refine (stepT h1).trans ?_; try dsimp only
  refine (stepT h2).trans ?_; try dsimp only
  refine (stepT h3).trans ?_; try dsimp only
  refine (stepT h4).trans ?_; try dsimp only
  rw [show ((3 : Int) != 3) = false from rfl, cond_false, if_pos (by rw [nb_length, hl]), bytesOf_nb, Option.bind_some]
  refine (stepB (sp66_eq f hf.by_ 64 hl.symm (some 64))).trans ?_; try dsimp only
  rw [Bool.not_true, cond_false, cond_false, if_pos (by rw [nb_length, hl]), Option.bind_some]
  refine (stepB (sp66_eq f hf.by_ 64 hl.symm (some 64))).trans ?_; try dsimp only
  rw [Bool.not_true, cond_false]
  refine (stepI h5).trans ?_; try dsimp only
  rw [show ((((512 : Nat) : Int)) != 512) = false from rfl, cond_false]
  exact h12
end
theorem known_loop : ∀ (n i : Nat), 64 - i < n → i ≤ 64 → F15_15_3 sp46 sp52 sp55 sp56 sp58 sp59 sp62 sp63 sp66 sp67 M n (i : Int) (nb (List.replicate i 255 ++ List.replicate (64 - i) 0)) = some (.v (.bool true))
  | 0, i, h, _ => by omega
  | n + 1, i, h, hi => by
    by_cases hlt : i < 64
    · have w3 : IntKind.wrap .i64 ((i : Int) + 1) = ((i + 1 : Nat) : Int) := wrap_of (by simp) (by omega)
      rw [F15_15_3_s, decide_eq_true (by omega), cond_true, if_pos (by omega), if_pos ⟨rfl, by simp; omega⟩, w3]
      have e : List.set (nb (List.replicate i 255 ++ List.replicate (64 - i) 0)) (0 + Int.toNat (i : Int) * 1) (D.v (.int .u8 (255 : Int))) = nb (List.replicate (i + 1) 255 ++ List.replicate (64 - (i + 1)) 0) := by
        rw [show 0 + Int.toNat (i : Int) * 1 = i by omega, show (D.v (.int .u8 (255 : Int))) = D.v (.int .u8 ((255 : Nat) : Int)) from rfl, nb_set]
        congr 1
        rw [List.set_append_right _ _ (by simp), List.length_replicate, Nat.sub_self, show 64 - i = (64 - (i + 1)) + 1 by omega, List.replicate_succ, List.set_cons_zero, List.replicate_succ', List.append_assoc]
        rfl
      rw [e]
      exact known_loop n (i + 1) (by omega) (by omega)
    · have : i = 64 := by omega
      subst this
      rw [Nat.sub_self, List.replicate_zero, List.append_nil]
      exact known_end _ full_isN (val_full 64) (by simp) full_bits n

/-- NatsKnown. -/
theorem natsKnown_true : sp15 [] = some (.v (.bool true)) := by
  simp only [sp15]
  unfold F15
  have := known_loop M 0 (by unfold M; omega) (by omega)
  rw [List.replicate_zero, List.nil_append, Nat.sub_zero, ← nb_replicate] at this
  exact this
end Go.Ev
