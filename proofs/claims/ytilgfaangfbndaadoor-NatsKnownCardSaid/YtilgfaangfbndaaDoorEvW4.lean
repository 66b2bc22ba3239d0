/-
  The law NatsField in plain form: true of any three numbers.
-/
import Derived.Test.YtilgfaangfbndaaDoorEvW3
set_option linter.unusedSimpArgs false
set_option linter.unusedVariables false
set_option maxRecDepth 100000
namespace Go.Ev
open Go
/-- The bytes of a result, nothing where it is too large. -/
def resL (v : Nat) : List Nat := if v < lim then byt v else []
theorem numR_res (v : Nat) : numR v = .tup [.list (resL v).length (some (resL v).length) (nb (resL v)), .v (.int .i64 (fitE v))] := by
  by_cases h : v < lim
  · rw [numR_ok h, resL, if_pos h, fitE, if_pos h]
  · rw [numR_err h, resL, if_neg h, fitE, if_neg h]; rfl
theorem resL_ok {v : Nat} (h : v < lim) : resL v = byt v := by rw [resL, if_pos h]
theorem fitE_ok {v : Nat} (h : v < lim) : fitE v = 0 := by rw [fitE, if_pos h]
theorem fitE_err {v : Nat} (h : ¬ v < lim) : fitE v = 3 := by rw [fitE, if_neg h]
theorem fitE_zero {v : Nat} : (fitE v == 0) = decide (v < lim) := by
  by_cases h : v < lim
  · rw [fitE_ok h, decide_eq_true h]; rfl
  · rw [fitE_err h, decide_eq_false h]; rfl
theorem fitE_nz {v : Nat} : (fitE v != 0) = !decide (v < lim) := by
  by_cases h : v < lim
  · rw [fitE_ok h, decide_eq_true h]; rfl
  · rw [fitE_err h, decide_eq_false h]; rfl

section
variable {a b c : List Nat}

theorem f_j26 (ha : isN a) (ca : Option Nat) (hs : valBE b + valBE c < lim) (hp : valBE a * valBE b < lim) (hq : valBE a * valBE c < lim) (c3 c4 c5 : Option Nat) :
    F10_10_j26 sp39 sp46 sp50 sp52 sp55 M a.length ca (nb a) (byt (valBE a * valBE b)).length c3 (nb (byt (valBE a * valBE b))) (byt (valBE b + valBE c)).length c4 (nb (byt (valBE b + valBE c))) (byt (valBE a * valBE c)).length c5 (nb (byt (valBE a * valBE c))) = some (.v (.bool true)) := by
  have h1 := sp55_eq a (byt (valBE b + valBE c)) _ _ rfl rfl ca c4 ha (isN_byt hs)
  have h2 := sp46_eq (byt (valBE a * valBE b)) (byt (valBE a * valBE c)) _ _ rfl rfl c3 c5 (isN_byt hp) (isN_byt hq)
  rw [valBE_byt, numR_res] at h1
  rw [valBE_byt, valBE_byt, ← Nat.mul_add, numR_res] at h2
  rw [F10_10_j26_e]
  refine (stepT h1).trans ?_; try dsimp only
  refine (stepT h2).trans ?_; try dsimp only
  rw [show (fitE (valBE a * (valBE b + valBE c)) == fitE (valBE a * (valBE b + valBE c))) = true by simp, cond_true]
  refine (eqs rfl rfl _ _).trans ?_
  exact fin_true

theorem f_j23 (ha : isN a) (hc : isN c) (ca cc : Option Nat) (e3 : Option Nat) (e4 : Option Nat) (e5 : Option Nat) :
    F10_10_j23 sp39 sp46 sp50 sp52 sp55 M a.length ca (nb a) c.length cc (nb c) (fitE (valBE b + valBE c)) (resL (valBE a * valBE b)).length e3 (nb (resL (valBE a * valBE b))) (fitE (valBE a * valBE b)) (resL (valBE b + valBE c)).length e4 (nb (resL (valBE b + valBE c))) = some (.v (.bool true)) := by
  have h1 := sp55_eq a c _ _ rfl rfl ca cc ha hc
  rw [numR_res] at h1
  rw [F10_10_j23_e]
  refine (stepT h1).trans ?_; try dsimp only
  rw [fitE_nz, fitE_nz, fitE_nz]
  by_cases hs : valBE b + valBE c < lim
  · rw [decide_eq_true hs, Bool.not_true, cond_false]
    by_cases hp : valBE a * valBE b < lim
    · rw [decide_eq_true hp, Bool.not_true, cond_false]
      by_cases hq : valBE a * valBE c < lim
      · rw [decide_eq_true hq, Bool.not_true, cond_false, resL_ok hs, resL_ok hp, resL_ok hq]
        exact f_j26 ha ca hs hp hq _ _ _
      · rw [decide_eq_false hq, Bool.not_false, cond_true]
        exact fin_true
    · rw [decide_eq_false hp, Bool.not_false, cond_true]
      exact fin_true
  · rw [decide_eq_false hs, Bool.not_false, cond_true]
    exact fin_true

theorem f_j17 (ha : isN a) (hb : isN b) (hc : isN c) (ca cb cc : Option Nat) (e3 e4 : Option Nat) :
    F10_10_j17 sp39 sp46 sp50 sp52 sp55 M a.length ca (nb a) b.length cb (nb b) c.length cc (nb c) (fitE (valBE b + valBE c)) (resL (valBE a * valBE b)).length e3 (nb (resL (valBE a * valBE b))) (fitE (valBE a * valBE b)) (resL (valBE b + valBE c)).length e4 (nb (resL (valBE b + valBE c))) = some (.v (.bool true)) := by
  have h1 := sp55_eq b c _ _ rfl rfl cb cc hb hc
  rw [numR_res] at h1
  have h23 := fun e5 => f_j23 (b := b) ha hc ca cc e3 e4 e5
  rw [F10_10_j17_e]
  refine (stepT h1).trans ?_; try dsimp only
  rw [fitE_zero, fitE_zero]
  by_cases hp : valBE a * valBE b < lim
  · rw [decide_eq_true hp, cond_true]
    by_cases hq : valBE b * valBE c < lim
    · rw [decide_eq_true hq, cond_true]
      have h2 := sp55_eq (byt (valBE a * valBE b)) c _ _ rfl rfl e3 cc (isN_byt hp) hc
      have h3 := sp55_eq a (byt (valBE b * valBE c)) _ _ rfl rfl ca (some (byt (valBE b * valBE c)).length) ha (isN_byt hq)
      rw [valBE_byt, numR_res] at h2
      rw [valBE_byt, ← Nat.mul_assoc, numR_res] at h3
      rw [resL_ok hq]
      have h2' := h2
      rw [← resL_ok hp] at h2'
      refine (stepT h2').trans ?_; try dsimp only
      rw [F10_10_j20_e]
      refine (stepT h3).trans ?_; try dsimp only
      rw [show (fitE (valBE a * valBE b * valBE c) != fitE (valBE a * valBE b * valBE c)) = false by simp, cond_false]
      refine (eqs' rfl rfl _ _).trans ?_
      exact h23 none
    · rw [decide_eq_false hq, cond_false]; exact h23 none
  · rw [decide_eq_false hp, cond_false]; exact h23 none

theorem f_j8 (ha : isN a) (hb : isN b) (hc : isN c) (ca cb cc : Option Nat) (e3 e4 : Option Nat) :
    F10_10_j8 sp39 sp46 sp50 sp52 sp55 M a.length ca (nb a) b.length cb (nb b) c.length cc (nb c) (resL (valBE a + valBE b)).length e3 (nb (resL (valBE a + valBE b))) (fitE (valBE a + valBE b)) (resL (valBE a * valBE b)).length e4 (nb (resL (valBE a * valBE b))) (fitE (valBE a * valBE b)) = some (.v (.bool true)) := by
  have h1 := sp46_eq b c _ _ rfl rfl cb cc hb hc
  rw [numR_res] at h1
  have h17 := fun e5 => f_j17 ha hb hc ca cb cc e4 e5
  rw [F10_10_j8_e]
  refine (stepT h1).trans ?_; try dsimp only
  rw [fitE_zero, fitE_zero]
  by_cases hp : valBE a + valBE b < lim
  · rw [decide_eq_true hp, cond_true]
    by_cases hq : valBE b + valBE c < lim
    · rw [decide_eq_true hq, cond_true]
      have h2 := sp46_eq (byt (valBE a + valBE b)) c _ _ rfl rfl e3 cc (isN_byt hp) hc
      have h3 := sp46_eq a (byt (valBE b + valBE c)) _ _ rfl rfl ca (some (byt (valBE b + valBE c)).length) ha (isN_byt hq)
      have h4 := sp50_eq (byt (valBE a + valBE b)) b _ _ rfl rfl e3 cb (isN_byt hp) hb
      rw [valBE_byt, numR_res] at h2
      rw [valBE_byt, ← Nat.add_assoc, numR_res] at h3
      rw [valBE_byt, if_neg (by omega), Nat.add_sub_cancel, numR_ok ha.lt, ha.eq] at h4
      have h17' := h17 (some (resL (valBE b + valBE c)).length)
      rw [resL_ok hp]
      refine (stepT h2).trans ?_; try dsimp only
      rw [F10_10_j11_e]
      have h3' := h3
      rw [← resL_ok hq] at h3'
      refine (stepT h3').trans ?_; try dsimp only
      rw [show (fitE (valBE a + valBE b + valBE c) != fitE (valBE a + valBE b + valBE c)) = false by simp, cond_false]
      refine (eqs' rfl rfl _ _).trans ?_
      rw [F10_10_j14_e]
      refine (stepT h4).trans ?_; try dsimp only
      rw [show ((0 : Int) != 0) = false from rfl, cond_false]
      refine (eqs' rfl rfl _ _).trans ?_
      exact h17'
    · rw [decide_eq_false hq, cond_false]; exact h17 _
  · rw [decide_eq_false hp, cond_false]; exact h17 _
end

/-- NatsField. -/
theorem field_true (l k j : List Nat) (hl : isBy l) (hk : isBy k) (hj : isBy j) (c c' c'' : Option Nat) : sp10 [.agg [.list l.length c (nb l)], .agg [.list k.length c' (nb k)], .agg [.list j.length c'' (nb j)]] = some (.v (.bool true)) := by
  obtain ⟨c1, h1⟩ := sp39_eq l _ rfl c
  obtain ⟨c2, h2⟩ := sp39_eq k _ rfl c'
  obtain ⟨c3, h3⟩ := sp39_eq j _ rfl c''
  have ha := isN_ofN hl
  have hb := isN_ofN hk
  have hc := isN_ofN hj
  revert h1 h2 h3 ha hb hc
  generalize ofN l = a
  generalize ofN k = b
  generalize ofN j = z
  intro h1 h2 h3 ha hb hc
  have h4 := sp46_eq a b _ _ rfl rfl c1 c2 ha hb
  have h5 := sp46_eq b a _ _ rfl rfl c2 c1 hb ha
  have h6 := sp55_eq a b _ _ rfl rfl c1 c2 ha hb
  have h7 := sp55_eq b a _ _ rfl rfl c2 c1 hb ha
  rw [numR_res] at h4 h6
  rw [Nat.add_comm, numR_res] at h5
  rw [Nat.mul_comm, numR_res] at h7
  simp only [sp10]
  unfold F10
  refine (stepL h1).trans ?_; try dsimp only
  refine (stepL h2).trans ?_; try dsimp only
  refine (stepL h3).trans ?_; try dsimp only
  refine (stepT h4).trans ?_; try dsimp only
  refine (stepT h5).trans ?_; try dsimp only
  refine (stepT h6).trans ?_; try dsimp only
  refine (stepT h7).trans ?_; try dsimp only
  rw [show (fitE (valBE a + valBE b) != fitE (valBE a + valBE b)) = false by simp, cond_false, show (fitE (valBE a * valBE b) != fitE (valBE a * valBE b)) = false by simp, cond_false]
  refine (eqs' rfl rfl _ _).trans ?_
  refine (eqs' rfl rfl _ _).trans ?_
  exact f_j8 ha hb hc c1 c2 c3 _ _
end Go.Ev
