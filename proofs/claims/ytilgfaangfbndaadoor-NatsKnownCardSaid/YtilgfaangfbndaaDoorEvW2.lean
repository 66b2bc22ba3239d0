/-
  The law NatsOrder in plain form: true of any two byte slices.
-/
import Derived.Test.YtilgfaangfbndaaDoorEvW1
set_option linter.unusedSimpArgs false
set_option linter.unusedVariables false
set_option maxRecDepth 100000
namespace Go.Ev
open Go
theorem cmpN_neg (x y : Nat) : IntKind.wrap .i64 (0 - cmpN x y) = cmpN y x := by
  unfold cmpN
  rcases Nat.lt_trichotomy x y with h | h | h
  · rw [if_pos h, if_neg (by omega), if_pos h]; rfl
  · subst h; simp; rfl
  · rw [if_neg (by omega), if_pos h, if_pos h]; rfl
theorem cmpN_self (x : Nat) : cmpN x x = 0 := by unfold cmpN; simp

/-- NatsOrder. -/
theorem order_true (a b : List Nat) (ha : isBy a) (hb : isBy b) (ac bc : Option Nat) : sp13 [.list a.length ac (nb a), .list b.length bc (nb b)] = some (.v (.bool true)) := by
  simp only [sp13, F13]
  by_cases h1 : 80 < a.length
  · rw [decide_eq_true (by omega), cond_true]; exact fin_true
  rw [decide_eq_false (by omega), cond_false]
  by_cases h2 : 80 < b.length
  · rw [decide_eq_true (by omega), cond_true]; exact fin_true
  rw [decide_eq_false (by omega), cond_false, F13_13_j3_e]
  have va := valBE_lt a ha
  have vb := valBE_lt b hb
  have da := dig10_len va
  have db := dig10_len vb
  obtain ⟨c3, h3⟩ := sp45_eq a ac _ rfl ha (by omega)
  obtain ⟨c4, h4⟩ := sp45_eq b bc _ rfl hb (by omega)
  have h5 := sp61_eq a b _ _ rfl rfl ha hb (by omega) (by omega) ac bc
  have h6 := sp51_eq (valBE a) (valBE b) _ _ rfl rfl c3 c4 (by omega) (by omega)
  have h7 := sp61_eq b a _ _ rfl rfl hb ha (by omega) (by omega) bc ac
  refine (stepI h5).trans ?_; try dsimp only
  refine (stepL h3).trans ?_; try dsimp only
  refine (stepL h4).trans ?_; try dsimp only
  refine (stepI h6).trans ?_; try dsimp only
  rw [show (cmpN (valBE a) (valBE b) == cmpN (valBE a) (valBE b)) = true by simp, cond_true]
  refine (stepI h7).trans ?_; try dsimp only
  rw [cmpN_neg, show (cmpN (valBE b) (valBE a) == cmpN (valBE b) (valBE a)) = true by simp, cond_true, if_pos (by simp)]
  have hz : valBE (0 :: 0 :: a) = valBE a := by rw [valBE_cons, valBE_cons]; simp
  have hz2 : isBy (0 :: 0 :: a) := fun x hx => by
    rcases List.mem_cons.1 hx with rfl | hx
    · omega
    · rcases List.mem_cons.1 hx with rfl | hx
      · omega
      · exact ha x hx
  have hzl : (0 :: 0 :: a).length = 2 + a.length := by simp; omega
  have h8 : ∀ c, sp61 [.list a.length ac (nb a), .list (2 + a.length) c (nb (0 :: 0 :: a))] = some (.v (.int .i64 0)) := fun c => by
    have := sp61_eq a (0 :: 0 :: a) _ (2 + a.length) rfl hzl.symm ha hz2 (by omega) (by rw [hzl]; omega) ac c
    rw [hz, cmpN_self] at this
    exact this
  by_cases h0 : a.length = 0
  · have : a = [] := List.length_eq_zero_iff.1 h0
    subst this
    rw [if_pos (by simp), if_pos (by simp), if_pos (by simp)]
    refine (stepI (h8 (some 2))).trans ?_; try dsimp only
    rw [show ((0 : Int) == 0) = true from rfl, cond_true]
    exact fin_true
  · rw [if_neg (by omega), if_pos ⟨fits_len (by omega) (by omega), by simp⟩, if_pos (by omega)]
    have hc : cutL ((2 + a.length) * 1) ([(D.v (.int .u8 (0 : Int))), (D.v (.int .u8 (0 : Int)))] ++ nb a) 0 ((2 + a.length) * 1) = nb (0 :: 0 :: a) := by
      rw [Nat.mul_one, cutL_all (by simp; omega)]; rfl
    rw [hc]
    refine (stepI (h8 none)).trans ?_; try dsimp only
    rw [show ((0 : Int) == 0) = true from rfl, cond_true]
    exact fin_true
end Go.Ev
