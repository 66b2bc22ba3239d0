/-
  Steps through calls; the law NatsSum in plain form: true of any two numbers.
-/
import Derived.Test.YtilgfaangfbndaaDoorEvR1
import Derived.Test.YtilgfaangfbndaaDoorEvG8
set_option linter.unusedSimpArgs false
set_option linter.unusedVariables false
set_option maxRecDepth 100000
namespace Go.Ev
open Go
section
variable {R : Type} {x : Option D}
theorem stepL {n : Nat} {c : Option Nat} {cs : List D} {f : Sl → Option R} (h : x = some (.list n c cs)) : (x.bind fun d => (rdL (some d)).bind f) = f ⟨n, c, cs⟩ := by subst h; rfl
theorem stepI {e : Int} {f : Int → Option R} (h : x = some (.v (.int .i64 e))) : (x.bind fun d => (rdI .i64 (some d)).bind f) = f e := by subst h; rfl
theorem stepB {e : Bool} {f : Bool → Option R} (h : x = some (.v (.bool e))) : (x.bind fun d => (rdB (some d)).bind f) = f e := by subst h; rfl
theorem stepT {n : Nat} {c : Option Nat} {cs : List D} {e : Int} {f : Sl → Int → Option R} (h : x = some (.tup [.list n c cs, .v (.int .i64 e)])) :
    (x.bind fun d => (rdT d).bind fun r => if List.length r = 2 then (rdL r[0]?).bind fun q => (rdI .i64 r[1]?).bind fun z => f q z else none) = f ⟨n, c, cs⟩ e := by subst h; rfl
theorem stepT3 {n : Nat} {c : Option Nat} {cs : List D} {g e : Int} {f : Sl → Int → Int → Option R} (h : x = some (.tup [.list n c cs, .v (.int .u32 g), .v (.int .i64 e)])) :
    (x.bind fun d => (rdT d).bind fun r => if List.length r = 3 then (rdL r[0]?).bind fun q => (rdI .u32 r[1]?).bind fun y => (rdI .i64 r[2]?).bind fun z => f q y z else none) = f ⟨n, c, cs⟩ g e := by subst h; rfl
theorem stepTD {n : Nat} {c : Option Nat} {cs : List D} {e : Int} {f : Sl → Int → Option R} (h : x = some (.tup [.list n c cs, .v (.int .i64 e)])) :
    (x.bind fun d => (rdT d).bind fun r => if List.length r = 2 then (rdL r[0]?).bind fun q => (rdI .i64 r[1]?).bind fun z => f q z else none) = f ⟨n, c, cs⟩ e := by subst h; rfl
end

/-- What 'number' returns, whatever it is. -/
theorem numR_cases (v : Nat) : ∃ (n : Nat) (cs : List D) (e : Int), numR v = .tup [.list n (some n) cs, .v (.int .i64 e)] ∧ e = fitE v ∧ (v < lim → cs = nb (byt v) ∧ n = (byt v).length) ∧
    ∀ (k : Nat) (c : Option Nat), k = (dig 10 v).length → sp47 [.list n (some n) cs, .v (.int .i64 e), .list k c (nd (dig 10 v)), .v (.int .i64 (fitE v))] = some (.v (.bool true)) := by
  by_cases h : v < lim
  · refine ⟨_, _, 0, numR_ok h, by rw [fitE, if_pos h], fun _ => ⟨rfl, rfl⟩, fun k c hk => ?_⟩
    rw [fitE, if_pos h]
    exact sp47_ok v h _ _ rfl hk c
  · refine ⟨0, [], 3, numR_err h, by rw [fitE, if_neg h], fun h' => absurd h' h, fun k c hk => ?_⟩
    rw [fitE, if_neg h]
    exact sp47_err 3 (by omega) k c _

theorem pow_mono {a b c : Nat} (h : a < 256 ^ b) (hbc : b ≤ c) : a < 256 ^ c := Nat.lt_of_lt_of_le h (Nat.pow_le_pow_right (by omega) hbc)
theorem lim_lt2000 {v : Nat} (h : v < lim * lim) : v < 256 ^ 200 := by
  rw [lim2] at h
  exact pow_mono h (by omega)
theorem two_lim : 2 * lim ≤ lim * lim := Nat.mul_le_mul_right _ (Nat.le_trans (by omega) lim_big)

theorem fin_true : ((sp52 []).bind fun d => (rdB (some d)).bind fun b => some (D.v (.bool b))) = some (.v (.bool true)) := lives1_plain _

/-- NatsSum. -/
theorem sum_true (l k : List Nat) (hl : isBy l) (hk : isBy k) (c c' : Option Nat) : sp8 [.agg [.list l.length c (nb l)], .agg [.list k.length c' (nb k)]] = some (.v (.bool true)) := by
  obtain ⟨c1, h1⟩ := sp39_eq l _ rfl c
  obtain ⟨c2, h2⟩ := sp39_eq k _ rfl c'
  have ha := isN_ofN hl
  have hb := isN_ofN hk
  revert h1 h2 ha hb
  generalize ofN l = a
  generalize ofN k = b
  intro h1 h2 ha hb
  have la := ha.lt
  have lb := hb.lt
  have hal := ha.len
  have hbl := hb.len
  have da := dig10_len (n := valBE a) (k := 64) la
  have db := dig10_len (n := valBE b) (k := 64) lb
  have h2l := two_lim
  have hsum : valBE a + valBE b < 256 ^ 200 := lim_lt2000 (by omega)
  obtain ⟨c3, h3⟩ := sp45_eq a c1 _ rfl ha.by_ (by omega)
  obtain ⟨c4, h4⟩ := sp45_eq b c2 _ rfl hb.by_ (by omega)
  have h5 := sp46_eq a b _ _ rfl rfl c1 c2 ha hb
  obtain ⟨n5, cs5, e5, r5, _, _, s5⟩ := numR_cases (valBE a + valBE b)
  rw [r5] at h5
  obtain ⟨c6, h6⟩ := sp48_eq (dig 10 (valBE a)) (dig 10 (valBE b)) _ _ rfl rfl c3 c4 (dig10_dig _) (dig10_dig _) (by omega) (by omega)
  rw [val_dig (by omega), val_dig (by omega)] at h6
  have h7 := sp49_eq (valBE a + valBE b) _ rfl c6 hsum
  have h8 := s5 _ c6 rfl
  have h9 := sp50_eq a b _ _ rfl rfl c1 c2 ha hb
  have h10 := sp51_eq (valBE a) (valBE b) _ _ rfl rfl c3 c4 (by omega) (by omega)
  simp only [sp8]
  unfold F8
  refine (stepL h1).trans ?_; try dsimp only
  refine (stepL h2).trans ?_; try dsimp only
  refine (stepL h3).trans ?_; try dsimp only
  refine (stepL h4).trans ?_; try dsimp only
  refine (stepT h5).trans ?_; try dsimp only
  refine (stepL h6).trans ?_; try dsimp only
  refine (stepL h6).trans ?_; try dsimp only
  refine (stepI h7).trans ?_; try dsimp only
  refine (stepB h8).trans ?_; try dsimp only
  rw [Bool.not_true, cond_false]
  by_cases hlt : valBE a < valBE b
  · rw [if_pos hlt] at h9
    have hc : cmpN (valBE a) (valBE b) = -1 := by unfold cmpN; rw [if_pos hlt]
    rw [hc] at h10
    refine (stepT h9).trans ?_; try dsimp only
    refine (stepI h10).trans ?_; try dsimp only
    rw [decide_eq_true (by omega), cond_true]
    refine (stepB (sp47_err 1 (by omega) 0 (some 0) [])).trans ?_; try dsimp only
    rw [cond_true]
    exact fin_true
  · rw [if_neg hlt] at h9
    have hd : valBE a - valBE b < lim := by omega
    rw [numR_ok hd] at h9
    have hc : ¬ cmpN (valBE a) (valBE b) < 0 := by unfold cmpN; rw [if_neg hlt]; split <;> omega
    obtain ⟨c11, h11⟩ := sp53_eq (dig 10 (valBE a)) (dig 10 (valBE b)) _ _ rfl rfl c3 c4 (dig10_dig _) (dig10_dig _) (by omega) (by rw [val_dig (by omega), val_dig (by omega)]; omega)
    rw [val_dig (by omega), val_dig (by omega)] at h11
    refine (stepT h9).trans ?_; try dsimp only
    refine (stepI h10).trans ?_; try dsimp only
    rw [decide_eq_false hc, cond_false]
    refine (stepL h11).trans ?_; try dsimp only
    refine (stepB (sp47_ok _ hd _ _ rfl rfl c11)).trans ?_; try dsimp only
    rw [cond_true]
    exact fin_true
end Go.Ev
