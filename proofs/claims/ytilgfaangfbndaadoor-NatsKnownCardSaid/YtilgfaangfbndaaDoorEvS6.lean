/-
  The law ScalarsGet in plain form: true of every byte slice.
-/
import Derived.Test.YtilgfaangfbndaaDoorEvS5
set_option linter.unusedSimpArgs false
set_option linter.unusedVariables false
set_option maxRecDepth 100000
namespace Go.Ev
open Go

theorem rdI64 (i : Int) : rdI .i64 (some (.v (.int .i64 i))) = some i := rfl
theorem rdIu8 (i : Int) : rdI .u8 (some (.v (.int .u8 i))) = some i := rfl
def checkN (l : List Nat) : Int := if 64 < l.length then 3 else if l.head? = some 0 then 11 else 0
theorem sp68_eq (l : List Nat) (n : Nat) (hn : n = l.length) (c : Option Nat) : sp68 [.list n c (nb l)] = some (.v (.int .i64 (checkN l))) := by
  subst hn
  simp only [sp68, F68, checkN]
  by_cases h : 64 < l.length
  · rw [decide_eq_true (by omega), cond_true, if_pos h]
  · rw [decide_eq_false (by omega), cond_false, if_neg h]
    cases l with
    | nil => rfl
    | cons a r =>
      have e1 : (0 : Int) ≤ 0 ∧ (0 : Int) < ((a :: r).length : Int) := by simp <;> omega
      rw [decide_eq_true (show (((a :: r).length : Nat) : Int) > 0 from e1.2), cond_true, if_pos e1, nb_cons]
      simp only [List.getElem?_cons_zero, rdI, if_true, Option.bind_some]
      by_cases h0 : a = 0
      · subst h0; rfl
      · rw [show ((a : Int) == 0) = false by simp <;> omega, cond_false]
        simp [h0]

theorem j7_zero (l : List Nat) (c : Option Nat) (hl : l.length ≤ 64) (z z0 : List D) (hz : z.length = l.length) :
    F34_34_j7 M l.length c (nb l) (l.length + 1) ((l.length + 1) * 1) (List.take 0 z0 ++ ([D.v (.int .u8 (0 : Int))] ++ z)) = some (.tup [.list (l.length + 1) (some (l.length + 1)) (nb (0 :: l)), .v (.int .i64 0)]) := by
  rw [F34_34_j7_e]
  simp only [Int.toNat_natCast, Nat.sub_zero, Nat.mul_one, Nat.zero_add, nb_length, if_true, and_true]
  rw [if_pos (by omega), if_pos (by omega), if_pos (by omega), if_pos (by omega), if_pos (by omega), Nat.add_comm 1 l.length]
  have : cutL (l.length + 1) (List.take 1 (List.take 0 z0 ++ ([D.v (.int .u8 (0 : Int))] ++ z)) ++ (nb l ++ List.drop (l.length + 1) (List.take 0 z0 ++ ([D.v (.int .u8 (0 : Int))] ++ z)))) 0 (l.length + 1) = nb (0 :: l) := by
    have hd : List.drop (l.length + 1) (List.take 0 z0 ++ ([D.v (.int .u8 (0 : Int))] ++ z)) = [] := List.drop_eq_nil_of_le (by simp <;> omega)
    rw [hd, cutL_all (by simp <;> omega)]
    simp [nb_cons]
  rw [this]

theorem j7_none (l : List Nat) (c : Option Nat) (hl : l.length ≤ 64) (z : List D) (hz : z.length = l.length + 1) :
    F34_34_j7v2 M l.length c (nb l) (l.length + 1) ((l.length + 1) * 1) z = some (.tup [.list l.length (some l.length) (nb l), .v (.int .i64 0)]) := by
  rw [F34_34_j7v2_e]
  simp only [Int.toNat_natCast, Nat.sub_zero, Nat.mul_one, Nat.zero_add, nb_length, if_true, and_true, List.take_zero, List.nil_append]
  rw [if_pos (by omega), if_pos (by omega), if_pos (by omega), if_pos (by omega), if_pos (by omega)]
  rw [cutL_eq (by simp <;> omega), List.drop_zero, List.take_append_of_le_length (by simp), List.take_of_length_le (by simp)]

theorem sp34_eq (m : List Nat) (n : Nat) (hn : n = m.length) (c : Option Nat) (h64 : m.length ≤ 64) (h0 : m.head? ≠ some 0) :
    sp34 [.list n c (nb m)] = some (.tup [.list (putN m).length (some (putN m).length) (nb (putN m)), .v (.int .i64 0)]) := by
  subst hn
  have hch : checkN m = 0 := by simp [checkN, h0]; omega
  have w : IntKind.wrap .i64 ((m.length : Int) + 1) = ((m.length + 1 : Nat) : Int) := wrap_of (by simp) (by omega)
  have hz : ∀ (k : Nat), (List.drop 1 (List.flatten (List.replicate (k + 1) [D.v (.int .u8 (0 : Int))]))).length = k := fun k => by rw [flat_zeros8]; simp
  simp only [sp34, F34]
  rw [sp68_eq m _ rfl, hch]
  simp only [Option.bind_some, rdI64, w, Int.toNat_natCast]
  rw [show ((0 : Int) != 0) = false from rfl, cond_false, if_pos ⟨by omega, by omega, fits_len (by omega) (by omega)⟩]
  cases m with
  | nil =>
    rw [show ((([] : List Nat).length : Int) == 0) = true from rfl, cond_true, if_pos (by omega), if_pos ⟨by omega, trivial⟩]
    exact j7_zero [] c (by simp) _ _ (hz 0)
  | cons a r =>
    have e1 : (0 : Int) ≤ 0 ∧ (0 : Int) < ((a :: r).length : Int) := by simp <;> omega
    rw [show (((a :: r).length : Int) == 0) = false by simp <;> omega, cond_false, if_pos e1]
    have hx : rdI .u8 (nb (a :: r))[0]? = some (a : Int) := by rw [nb_cons]; simp [rdI]
    rw [hx, Option.bind_some]
    by_cases h128 : 128 ≤ a
    · rw [decide_eq_true (show (a : Int) ≥ 128 by omega), cond_true, if_pos (by omega), if_pos ⟨by omega, trivial⟩]
      have := j7_zero (a :: r) c h64 (List.drop 1 (List.flatten (List.replicate ((a :: r).length + 1) [D.v (.int .u8 (0 : Int))]))) (List.flatten (List.replicate ((a :: r).length + 1) [D.v (.int .u8 (0 : Int))])) (hz _)
      rw [this]
      simp [putN, h128]
    · rw [decide_eq_false (show ¬ (a : Int) ≥ 128 by omega), cond_false]
      have := j7_none (a :: r) c h64 (List.flatten (List.replicate ((a :: r).length + 1) [D.v (.int .u8 (0 : Int))])) (by rw [flat_zeros8]; simp)
      rw [this]
      simp [putN, h128]

theorem sp20_nb (l : List Nat) (n k : Nat) (hn : n = l.length) (hk : k = l.length) (c2 : Option Nat) (e : Int) : sp20 [.list n (some n) (nb l), .v (.int .i64 e), .list k c2 (nb l), .v (.int .i64 e)] = some (.v (.bool true)) := by
  subst hk
  have := sp20_same (l.map fun (x : Nat) => (x : Int)) n (by simpa using hn) c2 e
  rw [← nb_ib] at this
  subst hn
  exact this

/-- What is read as a number is written again. -/
theorem putN_getN {l : List Nat} (hb : isBy l) (h : (getN l).2 = 0) : putN (getN l).1 = l ∧ (getN l).1.length ≤ 64 ∧ (getN l).1.head? ≠ some 0 := by
  unfold getN at h ⊢
  by_cases hbad : badN l = true
  · rw [if_pos hbad] at h; cases h
  rw [if_neg hbad] at h ⊢
  by_cases h64 : 64 < (stripZ l).length
  · rw [if_pos h64] at h; cases h
  rw [if_neg h64]
  refine ⟨?_, by simpa using h64, by simp only; rw [stripZ_eq l hb]; exact byt_head _⟩
  cases l with
  | nil => exact absurd rfl hbad
  | cons a r =>
    have hbd : (sup ((a :: r).map fun (x : Nat) => (x : Int)) || decide (128 ≤ a)) = false := by simpa [badN] using hbad
    simp only [Bool.or_eq_false_iff, decide_eq_false_iff_not] at hbd
    cases a with
    | succ a =>
      show putN ((a + 1) :: r) = _
      simp only [putN, if_neg hbd.2]
    | zero =>
      show putN (stripZ r) = _
      cases r with
      | nil => rfl
      | cons b r =>
        have h1 : ¬ (b : Int) < 128 := by
          have := hbd.1
          simp [sup] at this
          omega
        cases b with
        | zero => omega
        | succ b =>
          show putN ((b + 1) :: r) = _
          simp only [putN]
          rw [if_pos (by omega)]

theorem lives_plain {R : Type} (k : Bool → Option R) : ((sp27 []).bind fun d => (rdB (some d)).bind fun b => k b) = k true := by
  rw [lives_eq]; rfl

theorem get_j10 (l : List Nat) (hb : isBy l) (hl : l.length ≤ 80) (c : Option Nat) : F4_4_j10 M l.length c (nb l) = some (.v (.bool true)) := by
  rw [F4_4_j10_e]
  obtain ⟨c1, h32⟩ := sp32_eq l hb _ rfl (by omega) c
  have h77 := sp77_eq l hb _ rfl (by omega) c
  have h33 : sp33 [.list l.length c (nb l), .list (getN l).1.length c1 (nb (getN l).1), .v (.int .i64 (getN l).2)] = some (.v (.bool true)) := by
    simp only [sp33, F33]
    rw [h77]
    simp only [Option.bind_some, rdT, List.length_cons, List.length_nil, List.getElem?_cons_zero, List.getElem?_cons_succ, rdL, rdI, if_true]
    rw [sp20_nb _ _ _ rfl rfl]
    rfl
  rw [h32]
  simp only [Option.bind_some, rdT, List.length_cons, List.length_nil, List.getElem?_cons_zero, List.getElem?_cons_succ, rdL, rdI, if_true]
  rw [h33]
  simp only [Option.bind_some, rdB, Bool.not_true, cond_false]
  by_cases h0 : (getN l).2 = 0
  · obtain ⟨h1, h2, h3⟩ := putN_getN hb h0
    rw [h0, show ((0 : Int) != 0) = false from rfl, cond_false, sp34_eq _ _ rfl c1 h2 h3, h1]
    simp only [Option.bind_some, rdT, List.length_cons, List.length_nil, List.getElem?_cons_zero, List.getElem?_cons_succ, rdL, rdI, if_true]
    rw [sp20_nb _ _ _ rfl rfl]
    simp only [Option.bind_some, rdB, cond_true]
    exact lives_plain _
  · rw [show ((getN l).2 != 0) = true by simp [h0], cond_true]
    exact lives_plain _

theorem get_j7 (l : List Nat) (hb : isBy l) (hl : l.length ≤ 80) (c : Option Nat) : F4_4_j7 M l.length c (nb l) = some (.v (.bool true)) := by
  rw [F4_4_j7_e]
  have hB := isB_cast hb
  have hlen : (l.map fun (x : Nat) => (x : Int)).length = l.length := by simp
  have h31 := sp31_eq _ hB (by rw [hlen]; omega) l.length hlen.symm c
  have h73 := sp73_eq _ hB (by rw [hlen]; omega) l.length hlen.symm c
  rw [← nb_ib] at h31 h73
  have h21 : sp21 [.list l.length c (nb l), .v (.int .i64 (getI (l.map fun (x : Nat) => (x : Int))).1), .v (.int .i64 (getI (l.map fun (x : Nat) => (x : Int))).2)] = some (.v (.bool true)) := by
    simp only [sp21, F21]
    rw [h73]
    simp [rdT, rdI]
  rw [h31]
  simp only [Option.bind_some, rdT, List.length_cons, List.length_nil, List.getElem?_cons_zero, List.getElem?_cons_succ, rdL, rdI, if_true]
  rw [h21]
  simp only [Option.bind_some, rdB, Bool.not_true, cond_false]
  have h10 := get_j10 l hb hl c
  by_cases h0 : (getI (l.map fun (x : Nat) => (x : Int))).2 = 0
  · have hput : putI (getI (l.map fun (x : Nat) => (x : Int))).1 = l.map fun (x : Nat) => (x : Int) := by
      cases hli : (l.map fun (x : Nat) => (x : Int)) with
      | nil => rw [hli] at h0; cases h0
      | cons a r =>
        rw [hli] at h0 hB
        simp only [getI] at h0 ⊢
        by_cases hs : sup (a :: r) = true
        · simp [hs] at h0
        · simp only [hs] at h0 ⊢
          by_cases h8 : 8 < (a :: r).length
          · rw [if_neg (by simp), if_pos h8] at h0; cases h0
          · rw [if_neg (by simp), if_neg h8]
            exact putI_getI hB (by simpa using hs) (by omega)
    rw [h0, show ((0 : Int) == 0) = true from rfl, cond_true, sp18_eq, hput]
    simp only [Option.bind_some, rdL]
    rw [← nb_ib]
    simp only [nb_length, bytesOf_nb, Option.bind_some, if_true, List.length_map, str_eq hb hb, decide_true, Bool.not_true, cond_false, h10]
  · rw [show ((getI (l.map fun (x : Nat) => (x : Int))).2 == 0) = false by simp [h0], cond_false]
    exact h10

/-- ScalarsGet. -/
theorem get_true (l : List Nat) (hb : isBy l) (c : Option Nat) : F4 M l.length c (nb l) = some (.v (.bool true)) := by
  simp only [F4]
  by_cases hl : 80 < l.length
  · rw [decide_eq_true (by omega), cond_true]
    exact lives_plain _
  · rw [decide_eq_false (by omega), cond_false]
    have h7 := get_j7 l hb (by omega) c
    rw [sp28_eq l hb _ rfl, sp29_eq l hb _ rfl]
    simp only [Option.bind_some, rdT, List.length_cons, List.length_nil, List.getElem?_cons_zero, List.getElem?_cons_succ, rdL, rdI, rdB, if_true, beq_self_eq_true, Bool.not_true, cond_false, bne_self_eq_false]
    by_cases h0 : (getB l).2 = 0
    · have hp := getB_put h0
      rw [h0, show ((0 : Int) == 0) = true from rfl, cond_true, sp30_eq, hp]
      have hl1 : l.length = 1 := by rw [← hp]; rfl
      simp only [Option.bind_some, rdL]
      rw [if_pos (by rw [nb_length]; exact hl1)]
      simp only [nb_length, bytesOf_nb, Option.bind_some, if_true, str_eq hb hb, decide_true, Bool.not_true, cond_false, h7]
    · rw [show ((getB l).2 == 0) = false by simp [h0], cond_false]
      exact h7
end Go.Ev
