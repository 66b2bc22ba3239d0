/-
  The law ScalarsNats in plain form: true of every number.
-/
import Derived.Test.YtilgfaangfbndaaDoorEvS6
import Derived.Test.YtilgfaangfbndaaDoorEvG5c
set_option linter.unusedSimpArgs false
set_option linter.unusedVariables false
set_option maxRecDepth 100000
namespace Go.Ev
open Go

/-- N.Of: a valid number. -/
def ofN (l : List Nat) : List Nat := stripZ (l.take 64)
theorem ofN_isBy {l : List Nat} (h : isBy l) : isBy (ofN l) := by
  unfold ofN
  rw [stripZ_eq _ (isBy_take h 64)]
  exact byt_isBy _
theorem ofN_len (l : List Nat) : (ofN l).length ≤ 64 := by
  have := stripZ_len (l.take 64)
  rw [List.length_take] at this
  unfold ofN; omega
theorem ofN_head {l : List Nat} (h : isBy l) : (ofN l).head? ≠ some 0 := by
  unfold ofN
  rw [stripZ_eq _ (isBy_take h 64)]
  exact byt_head _

theorem of_j6 (l : List Nat) (hl : l.length ≤ 1000000) (c : Option Nat) : ∃ c', F39_39_j6 M l.length c (nb l) = some (.list l.length c' (nb l)) := by
  cases l with
  | nil => exact ⟨some 0, rfl⟩
  | cons a r =>
    refine ⟨none, ?_⟩
    rw [F39_39_j6_e]
    simp only [Nat.zero_add, Nat.mul_one, nb_length, if_true, List.nil_append]
    rw [if_neg (by simp), if_pos ⟨fits_len (by omega) (by omega), trivial⟩, if_pos (Nat.le_refl _), cutL_all (nb_length _)]

theorem of_strip : ∀ (n : Nat) (l : List Nat) (c : Option Nat), l.length < n → l.length ≤ 1000000 → ∃ c', F39_39_4 M n l.length c (nb l) = some (.list (stripZ l).length c' (nb (stripZ l)))
  | 0, _, _, h, _ => by omega
  | n + 1, [], c, _, _ => by
    rw [F39_39_4_s]
    exact of_j6 [] (by simp) c
  | n + 1, x :: l, c, h, hl => by
    have e0 : (0 : Int) ≤ 0 ∧ (0 : Int) < ((x :: l).length : Int) := by simp <;> omega
    have e1 : (0 : Int) ≤ 1 ∧ (1 : Int) ≤ ((x :: l).length : Int) := by simp <;> omega
    rw [F39_39_4_s, decide_eq_true e0.2, cond_true, if_pos e0]
    simp only [nb_cons, List.getElem?_cons_zero, rdIu8, Option.bind_some]
    by_cases hx : x = 0
    · subst hx
      obtain ⟨c', ih⟩ := of_strip n l (Option.map (fun q => q - 1) c) (by simp at h; omega) (by simp at hl; omega)
      refine ⟨c', ?_⟩
      rw [show (((0 : Nat) : Int) == 0) = true from rfl, cond_true, F39_39_j5_e, if_pos e1]
      simp only [List.length_cons, Nat.add_sub_cancel, Nat.mul_one, List.drop_succ_cons, List.drop_zero]
      rw [List.take_of_length_le (by simp), ih]
      rfl
    · rw [show ((x : Int) == 0) = false by simp <;> omega, cond_false]
      have : stripZ (x :: l) = x :: l := by
        cases x with
        | zero => exact absurd rfl hx
        | succ x => rfl
      rw [this]
      exact of_j6 (x :: l) hl c

theorem sp39_eq (l : List Nat) (n : Nat) (hn : n = l.length) (c : Option Nat) : ∃ c', sp39 [.agg [.list n c (nb l)]] = some (.list (ofN l).length c' (nb (ofN l))) := by
  subst hn
  simp only [sp39, F39]
  by_cases h : 64 < l.length
  · rw [decide_eq_true (by omega), cond_true, if_pos (by omega), F39_39_j4_e, List.drop_zero, nb_take]
    have := of_strip M (l.take 64) (Option.map (fun q => q - 0) c) (by simp; unfold M; omega) (by simp; omega)
    rw [List.length_take, Nat.min_eq_left (by omega)] at this
    exact this
  · rw [decide_eq_false (by omega), cond_false, F39_39_j4_e]
    have := of_strip M l c (by unfold M; omega) (by omega)
    have e : l.take 64 = l := List.take_of_length_le (by omega)
    unfold ofN
    rw [e]
    exact this

theorem sp40_eq (m : List Nat) (n : Nat) (hn : n = m.length) (hl : m.length ≤ 64) (c : Option Nat) : ∃ c', sp40 [.list n c (nb m)] = some (.list (putN m).length c' (nb (putN m))) := by
  subst hn
  cases m with
  | nil => exact ⟨some 1, rfl⟩
  | cons a r =>
    have e1 : (0 : Int) ≤ 0 ∧ (0 : Int) < ((a :: r).length : Int) := by simp <;> omega
    have hx : rdI .u8 (nb (a :: r))[0]? = some (a : Int) := by rw [nb_cons]; simp [rdI]
    refine ⟨none, ?_⟩
    simp only [sp40, F40]
    rw [show (((a :: r).length : Int) == 0) = false by simp <;> omega, cond_false, if_pos e1, hx, Option.bind_some]
    simp only [Nat.zero_add, Nat.mul_one, nb_length, if_true]
    by_cases h128 : 128 ≤ a
    · rw [decide_eq_true (show (a : Int) > 127 by omega), cond_true, if_neg (by simp), if_pos ⟨fits_len (by omega) (by omega), trivial⟩, if_pos (Nat.le_refl _), cutL_all (by simp; omega)]
      simp only [putN, if_pos h128, List.length_cons]
      rw [Nat.add_comm 1]
      rfl
    · rw [decide_eq_false (show ¬ (a : Int) > 127 by omega), cond_false, F40_40_j3_e]
      simp only [Nat.zero_add, Nat.mul_one, nb_length, if_true, List.nil_append]
      rw [if_neg (by simp), if_pos ⟨fits_len (by omega) (by omega), trivial⟩, if_pos (Nat.le_refl _), cutL_all (nb_length _)]
      simp only [putN, if_neg h128]

theorem putN_isBy {m : List Nat} (h : isBy m) : isBy (putN m) := by
  cases m with
  | nil => exact isBy_one (by omega)
  | cons a r =>
    simp only [putN]
    split
    · intro x hx
      rcases List.mem_cons.1 hx with rfl | hx
      · omega
      · exact h x hx
    · exact h
theorem putN_len (m : List Nat) : (putN m).length ≤ m.length + 1 := by
  cases m with
  | nil => simp [putN]
  | cons a r => simp only [putN]; split <;> simp

/-- A number, written, is read again. -/
theorem getN_putN {m : List Nat} (hb : isBy m) (h64 : m.length ≤ 64) (h0 : m.head? ≠ some 0) : getN (putN m) = (m, 0) := by
  cases m with
  | nil => rfl
  | cons a r =>
    have ha : a ≠ 0 := by simpa using h0
    simp only [putN]
    by_cases h128 : 128 ≤ a
    · rw [if_pos h128]
      have hg : badN (0 :: a :: r) = false := by
        simp only [badN, List.map_cons, sup]
        rw [if_pos (by rfl), if_neg (by omega)]
        rfl
      have hs : stripZ (0 :: a :: r) = a :: r := by
        show stripZ (a :: r) = _
        cases a with
        | zero => exact absurd rfl ha
        | succ a => rfl
      rw [getN, hg, if_neg (by simp), hs, if_neg (by omega)]
    · rw [if_neg h128]
      have hg : badN (a :: r) = false := by
        have hsup : sup ((a :: r).map fun (x : Nat) => (x : Int)) = false := by
          cases r with
          | nil => rfl
          | cons b r =>
            simp only [List.map_cons, sup]
            rw [if_neg (by omega), if_neg (by omega)]
        simp only [badN, hsup, decide_eq_false h128]; rfl
      have hs : stripZ (a :: r) = a :: r := by
        cases a with
        | zero => exact absurd rfl ha
        | succ a => rfl
      rw [getN, hg, if_neg (by simp), hs, if_neg (by omega)]

theorem sp25_gen {l : List Int} {n : Nat} {c : Option Nat} {x e : Int} (h : sp73 [.list n c (ib l)] = some (.tup [.v (.int .i64 x), .v (.int .i64 e)])) : sp25 [.agg (elem 2 n c l)] = some (.tup [.v (.int .i64 x), .v (.int .i64 e)]) := by
  simp only [elem, sp25, F25]
  rw [h]
  simp [cellsEq, scalarEq, rdT, rdI]
theorem sp42_gen {l : List Nat} {n : Nat} {c : Option Nat} {q : Nat} {cq : Option Nat} {cs : List D} {e : Int} (h : sp77 [.list n c (nb l)] = some (.tup [.list q cq cs, .v (.int .i64 e)])) : sp42 [.agg (elem 2 n c (l.map fun (x : Nat) => (x : Int)))] = some (.tup [.list q cq cs, .v (.int .i64 e)]) := by
  simp only [elem, sp42, F42]
  rw [nb_ib] at h
  rw [h]
  simp [cellsEq, scalarEq, rdT, rdI, rdL]

theorem putI_of {l : List Int} (hB : isB l) (h0 : (getI l).2 = 0) : putI (getI l).1 = l := by
  cases l with
  | nil => cases h0
  | cons a r =>
    simp only [getI] at h0 ⊢
    by_cases hs : sup (a :: r) = true
    · simp [hs] at h0
    · simp only [hs] at h0 ⊢
      by_cases h8 : 8 < (a :: r).length
      · rw [if_neg (by simp), if_pos h8] at h0; cases h0
      · rw [if_neg (by simp), if_neg h8]
        exact putI_getI hB (by simpa using hs) (by omega)

theorem nats_j10 (p : List Nat) (hb : isBy p) (hl : p.length ≤ 100) (c c2 c3 : Option Nat) : F6_6_j10 M p.length c (nb p) p.length c2 (nb p) (elem 2 p.length c3 (p.map fun (x : Nat) => (x : Int))) = some (.v (.bool true)) := by
  rw [F6_6_j10_e]
  have hB := isB_cast hb
  have hlen : (p.map fun (x : Nat) => (x : Int)).length = p.length := by simp
  have h31 := sp31_eq _ hB (by rw [hlen]; omega) p.length hlen.symm c2
  have h73 := sp73_eq _ hB (by rw [hlen]; omega) p.length hlen.symm c3
  have h25 := sp25_gen h73
  rw [← nb_ib] at h31
  rw [h31, h25]
  simp only [Option.bind_some, rdT, List.length_cons, List.length_nil, List.getElem?_cons_zero, List.getElem?_cons_succ, rdL, rdI, if_true, beq_self_eq_true, cond_true]
  by_cases h0 : (getI (p.map fun (x : Nat) => (x : Int))).2 = 0
  · rw [h0, show ((0 : Int) != 0) = false from rfl, cond_false, sp18_eq, putI_of hB h0]
    simp only [Option.bind_some, rdL]
    rw [← nb_ib]
    simp only [nb_length, bytesOf_nb, Option.bind_some, if_true, List.length_map, str_eq hb hb, decide_true, cond_true]
    exact lives_plain _
  · rw [show ((getI (p.map fun (x : Nat) => (x : Int))).2 != 0) = true by simp [h0], cond_true]
    exact lives_plain _

theorem sp22_nb (tag : Int) (l : List Nat) (c : Option Nat) : sp22 [.agg (elem tag l.length (some l.length) (l.map fun (x : Nat) => (x : Int))), .v (.int .u32 tag), .list l.length c (nb l)] = some (.v (.bool true)) := by
  have := sp22_eq tag (l.map fun (x : Nat) => (x : Int)) c
  rw [← nb_ib, List.length_map] at this
  exact this

/-- ScalarsNats. -/
theorem nats_true (l : List Nat) (hb : isBy l) (c : Option Nat) : F6 M l.length c (nb l) = some (.v (.bool true)) := by
  obtain ⟨c1, h39⟩ := sp39_eq l _ rfl c
  have mb := ofN_isBy hb
  have m64 := ofN_len l
  have m0 := ofN_head hb
  revert h39 mb m64 m0
  generalize ofN l = m
  intro h39 mb m64 m0
  have pb := putN_isBy mb
  have pl := putN_len m
  have h34 := sp34_eq m _ rfl c1 m64 m0
  obtain ⟨c2, h40⟩ := sp40_eq m _ rfl m64 c1
  have h77 := sp77_eq (putN m) pb _ rfl (by omega) (some (putN m).length)
  rw [getN_putN mb m64 m0] at h77
  have h33 : sp33 [.list (putN m).length (some (putN m).length) (nb (putN m)), .list m.length c1 (nb m), .v (.int .i64 0)] = some (.v (.bool true)) := by
    simp only [sp33, F33]
    rw [h77]
    simp only [Option.bind_some, rdT, List.length_cons, List.length_nil, List.getElem?_cons_zero, List.getElem?_cons_succ, rdL, rdI, if_true]
    rw [sp20_nb _ _ _ rfl rfl]
    rfl
  have h74 := sp74_eq 2 (putN m).length (some (putN m).length) ((putN m).map fun (x : Nat) => (x : Int))
  rw [← nb_ib] at h74
  have h41 : sp41 [.list m.length c1 (nb m)] = some (.tup [.agg (elem 2 (putN m).length (some (putN m).length) ((putN m).map fun (x : Nat) => (x : Int))), .v (.int .i64 0)]) := by
    simp only [sp41, F41]
    rw [h34]
    simp only [Option.bind_some, rdT, List.length_cons, List.length_nil, List.getElem?_cons_zero, List.getElem?_cons_succ, rdL, rdI, if_true]
    rw [show ((0 : Int) != 0) = false from rfl, cond_false, h74]
    rfl
  simp only [F6]
  rw [h39]
  simp only [Option.bind_some, rdL]
  rw [h34, h40]
  simp only [Option.bind_some, rdT, List.length_cons, List.length_nil, List.getElem?_cons_zero, List.getElem?_cons_succ, rdL, rdI, if_true]
  rw [sp20_nb _ _ _ rfl rfl, h33]
  simp only [Option.bind_some, rdB, Bool.not_true, cond_false]
  rw [F6_6_j6_e, h41]
  simp only [Option.bind_some, rdT, List.length_cons, List.length_nil, List.getElem?_cons_zero, List.getElem?_cons_succ, rdA, rdI, if_true]
  rw [if_pos (by rfl), sp42_gen h77]
  simp only [Option.bind_some, rdT, List.length_cons, List.length_nil, List.getElem?_cons_zero, List.getElem?_cons_succ, rdL, rdI, if_true]
  rw [show ((0 : Int) != 0) = false from rfl, cond_false, sp22_nb, sp20_nb _ _ _ rfl rfl]
  simp only [Option.bind_some, rdB, Bool.not_true, cond_false]
  exact nats_j10 (putN m) pb (by omega) _ _ _
end Go.Ev
