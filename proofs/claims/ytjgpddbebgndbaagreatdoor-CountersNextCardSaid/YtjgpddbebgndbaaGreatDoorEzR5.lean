/-
  The statements about one step, and about all counters of a chain.
-/
import Derived.Test.YtjgpddbebgndbaaGreatDoorEzR4
set_option linter.unusedSimpArgs false
set_option linter.unusedVariables false
set_option maxRecDepth 100000
namespace Go.Ev
open Go

theorem ctr3_eq (c d : C3) : cellsEq [.int, .int, .int] (ctr3 c) (ctr3 d) = some (decide (c = d)) := by
  obtain ⟨a, b, e⟩ := c
  obtain ⟨a', b', e'⟩ := d
  simp only [cellsEq, scalarEq, if_true, Option.bind_some, Option.some.injEq, Prod.mk.injEq]
  by_cases h1 : a = a'
  · by_cases h2 : b = b'
    · by_cases h3 : e = e'
      · subst h1; subst h2; subst h3; simp
      · rw [i_ne h3]; simp [h3]
    · rw [i_ne h2]; simp [h2]
  · rw [i_ne h1]; simp [h1]
theorem ctrErr_zero {e m a : Int} (h : ctrErr e m a = 0) : In65 (e, m, a) := by
  unfold ctrErr at h
  split at h
  · rename_i h1
    unfold ctrOk at h1
    simp only [Bool.and_eq_true, decide_eq_true_eq] at h1
    exact ⟨h1.1.1.1, h1.1.1.2, h1.1.2.1, h1.1.2.2, h1.2.1, h1.2.2⟩
  · cases h
theorem ctrErr_one {e m a : Int} (h : ctrErr e m a ≠ 0) : ctrErr e m a = 1 := by
  unfold ctrErr at h ⊢
  split
  · rename_i h1; rw [if_pos h1] at h; exact absurd rfl h
  · rfl
theorem afterR_le {s : Bool} {x lim : Int} (h0 : 0 ≤ x) (h1 : x ≤ 65) : afterR s x lim ≤ x := by
  rw [afterR_eq h0 h1]
  split <;> split <;> omega
theorem t2 {a b : D} : [a, b].length = 2 := rfl

theorem law_CountersNext (e m a : Int) {x : Ri} (h : x.ok) : sp_law24_CountersNext [.agg (ctrC e m a), .agg x.cells] = some (.v (.bool true)) := by
  show F_law24_CountersNext M e m a (x.self : Int) x.p.length x.pc (n8 x.p) x.m.length x.mc (n8 x.m) (x.c0 : Int) (x.c1 : Int) (x.c2 : Int) = _
  unfold F_law24_CountersNext
  have hg : x.rcd.good := ⟨x.rcd_ok, x.rcd_err⟩
  have hE := law_records_Check x.rcd_ok
  rw [x.rcd_err] at hE
  have hl3 : (if stepErr e m a 0 = 0 then ctrC (afterC x.rcd.s e x.rcd.r) (afterC x.rcd.s m x.rcd.i) (afterC x.rcd.s a x.rcd.y) else ctrC 0 0 0).length = 3 := by split <;> rfl
  refine st_bind (law_R_Of h) ?_
  refine st_bind (rdA_v _) ?_
  refine st_if (Rcd.cells_len _) ?_
  refine st_bind (law_counters_Next hE) ?_
  refine st_bind (rdT_v _) ?_
  refine st_if t2 ?_
  refine st_bind (rdA_v _) ?_
  refine st_bind (rdI_v _ _) ?_
  refine st_if hl3 ?_
  refine st_bind (law_counters_Wrap hE) ?_
  refine st_bind (rdT_v _) ?_
  refine st_if t2 ?_
  refine st_bind (rdI_v _ _) ?_
  refine st_bind (rdI_v _ _) ?_
  refine st_bind (law_law24_check _ _ _) ?_
  refine st_bind (rdI_v _ _) ?_
  by_cases h0 : ctrErr e m a = 0
  · have hin := ctrErr_zero h0
    have hs : stepErr e m a 0 = 0 := by unfold stepErr; rw [if_pos h0]
    rw [hs, h0]
    simp only [if_true]
    refine st_cF rfl ?_
    refine st_cF rfl ?_
    refine st_cF rfl ?_
    refine st_bind (law_ref24_Next _ _ _ _ _ _ _ _ _ _ _ _ _ _ _) ?_
    refine st_bind (rdA_v _) ?_
    refine st_bind (ctr3_eq (x.rcd.nx (e, m, a)) (x.rcd.nxR (e, m, a))) ?_
    rw [decide_eq_true (Rcd.nx_eq hin)]
    refine st_cF rfl ?_
    refine st_bind (law_ref24_Wrap _ _ _ _ _ _ _ _ _ _ _ _ _ _ _) ?_
    refine st_bind (rdI_v _ _) ?_
    obtain ⟨h1, h2, h3, h4, h5, h6⟩ := hin
    dsimp only at h1 h2 h3 h4 h5 h6
    rw [wrap_eq h1 h2]
    refine st_cF (i_bnf rfl) ?_
    have le1 := afterR_le (s := x.rcd.s) (lim := x.rcd.r) h1 h2
    have le2 := afterR_le (s := x.rcd.s) (lim := x.rcd.i) h3 h4
    have le3 := afterR_le (s := x.rcd.s) (lim := x.rcd.y) h5 h6
    have le4 : cond (x.rcd.r == 0) 0 (mm false (IntKind.wrap .i64 (e - 1)) 0) ≤ e := by
      cases (x.rcd.r == 0) with
      | true => exact h1
      | false =>
        simp only [cond_false]
        rw [wrap_id (by omega) (by omega)]
        unfold mm
        simp only [Bool.false_eq_true, if_false]
        split <;> omega
    rw [F_law24_CountersNext_j8_e, afterC_R h1 h2, afterC_R h3 h4, afterC_R h5 h6]
    refine st_bind (rdI_v _ _) ?_
    refine st_cT (decide_eq_true le1) ?_
    refine st_bind (rdI_v _ _) ?_
    refine st_cT (decide_eq_true le2) ?_
    refine st_bind (rdI_v _ _) ?_
    refine st_cT (decide_eq_true le3) ?_
    refine st_cT (decide_eq_true le4) ?_
    exact st_bind law_lives (st_bind (rdB_v _) rfl)
  · have h1 := ctrErr_one h0
    have hs : stepErr e m a 0 = 1 := by unfold stepErr; rw [if_neg h0, h1]
    rw [hs, h1]
    simp only [show ¬ ((1 : Int) = 0) by omega, if_false]
    refine st_cT rfl ?_
    refine st_cT rfl ?_
    refine st_cT rfl ?_
    refine st_bind (law_three _ _ _) ?_
    refine st_bind (rdA_v _) ?_
    refine st_bind (ctr3_eq (0, 0, 0) (0, 0, 0)) ?_
    refine st_cT rfl ?_
    refine st_cT rfl ?_
    exact st_bind law_lives (st_bind (rdB_v _) rfl)

section
variable {l : List Rcd} (h : Chain l) {cp : Option Nat} {u : List Oid} {cu : Option Nat} {x y z : Bool}
include h
end
end Go.Ev
