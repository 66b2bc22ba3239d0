/-
  Records and chains without qualifiers: what the reference's checks return; chains.
-/
import Derived.Test.YtjgpddbebgndbaaGreatDoorEzL7
set_option linter.unusedSimpArgs false
set_option linter.unusedVariables false
set_option maxRecDepth 100000
namespace Go.Ev
open Go

/-- The two before it. -/
def Rcd.pairE (q : Rcd) (i k : Nat) (rest : Int) : Int := cond (hasFrom (q.ms.take i) (q.ms.getD i ⟨⟨0, []⟩, ⟨0, []⟩⟩) k) 14 rest

theorem rpair_loop (m n0 : Nat) {q : Rcd} (h : q.ok) (hb : q.ms.length < 1000000) {i : Nat} (hi : i < q.ms.length) {rest : Int}
    (hr : F_ref23_Check_14 m n0 ((i + 1 : Nat) : Int) q.s q.hp q.ps.length q.pc (polsC q.ps) q.hm q.ms.length q.mc (mapsC q.ms) q.r q.i q.y = some (.v (.int .i64 rest))) : ∀ (c k : Nat), i - k < c → k ≤ i →
    F_ref23_Check_23 m n0 c (i : Int) (k : Int) q.s q.hp q.ps.length q.pc (polsC q.ps) q.hm q.ms.length q.mc (mapsC q.ms) q.r q.i q.y = some (.v (.int .i64 (cond (hasFrom (q.ms.take i) q.ms[i] k) 14 rest)))
  | 0, k, hc, hk => by omega
  | c + 1, k, hc, hk => by
    have hl := mapsC_len h.ms
    have e0 : IntKind.wrap .i64 ((i : Int) + 1) = ((i + 1 : Nat) : Int) := wrap_of (by omega) (by omega)
    have e1 : IntKind.wrap .i64 ((k : Int) + 1) = ((k + 1 : Nat) : Int) := wrap_of (by omega) (by omega)
    rw [F_ref23_Check_23_s, e0, hr, e1]
    by_cases hlt : k < i
    · have hk' : k < q.ms.length := by omega
      rw [decide_eq_true (by omega), cond_true, if_pos (by omega)]
      simp only [Int.toNat_natCast]
      rw [if_pos (by omega), if_pos (by omega), if_pos (by omega), mapsC_get h.ms hk', mapsC_get h.ms hi]
      have e2 := mp_eq (h.ms _ (List.getElem_mem hk')) (h.ms _ (List.getElem_mem hi))
      simp only [k17, List.cons_append, List.nil_append] at e2
      rw [e2, Option.bind_some, rpair_loop m n0 h hb hi hr c (k + 1) (by omega) (by omega), hasFrom_step (k := k) (by simp; omega), List.getElem_take]
      cases decide (q.ms[k] = q.ms[i]) <;> rfl
    · rw [decide_eq_false (by omega), cond_false, hasFrom_end (by simp; omega)]
      rfl

theorem rmaps_loop {q : Rcd} (h : q.ok) (hb : q.ms.length < 1000000) : ∀ (c k : Nat), q.ms.length - k < c → k ≤ q.ms.length →
    F_ref23_Check_14 M c (k : Int) q.s q.hp q.ps.length q.pc (polsC q.ps) q.hm q.ms.length q.mc (mapsC q.ms) q.r q.i q.y = some (.v (.int .i64 (q.mapsE k)))
  | 0, k, hc, hk => by omega
  | c + 1, k, hc, hk => by
    have hl := mapsC_len h.ms
    rw [F_ref23_Check_14_s]
    by_cases hlt : k < q.ms.length
    · have hok := h.ms _ (List.getElem_mem hlt)
      have hin := rpair_loop M c h hb hlt (rmaps_loop h hb c (k + 1) (by omega) (by omega)) M 0 (by unfold M; omega) (by omega)
      rw [decide_eq_true (by omega), cond_true, if_pos (by omega)]
      simp only [Int.toNat_natCast, Nat.add_zero]
      rw [if_pos (by omega), mapsC_i h.ms hlt, mapsC_s h.ms hlt, law_ref06_Check hok.i, law_ref06_Check hok.s, Option.bind_some, rdI_v, Option.bind_some, Oid.err_bne, Rcd.mapsE_step hlt, mapErr_eq hlt]
      cases hg : q.ms[k].i.good with
      | false => rw [Oid.err_bad hg]; rfl
      | true =>
        rw [if_neg (show ¬ (true = false) by simp), Bool.not_true, cond_false, if_pos (by omega), if_pos (by omega), Option.bind_some, rdI_v, Option.bind_some, Oid.err_bne]
        cases hg2 : q.ms[k].s.good with
        | false => rw [Oid.err_bad hg2]; rfl
        | true =>
          rw [if_neg (show ¬ (true = false) by simp), Bool.not_true, cond_false]
          rw [show ((0 : Nat) : Int) = 0 from rfl, hasFrom_zero] at hin
          rw [hin]
          cases (q.ms.take k).contains q.ms[k] <;> rfl
    · rw [decide_eq_false (by omega), cond_false, Rcd.mapsE_end (by omega)]

theorem rpols_loop {q : Rcd} (h : q.ok) (hb : q.ps.length < 1000000) (hb2 : q.ms.length < 1000000) : ∀ (c k : Nat), q.ps.length - k < c → k ≤ q.ps.length →
    F_ref23_Check_8 M c (k : Int) q.s q.hp q.ps.length q.pc (polsC q.ps) q.hm q.ms.length q.mc (mapsC q.ms) q.r q.i q.y = some (.v (.int .i64 (q.polsE k)))
  | 0, k, hc, hk => by omega
  | c + 1, k, hc, hk => by
    rw [F_ref23_Check_8_s]
    by_cases hlt : k < q.ps.length
    · have e1 : IntKind.wrap .i64 ((k : Int) + 1) = ((k + 1 : Nat) : Int) := wrap_of (by omega) (by omega)
      rw [decide_eq_true (by omega), cond_true, law_ref23_policy h.ps h.q0 hb q.pc hlt, Option.bind_some, rdI_v, Option.bind_some, e1, rpols_loop h hb hb2 c (k + 1) (by omega) (by omega), Rcd.polsE_step hlt]
      by_cases h0 : polErr q.ps k = 0
      · rw [if_pos h0, h0]; rfl
      · rw [if_neg h0, bne_iff_ne.2 h0]; rfl
    · rw [decide_eq_false (by omega), cond_false, Rcd.polsE_end (by omega)]
      exact rmaps_loop h hb2 M 0 (by unfold M; omega) (by omega)

theorem if_or {α : Type} {a b : Prop} [Decidable a] [Decidable b] {x y : α} : (if a ∨ b then x else y) = if a then x else if b then x else y := by
  by_cases h : a
  · rw [if_pos h, if_pos (.inl h)]
  · by_cases h2 : b
    · rw [if_neg h, if_pos h2, if_pos (.inr h2)]
    · rw [if_neg h, if_neg h2, if_neg (by rintro (k | k); exact h k; exact h2 k)]

theorem law_ref23_Check {q : Rcd} (h : q.ok) : sp_ref23_Check [.agg q.cells] = some (.v (.int .i64 q.err)) := by
  show F_ref23_Check M q.s q.hp q.ps.length q.pc (polsC q.ps) q.hm q.ms.length q.mc (mapsC q.ms) q.r q.i q.y = _
  have h7 : q.shape = 0 → F_ref23_Check_j7 M q.s q.hp q.ps.length q.pc (polsC q.ps) q.hm q.ms.length q.mc (mapsC q.ms) q.r q.i q.y = some (.v (.int .i64 (q.polsE 0))) := fun h0 => by
    have := Rcd.shape_small h0
    rw [F_ref23_Check_j7_e]
    exact rpols_loop h (by omega) (by omega) M 0 (by unfold M; omega) (by omega)
  have key : F_ref23_Check M q.s q.hp q.ps.length q.pc (polsC q.ps) q.hm q.ms.length q.mc (mapsC q.ms) q.r q.i q.y =
      if 0 < q.ps.length ∧ q.hp = false ∨ 0 < q.ms.length ∧ q.hm = false ∨ q.r < -1 ∨ q.i < -1 ∨ q.y < -1 then some (.v (.int .i64 1))
      else if 2147483647 < q.r ∨ 2147483647 < q.i ∨ 2147483647 < q.y ∨ 64 < q.ps.length ∨ 64 < q.ms.length then some (.v (.int .i64 3))
      else if q.hp = true ∧ q.ps.length = 0 ∨ q.hm = true ∧ q.ms.length = 0 then some (.v (.int .i64 17)) else F_ref23_Check_j7 M q.s q.hp q.ps.length q.pc (polsC q.ps) q.hm q.ms.length q.mc (mapsC q.ms) q.r q.i q.y := by
    unfold F_ref23_Check
    rw [F_ref23_Check_j3_e, F_ref23_Check_j5_e]
    generalize F_ref23_Check_j7 M q.s q.hp q.ps.length q.pc (polsC q.ps) q.hm q.ms.length q.mc (mapsC q.ms) q.r q.i q.y = R
    have z : ∀ n : Nat, ((n : Int) == 0) = decide (n = 0) := fun n => by
      by_cases h : n = 0
      · subst h; rfl
      · rw [decide_eq_false h, beq_eq_false_iff_ne]; omega
    have g0 : ∀ n : Nat, decide ((n : Int) > 0) = decide (0 < n) := fun n => by congr 1; apply propext; omega
    have g64 : ∀ n : Nat, decide ((n : Int) > 64) = decide (64 < n) := fun n => by congr 1; apply propext; omega
    rw [z, z, g0, g0, g64, g64]
    generalize q.hp = hp
    generalize q.hm = hm
    cases hp <;> cases hm <;> simp only [Bool.cond_decide, cond_true, cond_false, Bool.not_true, Bool.not_false, reduceCtorEq, and_false, false_or, or_false, and_true, true_and, false_and, if_or, ite_self, gt_iff_lt, if_false]
  rw [key]
  unfold Rcd.err
  by_cases h0 : q.shape = 0
  · rw [h7 h0, if_pos h0]
    unfold Rcd.shape at h0
    split at h0
    · cases h0
    · rename_i h1
      split at h0
      · cases h0
      · rename_i h2
        split at h0
        · cases h0
        · rename_i h3
          rw [if_neg h1, if_neg h2, if_neg h3]
  · rw [if_neg h0]
    unfold Rcd.shape at h0 ⊢
    split
    · rfl
    · split
      · rfl
      · split
        · rfl
        · rename_i h1 h2 h3
          rw [if_neg h1, if_neg h2, if_neg h3] at h0
          exact absurd rfl h0
end Go.Ev
