/-
  The statements about one step, and about all counters of a chain.
-/
import Derived.Test.YtjgpddbebgndbaaGreatDoorEzR4
set_option linter.unusedSimpArgs false
set_option linter.unusedVariables false
set_option maxRecDepth 100000
namespace Go.Ev
open Go

theorem ctr3_eq (c d : C3) : cellsEq [.int, .int, .int] (ctr3 c) (ctr3 d) = some (decide (c = d)) := by
  obtain ⟨a, b, e⟩ := c
  obtain ⟨a', b', e'⟩ := d
  simp only [cellsEq, scalarEq, if_true, Option.bind_some, Option.some.injEq, Prod.mk.injEq]
  by_cases h1 : a = a'
  · by_cases h2 : b = b'
    · by_cases h3 : e = e'
      · subst h1; subst h2; subst h3; simp
      · rw [i_ne h3]; simp [h3]
    · rw [i_ne h2]; simp [h2]
  · rw [i_ne h1]; simp [h1]
theorem t2 {a b : D} : [a, b].length = 2 := rfl

section
variable {l : List Rcd} (h : Chain l) {cp : Option Nat} {u : List Oid} {cu : Option Nat} {x y z : Bool}
theorem statesC_get {s : C3} {k : Nat} (hk : k < l.length) : ((((states Rcd.nx s l).map ctr3).flatten).drop (k * 3)).take 3 = ctr3 (stAt l s k) := by
  rw [row_get (fun c _ => ctr3_len c) (by rw [states_length]; exact hk), states_get hk]
theorem statesC_len (s : C3) : (((states Rcd.nx s l).map ctr3).flatten).length = l.length * 3 := by
  rw [rows_len (fun c _ => ctr3_len c), states_length]
include h
theorem all_7 {m : Nat} {y0_4 : Option Nat} {y0_7 : Nat} {y0_8 : Option Nat} {y0_9 : List D} {y0_10 y0_11 : Int} : ∀ (c k : Nat), l.length - k < c → k ≤ l.length →
    F_law24_CountersAll_7 m c l.length cp (rcdsC l) l.length y0_4 (((states Rcd.nx (c0 l.length x y z) l).map ctr3).flatten) (k : Int) y0_7 y0_8 y0_9 y0_10 y0_11 (inC u cu x y z) = some (.v (.bool true))
  | 0, k, hc, hk => by omega
  | c + 1, k, hc, hk => by
    have hle := h.le
    have hsl := statesC_len (l := l) (c0 l.length x y z)
    rw [F_law24_CountersAll_7_s]
    simp only [Int.toNat_natCast]
    by_cases hlt : k < l.length
    · refine st_cT (decide_eq_true (by omega)) ?_
      refine st_if (by omega) ?_
      refine st_if (by omega) ?_
      rw [wrap_succ (by omega), statesC_get hlt]
      refine st_bind (law_ref24_Before h cp u cu x y z (by omega)) ?_
      refine st_bind (rdA_v _) ?_
      refine st_bind (ctr3_eq _ _) ?_
      rw [decide_eq_true rfl]
      refine st_cF rfl ?_
      exact all_7 c (k + 1) (by omega) (by omega)
    · refine st_cF (decide_eq_false (by omega)) ?_
      exact st_bind law_lives (st_bind (rdB_v _) rfl)
end
theorem inC_len {l : List Oid} {cp : Option Nat} {x y z : Bool} : (inC l cp x y z).length = 4 := rfl

theorem law_CountersAll {x : Ci} (hx : x.ok) : sp_law24_CountersAll [.agg x.cells] = some (.v (.bool true)) := by
  show F_law24_CountersAll M x.l.length x.lc (risC x.l) (x.u : Int) (x.f : Int) = _
  unfold F_law24_CountersAll
  have h := x.chain_ok
  have hall := h.all x.ini_good
  have h1 := law_counters_All (Rcd.does x.chain) h.chk none x.ini_ok x.ini.2 x.x x.y x.z
  have h2 := law_counters_Final (Rcd.does x.chain) h.chk none x.ini_ok x.ini.2 x.x x.y x.z
  rw [if_pos hall] at h1 h2
  refine st_bind (law_C_Of hx) ?_
  refine st_bind (rdT_v _) ?_
  refine st_if t2 ?_
  refine st_bind (rdL_v _ _ _) ?_
  refine st_bind (rdA_v _) ?_
  refine st_if inC_len ?_
  refine st_bind h1 ?_
  refine st_bind (rdT_v _) ?_
  refine st_if t2 ?_
  refine st_bind (rdL_v _ _ _) ?_
  refine st_bind (rdI_v _ _) ?_
  refine st_bind h2 ?_
  refine st_bind (rdT_v _) ?_
  refine st_if t2 ?_
  refine st_bind (rdI_v _ _) ?_
  refine st_bind (rdI_v _ _) ?_
  refine st_cF rfl ?_
  refine st_cF rfl ?_
  refine st_cF (i_bnf rfl) ?_
  dsimp only
  rw [capO_some]
  refine st_cF (i_bnf rfl) ?_
  refine st_bind (law_ref24_Final h none x.ini.1 x.ini.2 x.x x.y x.z) ?_
  refine st_bind (rdI_v _ _) ?_
  refine st_cF (i_bnf rfl) ?_
  rw [F_law24_CountersAll_j6_e]
  have := h.le
  exact all_7 h M 0 (by unfold M; omega) (by omega)
end Go.Ev
