/-
  The evaluator: EzU4 EzU5 EzU6 EzU7.
-/
import Derived.Test.YtkefahdbckjajaaGreatDoorEzU3
/-
  The reference's lines, and nodes that are found.
-/
set_option linter.unusedSimpArgs false
set_option linter.unusedVariables false
set_option maxRecDepth 100000
namespace Go.Ev
open Go

end Go.Ev

/-
  The trees of the statements: sets, nodes, additions by the reference.
-/
set_option linter.unusedSimpArgs false
set_option linter.unusedVariables false
set_option maxRecDepth 100000
namespace Go.Ev
open Go

/-! ### A node -/
theorem rnode_loop {m : Nat} {x : Cd} (h : x.n.ok) (hq : x.n.q.length < 1000000000) : ∀ (c i : Nat), x.n.q.length - i < c → i ≤ x.n.q.length →
    Zen m c (i : Int) x.cells = some (.v (.int .i64 0))
  | 0, i, hc, hi => by omega
  | c + 1, i, hc, hi => by
    have hql := qsC_len x.n.q
    rw [Zr4]
    simp only [Int.toNat_natCast]
    refine st_bind (rdL_get (Cd.at19 h)) ?_
    dsimp only
    by_cases hlt : i < x.n.q.length
    · refine st_cT (decide_eq_true (by omega)) ?_
      refine st_bind (rdL_get (Cd.at19 h)) ?_
      dsimp only
      refine st_if (by omega) ?_
      refine st_if (by omega) ?_
      rw [qsC_get hlt]
      refine st_bind (rchk_q _) ?_
      refine st_bind (rdI_v _ _) ?_
      refine st_cF rfl ?_
      rw [wrap_succ (by omega)]
      exact rnode_loop h hq c (i + 1) (by omega) (by omega)
    · exact st_cF (decide_eq_false (by omega)) rfl
theorem Zvj {x : Cd} (h : x.n.ok) (hq : x.n.q.length < 1000000000) : Zeo [.agg x.cells] = some (.v (.int .i64 (ndE x.n))) := by
  show Zjy M x.cells = _
  unfold Zjy ndE
  refine st_if (Cd.cells_len h) ?_
  rw [Cd.pol_at h]
  refine st_bind (Znh h.pol) ?_
  refine st_bind (rdI_v _ _) ?_
  rw [Oid.err_bne]
  cases hg : x.n.pol.good with
  | false =>
    refine st_cT rfl ?_
    rw [if_pos rfl, Oid.err_bad hg]
  | true =>
    refine st_cF rfl ?_
    rw [if_neg (by simp)]
    refine st_bind (rdL_get (Cd.at18 h)) ?_
    refine st_bind (Zsv h.ex _) ?_
    refine st_bind (rdI_v _ _) ?_
    by_cases hs : setErr x.n.ex = 0
    · rw [if_neg (by simp [hs])]
      refine st_cF (i_bnf hs) ?_
      refine st_bind (rdL_get (Cd.at19 h)) ?_
      by_cases h8 : 8 < x.n.q.length
      · rw [if_pos h8]
        exact st_cT (decide_eq_true (by dsimp only; omega)) rfl
      · rw [if_neg h8]
        refine st_cF (decide_eq_false (by dsimp only; omega)) ?_
        exact rnode_loop h hq M 0 (by unfold M; omega) (by omega)
    · rw [if_pos hs]
      exact st_cT (i_bne hs) rfl

end Go.Ev

/-
  The trees of the statements: additions by the reference; T.Of.
-/
set_option linter.unusedSimpArgs false
set_option linter.unusedVariables false
set_option maxRecDepth 100000
namespace Go.Ev
open Go

section
variable {l : List Cd} {x : Cd}
end
end Go.Ev

/-
  The trees of the statements: T.Of.
-/
set_option linter.unusedSimpArgs false
set_option linter.unusedVariables false
set_option maxRecDepth 100000
namespace Go.Ev
open Go

def T4.cells (t : T4) : List D := [.v (.int .u8 (t.a : Int)), .v (.int .u8 (t.b : Int)), .v (.int .u8 (t.c : Int)), .v (.int .u8 (t.d : Int))]
def T4.ok (t : T4) : Prop := t.a < 256 ∧ t.b < 256 ∧ t.c < 256 ∧ t.d < 256
theorem CdsB.nil : CdsB [] := ⟨(fun x hx => nomatch hx), by decide, (fun x hx => nomatch hx), (fun x hx => nomatch hx)⟩
/-- A tree of the statements. -/
structure Tr (l : List Cd) : Prop where
  b : CdsB l
  t : Tree (nds l)
  len : l.length ≤ 25
end Go.Ev
