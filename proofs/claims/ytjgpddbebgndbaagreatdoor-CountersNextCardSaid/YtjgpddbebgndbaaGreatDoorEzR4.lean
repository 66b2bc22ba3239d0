/-
  Chains of valid records: the counters before each certificate, by the program and by the reference.
-/
import Derived.Test.YtjgpddbebgndbaaGreatDoorEzR3
import Derived.Test.YtjgpddbebgndbaaGreatDoorEzLC
import Derived.Test.YtjgpddbebgndbaaGreatDoorEzG6
set_option linter.unusedSimpArgs false
set_option linter.unusedVariables false
set_option maxRecDepth 100000
namespace Go.Ev
open Go

/-- Valid, as far as the counters go. -/
structure Rcd.good (q : Rcd) : Prop where
  ok : q.ok
  err : q.err = 0
theorem Rcd.good.lim {q : Rcd} (h : q.good) : -1 ≤ q.r ∧ q.r ≤ 2147483647 ∧ -1 ≤ q.i ∧ q.i ≤ 2147483647 ∧ -1 ≤ q.y ∧ q.y ≤ 2147483647 := by
  have he := h.err
  have hs : q.shape = 0 := by
    unfold Rcd.err at he
    by_cases h0 : q.shape = 0
    · exact h0
    · rw [if_neg h0] at he; exact absurd he h0
  unfold Rcd.shape at hs
  split at hs
  · cases hs
  · split at hs
    · cases hs
    · omega
structure Chain (l : List Rcd) : Prop where
  pos : 1 ≤ l.length
  le : l.length ≤ 64
  good : ∀ q, q ∈ l → q.good
theorem firstL_zero {α : Type} {g : α → Int} : ∀ {l : List α}, (∀ x, x ∈ l → g x = 0) → firstL g l = 0
  | [], _ => rfl
  | x :: r, h => by unfold firstL; rw [if_pos (h x (by simp))]; exact firstL_zero (fun y hy => h y (by simp [hy]))
theorem Chain.err {l : List Rcd} (h : Chain l) : chainErr Rcd.err l = 0 := by
  have := h.pos
  have := h.le
  unfold chainErr
  rw [if_neg (by omega), if_neg (by omega)]
  exact firstL_zero fun q hq => (h.good q hq).err
theorem Chain.all {l : List Rcd} (h : Chain l) {u : List Oid} (hu : setErr u = 0) : allErr Rcd.err l u = 0 := by
  unfold allErr; rw [if_pos h.err, hu]
theorem Chain.chk {l : List Rcd} (h : Chain l) : ∀ q, q ∈ l → sp_records_Check [.agg q.cells] = some (.v (.int .i64 q.err)) := fun q hq => law_records_Check (h.good q hq).ok

/-- The counters within their bounds. -/
def In65 (c : C3) : Prop := 0 ≤ c.1 ∧ c.1 ≤ 65 ∧ 0 ≤ c.2.1 ∧ c.2.1 ≤ 65 ∧ 0 ≤ c.2.2 ∧ c.2.2 ≤ 65
def Rcd.nxR (q : Rcd) (c : C3) : C3 := (afterR q.s c.1 q.r, afterR q.s c.2.1 q.i, afterR q.s c.2.2 q.y)
theorem afterR_eq {s : Bool} {x lim : Int} (h0 : 0 ≤ x) (h1 : x ≤ 65) : afterR s x lim = (if lim = -1 then (if s then x else max (x - 1) 0) else min lim (if s then x else max (x - 1) 0)) := by
  unfold afterR
  have e : (cond (!s) (cond (x != 0) (IntKind.wrap .i64 (x - 1)) x) x) = (if s then x else max (x - 1) 0) := by
    cases s with
    | true => rfl
    | false =>
      by_cases h : x = 0
      · subst h; rfl
      · rw [show (x != 0) = true from bne_iff_ne.2 h]
        simp only [Bool.not_false, cond_true]
        rw [wrap_id (by omega) (by omega)]
        simp; omega
  rw [e]
  dsimp only
  by_cases h : lim = -1
  · rw [if_pos h, h]; rfl
  · rw [if_neg h, show (lim != -1) = true from bne_iff_ne.2 h]
    simp only [cond_true, Bool.cond_decide]
    split <;> omega
theorem Rcd.nx_eq {q : Rcd} {c : C3} (hc : In65 c) : q.nx c = q.nxR c := by
  obtain ⟨h1, h2, h3, h4, h5, h6⟩ := hc
  unfold Rcd.nx Rcd.nxR
  rw [afterC_R h1 h2, afterC_R h3 h4, afterC_R h5 h6]
/-- The initial ones. -/
abbrev c0 (n : Nat) (x y z : Bool) : C3 := (cond x 0 (n + 1 : Int), cond y 0 (n + 1 : Int), cond z 0 (n + 1 : Int))
theorem law_ref24_Wrap (e m a : Int) (s hp : Bool) (pn : Nat) (pc : Option Nat) (p : List D) (hm : Bool) (mn : Nat) (mc : Option Nat) (mp : List D) (r i y : Int) :
    sp_ref24_Wrap [.agg (ctrC e m a), .agg (recC s hp pn pc p hm mn mc mp r i y)] = some (.v (.int .i64 (cond (r == 0) 0 (cond (e != 0) (IntKind.wrap .i64 (e - 1)) e)))) := by
  show F_ref24_Wrap M e m a s hp pn pc p hm mn mc mp r i y = _
  unfold F_ref24_Wrap
  rw [F_ref24_Wrap_j4_e, F_ref24_Wrap_j4_e]
  cases (e != 0) <;> cases (r == 0) <;> rfl
theorem wrap_eq {e r : Int} (h0 : 0 ≤ e) (h1 : e ≤ 65) : cond (r == 0) 0 (cond (e != 0) (IntKind.wrap .i64 (e - 1)) e) = cond (r == 0) 0 (mm false (IntKind.wrap .i64 (e - 1)) 0) := by
  congr 1
  rw [wrap_id (by omega) (by omega)]
  unfold mm
  by_cases h : e = 0
  · subst h; rfl
  · rw [show (e != 0) = true from bne_iff_ne.2 h]
    simp; omega
end Go.Ev
