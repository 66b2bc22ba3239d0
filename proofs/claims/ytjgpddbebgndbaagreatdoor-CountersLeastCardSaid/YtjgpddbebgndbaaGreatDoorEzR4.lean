/-
  Chains of valid records: the counters before each certificate, by the program and by the reference.
-/
import Derived.Test.YtjgpddbebgndbaaGreatDoorEzR3
import Derived.Test.YtjgpddbebgndbaaGreatDoorEzLC
import Derived.Test.YtjgpddbebgndbaaGreatDoorEzG6
set_option linter.unusedSimpArgs false
set_option linter.unusedVariables false
set_option maxRecDepth 100000
namespace Go.Ev
open Go

theorem row_at {α : Type} {f : α → List D} {c : Nat} {l : List α} (h : ∀ x, x ∈ l → (f x).length = c) {i j : Nat} (hi : i < l.length) (hj : j < c) : ((l.map f).flatten)[i * c + j]? = (f l[i])[j]? := by
  rw [← row_get h hi, List.getElem?_take, if_pos hj, List.getElem?_drop]
theorem rcdsC_at {l : List Rcd} {i j : Nat} (hi : i < l.length) (hj : j < 8) : (rcdsC l)[i * 8 + j]? = l[i].cells[j]? := row_at (fun q _ => q.cells_len) hi hj

/-- Valid, as far as the counters go. -/
structure Rcd.good (q : Rcd) : Prop where
  ok : q.ok
  err : q.err = 0
theorem Rcd.good.lim {q : Rcd} (h : q.good) : -1 ≤ q.r ∧ q.r ≤ 2147483647 ∧ -1 ≤ q.i ∧ q.i ≤ 2147483647 ∧ -1 ≤ q.y ∧ q.y ≤ 2147483647 := by
  have he := h.err
  have hs : q.shape = 0 := by
    unfold Rcd.err at he
    by_cases h0 : q.shape = 0
    · exact h0
    · rw [if_neg h0] at he; exact absurd he h0
  unfold Rcd.shape at hs
  split at hs
  · cases hs
  · split at hs
    · cases hs
    · omega
structure Chain (l : List Rcd) : Prop where
  pos : 1 ≤ l.length
  le : l.length ≤ 64
  good : ∀ q, q ∈ l → q.good
theorem Ci.chain_ok (x : Ci) : Chain x.chain := ⟨x.chain_len.1, by have := x.chain_len.2; omega, fun q hq => by
  obtain ⟨r, rfl⟩ := x.chain_one q hq; exact ⟨r.rcd_ok, r.rcd_err⟩⟩
theorem firstL_zero {α : Type} {g : α → Int} : ∀ {l : List α}, (∀ x, x ∈ l → g x = 0) → firstL g l = 0
  | [], _ => rfl
  | x :: r, h => by unfold firstL; rw [if_pos (h x (by simp))]; exact firstL_zero (fun y hy => h y (by simp [hy]))
theorem Chain.err {l : List Rcd} (h : Chain l) : chainErr Rcd.err l = 0 := by
  have := h.pos
  have := h.le
  unfold chainErr
  rw [if_neg (by omega), if_neg (by omega)]
  exact firstL_zero fun q hq => (h.good q hq).err
theorem Chain.all {l : List Rcd} (h : Chain l) {u : List Oid} (hu : setErr u = 0) : allErr Rcd.err l u = 0 := by
  unfold allErr; rw [if_pos h.err, hu]
theorem Chain.chk {l : List Rcd} (h : Chain l) : ∀ q, q ∈ l → sp_records_Check [.agg q.cells] = some (.v (.int .i64 q.err)) := fun q hq => law_records_Check (h.good q hq).ok

/-- The counters within their bounds. -/
def In65 (c : C3) : Prop := 0 ≤ c.1 ∧ c.1 ≤ 65 ∧ 0 ≤ c.2.1 ∧ c.2.1 ≤ 65 ∧ 0 ≤ c.2.2 ∧ c.2.2 ≤ 65
theorem afterR_eq {s : Bool} {x lim : Int} (h0 : 0 ≤ x) (h1 : x ≤ 65) : afterR s x lim = (if lim = -1 then (if s then x else max (x - 1) 0) else min lim (if s then x else max (x - 1) 0)) := by
  unfold afterR
  have e : (cond (!s) (cond (x != 0) (IntKind.wrap .i64 (x - 1)) x) x) = (if s then x else max (x - 1) 0) := by
    cases s with
    | true => rfl
    | false =>
      by_cases h : x = 0
      · subst h; rfl
      · rw [show (x != 0) = true from bne_iff_ne.2 h]
        simp only [Bool.not_false, cond_true]
        rw [wrap_id (by omega) (by omega)]
        simp; omega
  rw [e]
  dsimp only
  by_cases h : lim = -1
  · rw [if_pos h, h]; rfl
  · rw [if_neg h, show (lim != -1) = true from bne_iff_ne.2 h]
    simp only [cond_true, Bool.cond_decide]
    split <;> omega
/-- The counters behind the first ones. -/
def stAt (l : List Rcd) (c : C3) (k : Nat) : C3 := (l.take k).foldl (fun c q => q.nx c) c
theorem states_get : ∀ {l : List Rcd} {c : C3} {k : Nat} (h : k < l.length), (states Rcd.nx c l)[k]'(by rw [states_length]; exact h) = stAt l c k
  | [], c, k, h => by simp at h
  | q :: r, c, 0, h => rfl
  | q :: r, c, k + 1, h => by
    have := states_get (l := r) (c := q.nx c) (k := k) (by simpa using h)
    simp only [states, List.getElem_cons_succ]
    rw [this]; rfl
/-- The initial ones. -/
abbrev c0 (n : Nat) (x y z : Bool) : C3 := (cond x 0 (n + 1 : Int), cond y 0 (n + 1 : Int), cond z 0 (n + 1 : Int))
theorem c0_in {n : Nat} {x y z : Bool} (h : n ≤ 64) : In65 (c0 n x y z) := by
  refine ⟨?_, ?_, ?_, ?_, ?_, ?_⟩ <;> dsimp only [c0] <;> first | cases x <;> simp <;> omega | cases y <;> simp <;> omega | cases z <;> simp <;> omega

theorem law_rStart {n : Nat} (hn : n ≤ 64) (u : List Oid) (cu : Option Nat) (x y z : Bool) : sp_ref24_Start [.v (.int .i64 (n : Int)), .agg (inC u cu x y z)] = some (.agg (ctr3 (c0 n x y z))) := by
  show F_ref24_Start M (n : Int) u.length cu (oidsC u) x y z = _
  unfold F_ref24_Start
  rw [F_ref24_Start_j4_e, F_ref24_Start_j4_e, F_ref24_Start_j6_e, F_ref24_Start_j6_e, F_ref24_Start_j6_e, F_ref24_Start_j6_e, wrap_id (by omega) (by omega)]
  cases x <;> cases y <;> cases z <;> rfl
theorem ctr3_len (c : C3) : (ctr3 c).length = 3 := rfl

end Go.Ev
