/-
  The counters along a chain: what All, Final and Zero return.
-/
import Derived.Test.YtjgpddbebgndbaaGreatDoorEzLA
set_option linter.unusedSimpArgs false
set_option linter.unusedVariables false
set_option maxRecDepth 100000
namespace Go.Ev
open Go

abbrev z3 : List D := [.v (.int .i64 0), .v (.int .i64 0), .v (.int .i64 0)]
section
variable {α : Type} {f : α → List D} {nx : α → C3 → C3} {wr : α → C3 → Int} {l : List α}
theorem allErr_len {g : α → Int} {u : List Oid} (h0 : allErr g l u = 0) : 0 < l.length ∧ l.length ≤ 64 := by
  unfold allErr at h0
  by_cases h1 : chainErr g l = 0
  · unfold chainErr at h1
    by_cases h2 : l.length = 0
    · rw [if_pos h2] at h1; cases h1
    · rw [if_neg h2] at h1
      by_cases h3 : 64 < l.length
      · rw [if_pos h3] at h1; cases h1
      · omega
  · rw [if_neg h1] at h0; exact absurd h0 h1

theorem law_counters_Zero {g : α → Int} (h : Does f nx wr l) (hg : ∀ x, x ∈ l → sp_records_Check [.agg (f x)] = some (.v (.int .i64 (g x)))) (cp : Option Nat) {u : List Oid} (hu : ∀ x, x ∈ u → x.ok) (cu : Option Nat) (x y z : Bool) :
    sp_counters_Zero [.list l.length cp ((l.map f).flatten), .agg (inC u cu x y z)] = if allErr g l u = 0 then
      some (.tup (zeroC nx (l.length + 1) (l.length + 1) (l.length + 1) (cond x 0 (l.length + 1 : Int), cond y 0 (l.length + 1 : Int), cond z 0 (l.length + 1 : Int)) 0 l)) else some (.tup [.v (.int .i64 0), .v (.int .i64 0), .v (.int .i64 0), .v (.int .i64 (allErr g l u))]) := by
  show F_counters_Zero M l.length cp ((l.map f).flatten) u.length cu (oidsC u) x y z = _
  unfold F_counters_Zero
  rw [law_counters_chain h.len hg cp hu, Option.bind_some, rdI_v, Option.bind_some]
  by_cases h0 : allErr g l u = 0
  · have hb := allErr_len h0
    have hw : IntKind.wrap .i64 ((l.length : Int) + 1) = (l.length + 1 : Int) := wrap_i64 (by omega) (by omega)
    rw [if_pos h0, h0, show ((0 : Int) != 0) = false from rfl, cond_false, law_counters_start, Option.bind_some, rdA_v, Option.bind_some, hw]
    exact zero_loop M h hb.2 cp u.length cu (oidsC u) x y z M 0 _ _ _ (cond x 0 (l.length + 1 : Int), cond y 0 (l.length + 1 : Int), cond z 0 (l.length + 1 : Int)) (by unfold M; omega) (by omega)
  · rw [if_neg h0, bne_iff_ne.2 h0, cond_true]
end
end Go.Ev
