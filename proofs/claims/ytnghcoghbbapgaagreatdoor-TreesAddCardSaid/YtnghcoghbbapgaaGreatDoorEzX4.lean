/-
 Views: a node's depth, levels, children, lines.
-/
import Derived.Test.YtnghcoghbbapgaaGreatDoorEzX2
import Derived.Test.YtnghcoghbbapgaaGreatDoorEzH1
set_option linter.unusedSimpArgs false
set_option linter.unusedVariables false
set_option maxRecDepth 100000
namespace Go.Ev
open Go Go.Proofs
def exL (l : List Cd) : D := .list l.length (some l.length) (ints (dps (nds l) l.length l.length))
theorem Z1l3 {l : List Cd} (h : CdsB l) (hv : Valid (nds l)) (cp : Option Nat) : Z2x [.agg [.list l.length cp (cdsC l)]] = some (.tup [exL l, .v (.int .i64 0)]) := by
 rw [Z1mu h cp, (Z183 h.ok.nds).2 hv]
 rfl
theorem Z1l4 {l : List Cd} (h : CdsB l) (hv : Valid (nds l)) (cp : Option Nat) {i : Nat} (hi : i < l.length) : Z5n [.agg [.list l.length cp (cdsC l)], .v (.int .i64 (i : Int))] = some (.tup [exL l, .v (.int .i64 0)]) := by
 show Zzg M l.length cp (cdsC l) (i : Int) = _
 unfold Zzg
 refine Z0 (Z1l3 h hv cp) ?_
 refine Z0 rfl ?_
 refine st_if rfl ?_
 refine Z0 rfl ?_
 refine Z0 (rdI_v _ _) ?_
 refine st_cT rfl ?_
 refine st_cF (decide_eq_false (by omega)) ?_
 refine st_cF (decide_eq_false (by omega)) ?_
 rw [Z1hh]
 rfl
theorem Z1wz {α : Type} {n off size : Nat} {cs xs : List α} (h : cs.length = n) (hx : off + size ≤ n) : putL n cs off size xs = cs.take off ++ (xs ++ cs.drop (off + size)) := by
 unfold putL
 split
 ·rename_i h0
  rw [h0.1, List.take_zero, List.nil_append, List.drop_eq_nil_of_le (by omega), List.append_nil]
 ·rfl
end Go.Ev