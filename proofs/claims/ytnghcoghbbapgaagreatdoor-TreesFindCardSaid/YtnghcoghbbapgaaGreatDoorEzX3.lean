/-
 TreesFind.
-/
import Derived.Test.YtnghcoghbbapgaaGreatDoorEzX2
import Derived.Test.YtnghcoghbbapgaaGreatDoorEzH5
set_option linter.unusedSimpArgs false
set_option linter.unusedVariables false
set_option maxRecDepth 100000
namespace Go.Ev
open Go Go.Proofs
def polsOf (l : List Nat) : List Oid := l.map polO
theorem Z1by (l : List Nat) : ∀ x, x ∈ polsOf l → x.ok := fun x hx => by
 obtain ⟨k, _, rfl⟩ := List.mem_map.1 hx; exact Z130 k
theorem Z174 (l : List Nat) : (polsOf l).length = l.length := by simp [polsOf]
theorem Z1e8 {m : Nat} {r : List Cd} {qc : Option Nat} (hr : Tr r) {l : List Nat} (h70 : l.length ≤ 70) (lc rc : Option Nat) (rn : Nat) (rs : List D) : ∀ (c i : Nat), l.length - i < c → i ≤ l.length →
  Z7x Z3h Z45 Z18 Z47 Z46 m c l.length lc (n8 l) i (i : Int) rn rc rs [.list r.length qc (cdsC r)] (i * 17) (oidsC (polsOf (l.take i))) = some (.v (.bool true))
 | 0, i, hc, hi => by omega
 | c + 1, i, hc, hi => by
  have hB := hr.b.len
  have hl := hr.len
  have hlen : (polsOf (l.take i)).length = i := by rw [Z174, List.length_take]; omega
  have hcl : (oidsC (polsOf (l.take i))).length = i * 17 := by rw [Zip (Z1by _), hlen]
  rw [Z10z]
  simp only [Int.toNat_natCast, Nat.zero_add, Nat.mul_one]
  by_cases hlt : i < l.length
  ·refine st_cT (decide_eq_true (by omega)) ?_
   refine st_if ⟨by omega, by omega⟩ ?_
   refine Z1 (n8_get hlt) ?_
   refine Z1 (Z16p _) ?_
   refine Z1 rfl ?_
   have hpl := Oid.cells_len (Z130 (l.getD i 0))
   refine st_if hpl ?_
   refine st_if (by refine ⟨?_, ?_, ?_, ?_⟩ <;> first | trivial | rfl | exact hpl | (constructor <;> omega)) ?_
   rw [Z2i (by omega)]
   have e : oidsC (polsOf (l.take i)) ++ (polO (l.getD i 0)).cells = oidsC (polsOf (l.take (i + 1))) := by
    have e0 : l.getD i 0 = l[i] := by simp [List.getD_eq_getElem?_getD, List.getElem?_eq_getElem hlt]
    rw [e0, List.take_succ_eq_append_getElem hlt]
    simp only [polsOf, oidsC, List.map_append, List.map_cons, List.map_nil, List.flatten_append, List.flatten_cons, List.flatten_nil, List.append_nil]
   rw [e]
   exact Z1e8 hr h70 lc rc rn rs c (i + 1) (by omega) (by omega)
  ·obtain rfl : i = l.length := by omega
   rw [List.take_length] at hlen hcl ⊢
   refine st_cF (decide_eq_false (by omega)) ?_
   refine st_if (by omega) ?_
   rw [Z1ii hcl, List.drop_zero, List.take_of_length_le (by omega)]
   have e1 := Z1mz hr.b hr.t.valid qc (Z1by l) (by rw [Z174]; omega) none
   have e2 := Z1ln hr.b hr.t.valid.shape hr.t.valid.dep qc (Z1by l) none
   rw [Z174] at e1 e2
   by_cases hf : find (nds r) (polsOf l) < 0
   ·rw [if_pos hf] at e1
    refine Z1 e1 ?_
    refine Z1 rfl ?_
    refine st_if rfl ?_
    refine Z1 rfl ?_
    refine Z1 rfl ?_
    refine st_if (by omega) ?_
    refine Z1 e2 ?_
    refine Z1 (rdI_v _ _) ?_
    refine st_cT (decide_eq_true hf) ?_
    refine st_cT rfl ?_
    refine st_cT rfl ?_
    refine Z1 Z1bx ?_
    rfl
   ·rw [if_neg hf] at e1
    refine Z1 e1 ?_
    refine Z1 rfl ?_
    refine st_if rfl ?_
    refine Z1 (rdI_v _ _) ?_
    refine Z1 (rdI_v _ _) ?_
    refine st_if (by omega) ?_
    refine Z1 e2 ?_
    refine Z1 (rdI_v _ _) ?_
    refine st_cF (decide_eq_false hf) ?_
    refine st_cT rfl ?_
    refine st_cT (i_eq rfl) ?_
    refine Z1 Z1bx ?_
    rfl
theorem Z1g4 {rows : List T4} (hr : ∀ t, t ∈ rows → t.ok) (rc : Option Nat) (l : List Nat) (lc : Option Nat) :
  Zjy [.agg [.list rows.length rc (t4C rows)], .list l.length lc (n8 l)] = some (.v (.bool true)) := by
 show Zcx Z3h Z45 Z18 Z47 Z46 M rows.length rc (t4C rows) l.length lc (n8 l) = _
 unfold Zcx
 by_cases h70 : 70 < l.length
 ·refine st_cT (decide_eq_true (by omega)) ?_
  refine Z1 Z1bx ?_
  rfl
 ·refine st_cF (decide_eq_false (by omega)) ?_
  obtain ⟨r, qc, e1, e2, ht⟩ := Z1nn hr rc
  refine Z1 e1 ?_
  refine Z1 rfl ?_
  refine st_if rfl ?_
  have := Z1e8 (m := M) (qc := qc) ht (l := l) (by omega) lc rc rows.length (t4C rows) M 0 (by unfold M; omega) (by omega)
  exact this
end Go.Ev