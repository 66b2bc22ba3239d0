/-
 TreesViews.
-/
import Derived.Test.YtnghcoghbbapgaaGreatDoorEzX4
import Derived.Test.YtnghcoghbbapgaaGreatDoorEzXa
import Derived.Test.YtnghcoghbbapgaaGreatDoorEzH6
set_option linter.unusedSimpArgs false
set_option linter.unusedVariables false
set_option maxRecDepth 100000
namespace Go.Ev
open Go Go.Proofs
theorem Z1vs {l : List Cd} (h : CdsB l) (hv : Valid (nds l)) (cp : Option Nat) {i : Nat} (hi : i < l.length) (lc : Option Nat) :
  Z1z [.agg [.list l.length cp (cdsC l)], .list (line (nds l) i).length lc (oidsC (line (nds l) i))] = some (.tup [.v (.int .i64 (i : Int)), .v (.int .i64 0)]) := by
 have hN : i < (nds l).length := by rw [Z1r]; exact hi
 have hll := Z1ev hv.shape i hN
 have hdp := hv.dep i hN
 rw [Z1y5 h hv cp (Z1t6 hv.shape h.ok.nds hN) (by omega) lc, Z1fd hv hN, if_neg (by omega)]
theorem Z1x0 {m c : Nat} {r : List Cd} {qc : Option Nat} (hr : Tr r) (d : Int) (rc : Option Nat) (rn k b : Nat) (rs w : List D) {i : Nat} (hi : i < r.length) {R : Option D}
  (nx : Z4n Z12 Z16 Z1z Z2n Z3o Z2i Z4h Z4g Z2h Z29 Z26 Z3p Z4e m c d k ((i + 1 : Nat) : Int) rn rc rs [.list r.length qc (cdsC r)] b w = R) :
  Zge Z12 Z16 Z1z Z2n Z3o Z2i Z4h Z4g Z2h Z29 Z26 Z3p Z4e m c d k (i : Int) rn rc rs [.list r.length qc (cdsC r)] b w (i : Int) = R := by
 have hv := hr.t.valid
 have hB := hr.b.len
 have hl := hr.len
 have hN : i < (nds r).length := by rw [Z1r]; exact hi
 have hlo := Z1t6 hv.shape hr.b.ok.nds hN
 have hll := Z1ev hv.shape i hN
 have hdp := hv.dep i hN
 have hil := Z1hb (chF (nds r) i) r.length
 rw [Z14k]
 refine Z0 (Z1vl hr.b hv qc hi) ?_
 refine Z0 rfl ?_
 refine st_if rfl ?_
 refine Z0 (rdI_v _ _) ?_
 refine Z0 (rdI_v _ _) ?_
 refine Z0 (Z1ip hr.b hv qc hi) ?_
 refine Z0 rfl ?_
 refine st_if rfl ?_
 refine Z0 rfl ?_
 refine Z0 (rdI_v _ _) ?_
 refine Z0 (Z1vn hr.b hv qc hi) ?_
 refine Z0 rfl ?_
 refine st_if rfl ?_
 refine Z0 rfl ?_
 refine Z0 (rdI_v _ _) ?_
 refine Z0 (Z1vs hr.b hv qc hi _) ?_
 refine Z0 rfl ?_
 refine st_if rfl ?_
 refine Z0 (rdI_v _ _) ?_
 refine Z0 (rdI_v _ _) ?_
 refine st_cF rfl ?_
 refine st_cF rfl ?_
 refine st_cF rfl ?_
 refine st_cF rfl ?_
 refine Z0 (Z1a4 hr.b hv.shape qc hi) ?_
 refine Z0 (rdI_v _ _) ?_
 refine st_cF (i_bnf rfl) ?_
 refine Z0 (Z1fa hr.b qc (i : Int)) ?_
 refine Z0 rfl ?_
 refine Z0 (Z1t5 (by omega) _ none) ?_
 refine Z0 rfl ?_
 refine st_cF (by simp) ?_
 obtain ⟨lc, eL⟩ := Z1t7 hr.b hv.shape qc hi hdp
 refine Z0 eL ?_
 refine Z0 rfl ?_
 refine Z0 (Z1cv hlo hlo (by omega) _ _) ?_
 refine Z0 (rdI_v _ _) ?_
 refine st_cF (by simp [b01]) ?_
 refine (Z1uk _ _).trans ?_
 refine st_cF (i_bnf rfl) ?_
 refine st_cF (i_bnf rfl) ?_
 rw [Z14j, Z14 (by omega)]
 exact nx
theorem Z1x1 {m c : Nat} {r : List Cd} {qc : Option Nat} (hr : Tr r) (d : Int) (rc : Option Nat) (rn k b : Nat) (rs w : List D) {i : Nat} (hi : i < r.length) {R : Option D}
  (nx : Z4n Z12 Z16 Z1z Z2n Z3o Z2i Z4h Z4g Z2h Z29 Z26 Z3p Z4e m c d k ((i + 1 : Nat) : Int) rn rc rs [.list r.length qc (cdsC r)] b w = R) :
  Zbv Z12 Z16 Z1z Z2n Z3o Z2i Z4h Z4g Z2h Z29 Z26 Z3p Z4e m c d k (i : Int) rn rc rs [.list r.length qc (cdsC r)] b w = R := by
 have hv := hr.t.valid
 have hB := hr.b.len
 have hl := hr.len
 have hN : i < (nds r).length := by rw [Z1r]; exact hi
 have hlo := Z1t6 hv.shape hr.b.ok.nds hN
 have hll := Z1ev hv.shape i hN
 have hdp := hv.dep i hN
 have hil := Z1hb (chF (nds r) i) r.length
 rw [Z116]
 refine Z0 (Z1vl hr.b hv qc hi) ?_
 refine Z0 rfl ?_
 refine st_if rfl ?_
 refine Z0 (rdI_v _ _) ?_
 refine Z0 (rdI_v _ _) ?_
 refine Z0 (Z1ip hr.b hv qc hi) ?_
 refine Z0 rfl ?_
 refine st_if rfl ?_
 refine Z0 rfl ?_
 refine Z0 (rdI_v _ _) ?_
 refine Z0 (Z1vn hr.b hv qc hi) ?_
 refine Z0 rfl ?_
 refine st_if rfl ?_
 refine Z0 rfl ?_
 refine Z0 (rdI_v _ _) ?_
 refine Z0 (Z1vs hr.b hv qc hi _) ?_
 refine Z0 rfl ?_
 refine st_if rfl ?_
 refine Z0 (rdI_v _ _) ?_
 refine Z0 (rdI_v _ _) ?_
 refine st_cF rfl ?_
 refine st_cF rfl ?_
 refine st_cF rfl ?_
 refine st_cF rfl ?_
 refine Z0 (Z1a4 hr.b hv.shape qc hi) ?_
 refine Z0 (rdI_v _ _) ?_
 refine st_cF (i_bnf rfl) ?_
 refine Z0 (Z1fa hr.b qc (i : Int)) ?_
 refine Z0 rfl ?_
 refine Z0 (Z1t5 (by omega) _ none) ?_
 refine Z0 rfl ?_
 refine st_cF (by simp) ?_
 obtain ⟨lc, eL⟩ := Z1t7 hr.b hv.shape qc hi hdp
 refine Z0 eL ?_
 refine Z0 rfl ?_
 refine Z0 (Z1cv hlo hlo (by omega) _ _) ?_
 refine Z0 (rdI_v _ _) ?_
 refine st_cF (by simp [b01]) ?_
 refine (Z1uk _ _).trans ?_
 refine st_cF (i_bnf rfl) ?_
 refine st_cF (i_bnf rfl) ?_
 rw [Z115, Z14 (by omega)]
 exact nx
theorem Z1r0 {m : Nat} {r : List Cd} {qc : Option Nat} (hr : Tr r) {d : Nat} (hd : d < 256) (rc : Option Nat) (rn : Nat) (rs : List D) : ∀ (c i : Nat), r.length - i < c → i ≤ r.length →
  Z4n Z12 Z16 Z1z Z2n Z3o Z2i Z4h Z4g Z2h Z29 Z26 Z3p Z4e m c (d : Int) (inI (lvF (nds r) d) i).length (i : Int) rn rc rs [.list r.length qc (cdsC r)] ((inI (lvF (nds r) d) i).length * 1) (ints (inI (lvF (nds r) d) i)) = some (.v (.bool true))
 | 0, i, hc, hi => by omega
 | c + 1, i, hc, hi => by
  have hB := hr.b.len
  have hl := hr.len
  have hv := hr.t.valid
  have hil := Z1hb (lvF (nds r) d) i
  have hw : IntKind.wrap .i64 ((d : Nat) : Int) = (d : Int) := Z10i (by omega) (by omega)
  rw [Z16i]
  refine Z0 rfl ?_
  dsimp only
  by_cases hlt : i < r.length
  ·have ih := Z1r0 (m := m) (qc := qc) hr hd rc rn rs c (i + 1) (by omega) (by omega)
   rw [Z1kx] at ih
   refine st_cT (decide_eq_true (by omega)) ?_
   refine Z0 (Z1a4 hr.b hv.shape qc hlt) ?_
   refine Z0 (rdI_v _ _) ?_
   rw [hw]
   by_cases hp : (dep (nds r) i : Int) = d
   ·have hc : lvF (nds r) d i = true := decide_eq_true hp
    refine st_cT (i_eq hp) ?_
    refine st_if ⟨rfl, by first | rfl | trivial, by constructor <;> omega, by first | rfl | trivial⟩ ?_
    rw [if_pos hc, List.length_append, List.length_singleton, Zx8, Z1kw] at ih
    exact Z1x0 hr d rc rn _ _ rs _ hlt ih
   ·have hc : ¬ lvF (nds r) d i = true := fun e => hp (of_decide_eq_true e)
    refine st_cF (i_ne hp) ?_
    rw [if_neg hc] at ih
    exact Z1x1 hr d rc rn _ _ rs _ hlt ih
  ·obtain rfl : i = r.length := by omega
   refine st_cF (decide_eq_false (by omega)) ?_
   rw [hw]
   refine Z0 (Z20w hr.b hv qc (d : Int)) ?_
   refine Z0 rfl ?_
   refine st_if rfl ?_
   refine Z0 rfl ?_
   refine Z0 (rdI_v _ _) ?_
   refine st_cT rfl ?_
   refine st_if (by omega) ?_
   rw [Z71 (by rw [Z13z]; omega)]
   refine Z0 (Z1t5 (by omega) _ none) ?_
   refine Z0 rfl ?_
   refine st_cT (by simp) ?_
   refine Z0 (Z22i _ _ _) ?_
   refine Z0 (rdI_v _ _) ?_
   refine Z0 rfl ?_
   refine st_cT (i_eq rfl) ?_
   refine Z0 Zp9 ?_
   rfl
theorem Z1q3 {rows : List T4} (hr : ∀ t, t ∈ rows → t.ok) (rc : Option Nat) {d : Nat} (hd : d < 256) :
  Zlk [.agg [.list rows.length rc (t4C rows)], .v (.int .u8 (d : Int))] = some (.v (.bool true)) := by
 show Zdm Z12 Z16 Z1z Z2n Z3o Z2i Z4h Z4g Z2h Z29 Z26 Z3p Z4e M rows.length rc (t4C rows) (d : Int) = _
 unfold Zdm
 obtain ⟨r, qc, e1, e2, ht⟩ := Z1wv hr rc
 refine Z0 e1 ?_
 refine Z0 rfl ?_
 refine st_if rfl ?_
 have := ht.len
 exact Z1r0 (m := M) (qc := qc) ht hd rc rows.length (t4C rows) M 0 (by unfold M; omega) (by omega)
end Go.Ev