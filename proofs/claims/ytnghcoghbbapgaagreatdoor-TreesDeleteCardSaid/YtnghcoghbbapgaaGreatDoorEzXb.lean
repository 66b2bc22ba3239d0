/-
 TreesDelete.
-/
import Derived.Test.YtnghcoghbbapgaaGreatDoorEzXa
import Derived.Test.YtnghcoghbbapgaaGreatDoorEzX9
import Derived.Test.YtnghcoghbbapgaaGreatDoorEzH8
import Derived.Test.YtnghcoghbbapgaaGreatDoorEzXH
set_option linter.unusedSimpArgs false
set_option linter.unusedVariables false
set_option maxRecDepth 100000
namespace Go.Ev
open Go Go.Proofs
def natI (l : List Nat) : List Int := l.map fun k : Nat => (k : Int)
theorem Z1y9 (l : List Nat) : (natI l).length = l.length := by simp [natI]
def modN (l : List Nat) (n : Nat) : List Nat := l.map fun k => k % n
theorem Z1ya (l : List Nat) (n : Nat) : (modN l n).length = l.length := by simp [modN]
theorem Z20z (l : List Nat) {i : Nat} (hi : i < l.length) : natI (l.take (i + 1)) = natI (l.take i) ++ [(l[i] : Int)] := by
 unfold natI
 rw [List.take_succ_eq_append_getElem hi, List.map_append, List.map_cons, List.map_nil]
section
variable {r : List Cd} {qc : Option Nat} (hr : Tr r) {at_ : List Nat} (hat : ∀ k, k ∈ at_ → k < r.length) (h12 : at_.length ≤ 12)
include hr hat h12
theorem Z1o8 {m : Nat} (rn : Nat) (rc : Option Nat) (rs : List D) : ∀ (c i : Nat) (v : List Cd) (vc : Option Nat), at_.length - i < c → i ≤ at_.length → CdsB v → nds v = left (nds r) (kpI (nds r) at_ i) →
  Z8a Z12 Z16 Z1z Z26 Z21 Z2s Z4w Z52 Z6h m c at_.length (ints (natI at_)) (i : Int) rn rc rs [.list r.length qc (cdsC r)] [.list (leftC r (kpF r (natI at_))).length (some (leftC r (kpF r (natI at_))).length) (cdsC (leftC r (kpF r (natI at_))))] [.list v.length vc (cdsC v)] = some (.v (.bool true))
 | 0, i, v, vc, hc, hi, hb, hn => by omega
 | c + 1, i, v, vc, hc, hi, hb, hn => by
  have hB := hr.b.len
  have hl := hr.len
  have hv := hr.t.valid
  rw [Z133]
  simp only [Int.toNat_natCast, Nat.mul_one]
  have hU := kpI_up hv.shape at_ i
  have hvv : Valid (nds v) := by rw [hn]; exact (Z1yt hr.t hU).valid
  by_cases hlt : i < at_.length
  ·have hk : at_[i] < r.length := hat _ (List.getElem_mem hlt)
   have hkN : at_[i] < (nds r).length := by rw [Z1r]; exact hk
   have hlo := Z1t6 hv.shape hr.b.ok.nds hkN
   have hll := Z1ev hv.shape _ hkN
   have hdp := hv.dep _ hkN
   refine st_cT (decide_eq_true (by omega)) ?_
   refine st_if (by omega) ?_
   have hg : rdI .i64 (ints (natI at_))[i]? = some (at_[i] : Int) := by
    rw [Z1et (by rw [Z1y9]; exact hlt)]
    simp [natI, hlt]
   refine Z0 hg ?_
   obtain ⟨lc, eL⟩ := Z1t7 hr.b hv.shape qc hk hdp
   refine Z0 eL ?_
   refine Z0 rfl ?_
   have eF := Z1y5 hb hvv vc hlo (by omega) lc
   cases hg : kpI (nds r) at_ i at_[i] with
   | true =>
    have e1 := Z1yz hv.shape hU (by rw [← hn]; exact hvv) hkN hg
    rw [← hn] at e1
    rw [e1, if_neg (by omega)] at eF
    refine Z0 eF ?_
    refine Z0 rfl ?_
    refine st_if rfl ?_
    refine Z0 (rdI_v _ _) ?_
    refine Z0 (rdI_v _ _) ?_
    refine st_cF rfl ?_
    have hrk : rk (kpI (nds r) at_ i) at_[i] < v.length := by
     rw [← Z1r v, hn, Z78]; exact rk_lt hkN hg
    have hd := Z1ha (at_ := [(rk (kpI (nds r) at_ i) at_[i] : Int)]) hb ((Z183 hb.ok.nds).2 hvv) hvv.shape (by simp) (fun y hy => by
     have := List.mem_singleton.1 hy
     omega) vc (some 1)
    refine Z0 hd ?_
    refine Z0 rfl ?_
    refine st_if rfl ?_
    refine Z0 rfl ?_
    refine Z0 (rdI_v _ _) ?_
    refine st_if rfl ?_
    refine st_cF rfl ?_
    rw [Zjx, Z14 (by omega)]
    refine Z1o8 rn rc rs c (i + 1) _ _ (by omega) (by omega) (Z1sr hb _) ?_
    rw [Z1f3]
    have e2 := Z22f hv.shape hU hkN hg
    unfold delR at e2
    rw [← hn] at e2
    unfold kpF
    rw [e2]
    exact Z120 (fun j hj => (Z1y4 hv.shape hlt hj).symm) hv.shape.par_lt
   | false =>
    have e1 := Z20v (A := kpI (nds r) at_ i) hv.shape hU hv hkN hg
    rw [← hn] at e1
    rw [if_pos e1] at eF
    refine Z0 eF ?_
    refine Z0 rfl ?_
    refine st_if rfl ?_
    refine Z0 (rdI_v _ _) ?_
    refine Z0 (rdI_v _ _) ?_
    refine st_cT rfl ?_
    rw [Zjx, Z14 (by omega)]
    refine Z1o8 rn rc rs c (i + 1) v vc (by omega) (by omega) hb ?_
    rw [hn]
    exact Z120 (fun j hj => (Z22h hv.shape hlt hg hj).symm) hv.shape.par_lt
  ·obtain rfl : i = at_.length := by omega
   refine st_cF (decide_eq_false (by omega)) ?_
   have hnu : nds (leftC r (kpF r (natI at_))) = nds v := by
    rw [Z1f3, hn]
    unfold kpF kpI
    rw [List.take_length]
    rfl
   have hub := Z1sr hr.b (kpF r (natI at_))
   refine Z0 (Z1ve hub hb _ _) ?_
   refine Z0 (rdI_v _ _) ?_
   rw [hnu, decide_eq_true rfl]
   refine st_cT rfl ?_
   refine Z0 (Z20y hub hb _ _) ?_
   refine Z0 (rdB_v _) ?_
   rw [hnu, decide_eq_true rfl]
   refine st_cT rfl ?_
   refine Z0 Zp9 ?_
   rfl
end
theorem Z1vr {m : Nat} {r : List Cd} {qc : Option Nat} (hr : Tr r) (h0 : 0 < r.length) {l : List Nat} (hl8 : ∀ x ∈ l, x < 256) (h12 : l.length ≤ 12) (hm : 1000000 < m) (lc rc : Option Nat) (rn : Nat) (rs : List D) : ∀ (c i : Nat), l.length - i < c → i ≤ l.length →
  Z8z Z12 Z16 Z1z Z26 Z21 Z2s Z4w Z52 Z6h m c l.length lc (n8 l) i (i : Int) rn rc rs [.list r.length qc (cdsC r)] (i * 1) (ints (natI ((modN l r.length).take i))) = some (.v (.bool true))
 | 0, i, hc, hi => by omega
 | c + 1, i, hc, hi => by
  have hB := hr.b.len
  have hl := hr.len
  have hv := hr.t.valid
  rw [Z14i]
  simp only [Int.toNat_natCast, Nat.mul_one]
  by_cases hlt : i < l.length
  ·have ih := Z1vr (qc := qc) hr h0 hl8 h12 hm lc rc rn rs c (i + 1) (by omega) (by omega)
   have h8 := hl8 _ (List.getElem_mem hlt)
   refine st_cT (decide_eq_true (by omega)) ?_
   refine st_if (by omega) ?_
   refine Z0 (n8_get hlt) ?_
   refine Z0 rfl ?_
   dsimp only
   refine st_ifn (by omega) ?_
   refine st_if ⟨rfl, by first | rfl | trivial, by constructor <;> omega, by first | rfl | trivial⟩ ?_
   have e0 : l.getD i 0 = l[i] := by simp [List.getD_eq_getElem?_getD, List.getElem?_eq_getElem hlt]
   rw [e0, Z14 (i := i) (by omega), Z10i (x := (l[i] : Int)) (by omega) (by omega), Z1a0]
   have hmi : i < (modN l r.length).length := by rw [Z1ya]; exact hlt
   rw [Z20z _ hmi, Zx8, Nat.mul_one] at ih
   have e3 : (modN l r.length)[i] = l[i] % r.length := by simp [modN]
   rw [e3] at ih
   exact ih
  ·obtain rfl : i = l.length := by omega
   have hat : ∀ k, k ∈ modN l r.length → k < r.length := fun k hk => by
    obtain ⟨x, _, rfl⟩ := List.mem_map.1 hk
    exact Nat.mod_lt _ h0
   have hml := Z1ya l r.length
   have hzl := Z1y9 (modN l r.length)
   have hil := Z13z (natI (modN l r.length))
   refine st_cF (decide_eq_false (by omega)) ?_
   refine st_if (by omega) ?_
   rw [← hml, List.take_length, Z71 (by omega)]
   have hat' : ∀ x, x ∈ natI (modN l r.length) → 0 ≤ x ∧ x < (r.length : Int) := fun x hx => by
    obtain ⟨k, hk, rfl⟩ := List.mem_map.1 hx
    have := hat k hk
    omega
   have eD := Z1ha hr.b ((Z183 hr.b.ok.nds).2 hv) hv.shape (by omega) hat' qc none
   have eR := Z1wt (at_ := natI (modN l r.length)) hr.b hv.shape (by omega) qc none
   rw [hzl] at eD eR
   refine Z0 eD ?_
   refine Z0 rfl ?_
   refine st_if rfl ?_
   refine Z0 rfl ?_
   refine Z0 (rdI_v _ _) ?_
   refine st_if (by omega) ?_
   refine st_if (by omega) ?_
   refine st_if rfl ?_
   refine st_cF rfl ?_
   refine Z0 eR ?_
   refine Z0 rfl ?_
   have hs := Z1l0 (Z1sr hr.b (kpF r (natI (modN l r.length)))) (Z20i hr.b (kpF r (natI (modN l r.length)))) (leftC r (kpF r (natI (modN l r.length)))).length none
   rw [Z1f3, Z20h, decide_eq_true rfl, decide_eq_true rfl] at hs
   refine Z0 hs ?_
   refine Z0 rfl ?_
   refine st_cF rfl ?_
   rw [Z114]
   refine st_if rfl ?_
   refine Z1o8 (m := m) (qc := qc) hr hat (by omega) rn rc rs m 0 r qc (by omega) (by omega) hr.b ?_
   rw [Z120 (B := fun _ => true) (fun j hj => Z22g hv.shape _ hj) hv.shape.par_lt, Z21o _ hv.shape.par_lt]
theorem Z1o9 {rows : List T4} (hr : ∀ t, t ∈ rows → t.ok) (rc : Option Nat) {l : List Nat} (hl : ∀ x ∈ l, x < 256) (lc : Option Nat) :
  Zir [.agg [.list rows.length rc (t4C rows)], .list l.length lc (n8 l)] = some (.v (.bool true)) := by
 show Zbu Z12 Z16 Z1z Z26 Z21 Z2s Z4w Z52 Z6h M rows.length rc (t4C rows) l.length lc (n8 l) = _
 unfold Zbu
 by_cases h12 : 12 < l.length
 ·refine st_cT (decide_eq_true (by omega)) ?_
  refine Z0 Zp9 ?_
  rfl
 ·refine st_cF (decide_eq_false (by omega)) ?_
  obtain ⟨r, qc, e1, e2, ht⟩ := Z1wv hr rc
  refine Z0 e1 ?_
  refine Z0 rfl ?_
  refine st_if rfl ?_
  refine Z0 rfl ?_
  by_cases h0 : r.length = 0
  ·refine st_cT (i_eq (by dsimp only; omega)) ?_
   refine Z0 Zp9 ?_
   rfl
  ·refine st_cF (i_ne (by dsimp only; omega)) ?_
   exact Z1vr (m := M) (qc := qc) ht (by omega) hl (by omega) (by unfold M; omega) lc rc rows.length (t4C rows) M 0 (by unfold M; omega) (by omega)
end Go.Ev