/-
 TreesLines.
-/
import Derived.Test.YtnghcoghbbapgaaGreatDoorEzXc
import Derived.Test.YtnghcoghbbapgaaGreatDoorEzX6
import Derived.Test.YtnghcoghbbapgaaGreatDoorEzX9
import Derived.Test.YtnghcoghbbapgaaGreatDoorEzH9
import Derived.Test.YtnghcoghbbapgaaGreatDoorEzXH
set_option linter.unusedSimpArgs false
set_option linter.unusedVariables false
set_option maxRecDepth 100000
namespace Go.Ev
open Go Go.Proofs
def dF (S : Nat → Bool) (j : Nat) : Int := if S j = true then 1 else 0
theorem dF_ins (S : Nat → Bool) (n j : Nat) : (ifn (dF S) n).set j (.v (.int .i64 1)) = ifn (dF (ins S j)) n := by
 rw [Z23e]
 refine Z1mv fun i _ => ?_
 unfold dF ins
 by_cases h : i = j
 ·subst h; simp
 ·rw [if_neg h]; simp [h]
section
variable {m n0 : Nat} {r : List Cd} {qc : Option Nat} (hr : Tr r) {S : Nat → Bool} {ol : List Nat} (oc : Option Nat) (rd : Nat) (rn : Nat) (rc : Option Nat) (rs : List D) (V : List D)
include hr
theorem Z268 {R : Option D} (h8 : ∀ x ∈ ol, x < 256)
  (fin : ∀ k : Nat, Z25r Z12 Z16 Z1z Z26 Z6z Z52 Z6h m n0 ol.length oc (n8 ol) r.length r.length (rd : Int) (inI (mayF (nds r) S) r.length).length (k : Int) rn rc rs [.list r.length qc (cdsC r)] V r.length (ifn (dF S) r.length) (inI (mayF (nds r) S) r.length).length (ints (inI (mayF (nds r) S) r.length)) = R) :
  ∀ (c i : Nat), r.length - i < c → i ≤ r.length →
  Z25p Z12 Z16 Z1z Z26 Z6z Z52 Z6h m n0 c ol.length oc (n8 ol) r.length r.length (rd : Int) (inI (mayF (nds r) S) i).length (i : Int) rn rc rs [.list r.length qc (cdsC r)] V r.length (ifn (dF S) r.length) (inI (mayF (nds r) S) i).length (ints (inI (mayF (nds r) S) i)) = R
 | 0, i, hc, hi => by omega
 | c + 1, i, hc, hi => by
  have hB := hr.b.len
  have hl := hr.len
  have hv := hr.t.valid
  have hil := Z1hb (mayF (nds r) S) i
  rw [Z260]
  simp only [Int.toNat_natCast, Nat.mul_one, Nat.zero_add]
  refine Z0 rfl ?_
  dsimp only
  by_cases hlt : i < r.length
  ·have ih := Z268 h8 fin c (i + 1) (by omega) (by omega)
   rw [Z1kx] at ih
   have yes : mayF (nds r) S i = true → Z25q Z12 Z16 Z1z Z26 Z6z Z52 Z6h m n0 c ol.length oc (n8 ol) r.length r.length (rd : Int) ((inI (mayF (nds r) S) i).length + 1) (i : Int) rn rc rs [.list r.length qc (cdsC r)] V r.length (ifn (dF S) r.length) ((inI (mayF (nds r) S) i).length + 1) (ints (inI (mayF (nds r) S) i) ++ [.v (.int .i64 (i : Int))]) (i : Int) = R := fun q => by
    rw [Z25x, Z14 (by omega)]
    rw [if_pos q, List.length_append, List.length_singleton, Zx8, Z1kw] at ih
    exact ih
   have no : mayF (nds r) S i = false → Z25o Z12 Z16 Z1z Z26 Z6z Z52 Z6h m n0 c ol.length oc (n8 ol) r.length r.length (rd : Int) (inI (mayF (nds r) S) i).length (i : Int) rn rc rs [.list r.length qc (cdsC r)] V r.length (ifn (dF S) r.length) (inI (mayF (nds r) S) i).length (ints (inI (mayF (nds r) S) i)) = R := fun q => by
    rw [Z25w, Z14 (by omega)]
    rw [if_neg (by rw [q]; decide)] at ih
    exact ih
   refine st_cT (decide_eq_true (by omega)) ?_
   refine st_if ⟨by omega, by omega⟩ ?_
   refine Z0 (Z23d hlt) ?_
   cases hd : S i with
   | true =>
    refine st_cF (i_ne (by unfold dF; rw [hd]; decide)) ?_
    exact no (by unfold mayF; rw [hd]; rfl)
   | false =>
    refine st_cT (i_eq (by unfold dF; rw [hd]; rfl)) ?_
    by_cases h0 : i = 0
    ·refine st_cT (i_eq (by omega)) ?_
     refine st_if ⟨rfl, by first | rfl | trivial, by constructor <;> omega, by first | rfl | trivial⟩ ?_
     exact yes (by unfold mayF; rw [hd, decide_eq_true h0]; rfl)
    ·refine st_cF (i_ne (by omega)) ?_
     refine Z0 rfl ?_
     dsimp only
     refine st_if ⟨by omega, by omega⟩ ?_
     refine Z0 (Z8u hr.b.ok hlt) ?_
     have hp := (Pt.of hv.shape (i + 1)).parN hlt (by omega) (by omega)
     rw [hp.1]
     have hpr : parN (nds r) i < r.length := by omega
     refine st_if ⟨by omega, by omega⟩ ?_
     rw [Int.toNat_natCast]
     refine Z0 (Z23d hpr) ?_
     cases hdp : S (parN (nds r) i) with
     | true =>
      refine st_cT (i_eq (by unfold dF; rw [hdp]; rfl)) ?_
      refine st_if ⟨rfl, by first | rfl | trivial, by constructor <;> omega, by first | rfl | trivial⟩ ?_
      exact yes (by unfold mayF; rw [hd, hdp]; simp)
     | false =>
      refine st_cF (i_ne (by unfold dF; rw [hdp]; decide)) ?_
      exact no (by unfold mayF; rw [hd, hdp, decide_eq_false h0]; rfl)
  ·obtain rfl : i = r.length := by omega
   refine st_cF (decide_eq_false (by omega)) ?_
   by_cases hro : rd < ol.length
   ·refine st_cT (decide_eq_true (by omega)) ?_
    refine st_if ⟨by omega, by omega⟩ ?_
    refine Z0 (n8_get hro) ?_
    have e0 : ol.getD rd 0 = ol[rd] := by simp [List.getD_eq_getElem?_getD, List.getElem?_eq_getElem hro]
    have := h8 _ (List.getElem_mem hro)
    rw [e0, Z10i (x := (ol[rd] : Int)) (by omega) (by omega)]
    exact fin _
   ·refine st_cF (decide_eq_false (by omega)) ?_
    exact fin 0
end
theorem Z267 {m : Nat} (hm : 1000 < m) {r : List Cd} {qc : Option Nat} (hr : Tr r) {ol : List Nat} (h8 : ∀ x ∈ ol, x < 256) (oc : Option Nat) (rn : Nat) (rc : Option Nat) (rs : List D) : ∀ (c rd : Nat) (S : Nat → Bool) (v : List Cd) (vc : Option Nat), r.length - rd < c → rd = rk S r.length → Up (nds r) S → CdsB v → nds v = left (nds r) S →
  Z25t Z12 Z16 Z1z Z26 Z6z Z52 Z6h m c ol.length oc (n8 ol) r.length r.length (rd : Int) rn rc rs [.list r.length qc (cdsC r)] [.list v.length vc (cdsC v)] (r.length * 1) (ifn (dF S) r.length) = some (.v (.bool true))
 | 0, rd, S, v, vc, hc, hrd, hU, hb, hn => by omega
 | c + 1, rd, S, v, vc, hc, hrd, hU, hb, hn => by
  have hB := hr.b.len
  have hl := hr.len
  have hv := hr.t.valid
  have hNl := Z1r r
  have hvl : v.length = rk S r.length := by rw [← Z1r v, hn, Z78, hNl]
  have hrl := rk_le S r.length
  rw [Z261]
  refine Z0 rfl ?_
  dsimp only
  rw [Nat.mul_one]
  by_cases hlt : rd < r.length
  ·refine st_cT (decide_eq_true (by omega)) ?_
   have hvT : Tree (nds v) := by rw [hn]; exact Z1yt hr.t hU
   have hvv := hvT.valid
   refine Z268 (qc := qc) (S := S) hr oc rd rn rc rs _ h8 (fun k => ?_) m 0 (by omega) (by omega)
   have hcnt : (inI (mayF (nds r) S) r.length).length = ((List.range r.length).filter (mayF (nds r) S)).length := by unfold inI; rw [List.length_map]
   have hpos : 0 < (inI (mayF (nds r) S) r.length).length := by
    rw [hcnt]
    have := Z26c hv.shape (D := S) (by rw [hNl]; omega)
    rwa [hNl] at this
   have hkm : k % (inI (mayF (nds r) S) r.length).length < (inI (mayF (nds r) S) r.length).length := Nat.mod_lt _ hpos
   obtain ⟨j, hj, hmj, hget⟩ : ∃ j, j < r.length ∧ mayF (nds r) S j = true ∧ rdI .i64 (ints (inI (mayF (nds r) S) r.length))[k % (inI (mayF (nds r) S) r.length).length]? = some (j : Int) := by
    have hk2 : k % (inI (mayF (nds r) S) r.length).length < ((List.range r.length).filter (mayF (nds r) S)).length := by omega
    have hmem := List.getElem_mem hk2
    rw [List.mem_filter, List.mem_range] at hmem
    refine ⟨_, hmem.1, hmem.2, ?_⟩
    rw [Z1et hkm]
    have : (inI (mayF (nds r) S) r.length)[k % (inI (mayF (nds r) S) r.length).length]? = some ((((List.range r.length).filter (mayF (nds r) S))[k % (inI (mayF (nds r) S) r.length).length] : Nat) : Int) := by
     unfold inI at hk2 ⊢
     rw [List.getElem?_map, List.getElem?_eq_getElem hk2]; rfl
    rw [List.getD_eq_getElem?_getD, this]; rfl
   have hjN : j < (nds r).length := by rw [hNl]; exact hj
   have hDj : S j = false := by unfold mayF at hmj; simp only [Bool.and_eq_true, Bool.not_eq_true'] at hmj; exact hmj.1
   have hpD : 0 < j → S (parN (nds r) j) = true := fun h0 => by
    unfold mayF at hmj
    rw [decide_eq_false (show ¬ j = 0 by omega)] at hmj
    simp only [Bool.and_eq_true, Bool.false_or] at hmj
    exact hmj.2
   have hxj := hr.b.ok _ (List.getElem_mem hj)
   have hcl := Cd.cells_len hxj
   have hx : XOk (mvC r S r[j]) := ⟨⟨hxj.pol, hxj.ex⟩, hr.b.ex r[j] (List.getElem_mem hj), hr.b.q r[j] (List.getElem_mem hj)⟩
   have hxn : (mvC r S r[j]).n = mv (nds r) S (nds r)[j] := by rw [Zbf hj]; rfl
   have hae : addE (nds v) (mvC r S r[j]).n = 0 := by rw [hn, hxn]; exact add_back_ok hr.t hU hjN hDj hpD
   have hab : nds (adC v (mvC r S r[j])) = left (nds r) (ins S j) := by rw [Z1to, hn, hxn]; exact add_back hr.t hU hjN hDj hpD
   have hadl := Z1x4 v (mvC r S r[j])
   have hpar := mv_par hr.t hU hjN hDj hpD (A := S) hjN
   rw [← hxn] at hpar
   have nx : Z25s Z12 Z16 Z1z Z26 Z6z Z52 Z6h m c ol.length oc (n8 ol) r.length r.length (rd : Int) rn rc rs [.list r.length qc (cdsC r)] [.list v.length vc (cdsC v)] r.length (ifn (dF (ins S j)) r.length) (inI (mayF (nds r) S) r.length).length (ints (inI (mayF (nds r) S) r.length)) (mvC r S r[j]).cells = some (.v (.bool true)) := by
    rw [Z25y]
    refine Z0 (Z22s hb hx hvv hae vc (by omega)) ?_
    refine Z0 rfl ?_
    refine st_if rfl ?_
    refine Z0 rfl ?_
    refine Z0 (rdI_v _ _) ?_
    refine Z0 (rdI_v _ _) ?_
    refine st_if rfl ?_
    refine st_cF rfl ?_
    rw [Z14 (by omega)]
    have hri := rk_ins hDj r.length
    rw [if_pos hj] at hri
    have := Z267 hm (qc := qc) hr h8 oc rn rc rs c (rd + 1) (ins S j) (adC v (mvC r S r[j])) (some (v.length + 1)) (by omega) (by omega) (Z26k hr.t hU hjN hDj hpD) (adC_b hb hx (by omega)) hab
    rw [hadl, Nat.mul_one] at this
    exact this
   rw [Z25z]
   refine st_ifn (by omega) ?_
   rw [Z1a0]
   refine st_if ⟨by omega, by omega⟩ ?_
   simp only [Int.toNat_natCast, Nat.mul_one, Nat.zero_add]
   refine Z0 hget ?_
   refine st_if ⟨by omega, by omega⟩ ?_
   simp only [Int.toNat_natCast, Nat.mul_one, Nat.zero_add]
   refine st_if ⟨by first | rfl | trivial, hj⟩ ?_
   refine Z0 rfl ?_
   dsimp only
   refine st_if ⟨by omega, by omega⟩ ?_
   refine st_if (by rw [cdsC_len hr.b.ok]; omega) ?_
   rw [Zd8 hr.b.ok hj, dF_ins]
   refine st_if hcl ?_
   by_cases h0 : 0 < j
   ·refine st_cT (decide_eq_true (by omega)) ?_
    refine Z0 (Z3g (Cd.at0 r[j])) ?_
    have hp := (Pt.of hv.shape (j + 1)).parN hj h0 (by omega)
    have hpl : parN (nds r) j < r.length := by omega
    have hpN : parN (nds r) j < (nds r).length := by omega
    obtain ⟨lc, eL⟩ := Z1t7 hr.b hv.shape qc hpl (hv.dep _ hpN)
    rw [hp.1]
    refine Z0 eL ?_
    refine Z0 rfl ?_
    have hll := Z1ev hv.shape _ hpN
    have hdp := hv.dep _ hpN
    have eF := Z1y5 hb hvv vc (Z1t6 hv.shape hr.b.ok.nds hpN) (by omega) lc
    have e1 := Z1yz hv.shape hU (by rw [← hn]; exact hvv) hpN (hpD h0)
    rw [← hn] at e1
    rw [e1, if_neg (by omega)] at eF
    refine Z0 eF ?_
    refine Z0 rfl ?_
    refine st_if rfl ?_
    refine Z0 (rdI_v _ _) ?_
    refine Z0 (rdI_v _ _) ?_
    refine st_cF rfl ?_
    rw [if_neg (by omega)] at hpar
    have ec : r[j].cells.set 0 (.v (.int .i64 (rk S (parN (nds r) j) : Int))) = (mvC r S r[j]).cells := by
     rw [← hpar]; rfl
    rw [ec]
    exact nx
   ·refine st_cF (decide_eq_false (by omega)) ?_
    obtain rfl : j = 0 := by omega
    rw [if_pos rfl] at hpar
    have hroot := hv.shape.root _ (Z142 hj)
    have ec : r[0].cells = (mvC r S r[0]).cells := by
     show D.v (.int .i64 r[0].n.par) :: _ = D.v (.int .i64 (mvC r S r[0]).n.par) :: _
     rw [hpar, hroot]; rfl
    rw [ec]
    exact nx
  ·refine st_cF (decide_eq_false (by omega)) ?_
   have hall := Z26i (N := nds r) (D := S) (by rw [hNl]; omega)
   have hnv : nds v = nds r := by
    rw [hn, Z120 (B := fun _ => true) hall hv.shape.par_lt, Z21o _ hv.shape.par_lt]
   refine Z0 (Z1ve hb hr.b vc qc) ?_
   refine Z0 (rdI_v _ _) ?_
   rw [hnv, decide_eq_true rfl]
   refine st_cT rfl ?_
   refine Z0 (Z20y hb hr.b vc qc) ?_
   refine Z0 (rdB_v _) ?_
   rw [hnv, decide_eq_true rfl]
   refine st_cT rfl ?_
   refine Z0 Zp9 ?_
   rfl
theorem Z266 {rows : List T4} (hr : ∀ t, t ∈ rows → t.ok) (rc : Option Nat) {l : List Nat} (hl : ∀ x ∈ l, x < 256) (lc : Option Nat) :
  Z25v [.agg [.list rows.length rc (t4C rows)], .list l.length lc (n8 l)] = some (.v (.bool true)) := by
 show Z25u Z12 Z16 Z1z Z26 Z6z Z52 Z6h M rows.length rc (t4C rows) l.length lc (n8 l) = _
 unfold Z25u
 obtain ⟨r, qc, e1, e2, ht⟩ := Z1wv hr rc
 have hlen := ht.len
 refine Z0 e1 ?_
 refine Z0 rfl ?_
 refine st_if rfl ?_
 refine Z0 rfl ?_
 dsimp only
 simp only [Int.toNat_natCast]
 refine st_if ⟨by omega, by omega, by constructor <;> omega⟩ ?_
 have hz : ∀ n, rk (fun _ => false) n = 0 := fun n => by
  induction n with
  | zero => rfl
  | succ n ih => rw [rk, ih]; rfl
 have hl0 : left (nds r) (fun _ => false) = [] := by
  refine List.length_eq_zero_iff.1 ?_
  rw [Z78, hz]
 have := Z267 (m := M) (by unfold M; omega) (qc := qc) ht hl lc rows.length rc (t4C rows) M 0 (fun _ => false) [] (some 0) (by unfold M; omega) (hz _).symm (fun j hj h0 ha => by cases ha) CdsB.nil (by rw [hl0]; rfl)
 rw [Z23g]
 exact this
end Go.Ev