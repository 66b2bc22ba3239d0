/-
 Expect; a node that is added and deleted leaves no trace.
-/
import Derived.Test.YtnghcoghbbapgaaGreatDoorEzX6
import Derived.Test.YtnghcoghbbapgaaGreatDoorEzXH
set_option linter.unusedSimpArgs false
set_option linter.unusedVariables false
set_option maxRecDepth 100000
namespace Go.Ev
open Go Go.Proofs
theorem rk_but (a : Nat) : ∀ n, rk (fun j => decide (j ≠ a)) n = if n ≤ a then n else n - 1
 | 0 => by simp [rk]
 | n + 1 => by
  rw [rk, rk_but a n]
  by_cases h : n = a
  ·rw [if_neg (c := (fun j => decide (j ≠ a)) n = true) (by simp [h])]
   split <;> split <;> omega
  ·rw [if_pos (c := (fun j => decide (j ≠ a)) n = true) (decide_eq_true h)]
   split <;> split <;> omega
section
variable {l : List Nd} {n : Nd} (hv : Valid l) (hok : ∀ m, m ∈ l → m.ok) (hn : n.ok) (he : addE l n = 0)
include hv hok hn he
theorem add_del : delR (addN l n) [(insAt l n : Int)] = l := by
 have hlen := addN_len (l := l) (n := n)
 have hale := Zo8 l n
 have hS := add_shape hv hok hn he
 have hU : Up (addN l n) (fun j => decide (j ≠ insAt l n)) := fun i hi h0 ha => by
  have hia : i ≠ insAt l n := of_decide_eq_true ha
  obtain ⟨j, e, hj⟩ := Z1wn hia
  have hjl : j < l.length := by
   unfold nw at e
   split at e <;> omega
  have hap := at_pos hv hok hn he (by omega)
  have hj0 : 0 < j := by
   refine Nat.pos_of_ne_zero fun q => ?_
   subst q
   unfold nw at e
   rw [if_pos hap] at e
   omega
  rw [e, Z1xt hv hok hn he hjl hj0]
  refine decide_eq_true fun q => ?_
  unfold nw at q
  split at q <;> omega
 rw [Z200 hS hU (fun i hi => by
  by_cases q : i = insAt l n
  ·subst q; simp
  ·have h1 : ¬ (i : Int) = (insAt l n : Int) := by omega
   simp [q, h1])]
 have hlL : (left (addN l n) (fun j => decide (j ≠ insAt l n))).length = l.length := by
  rw [Z78, hlen, rk_but, if_neg (by omega)]; rfl
 refine Z6r hlL fun i hi => ?_
 rw [hlL] at hi
 have hnl : nw (insAt l n) i < (addN l n).length := by unfold nw; split <;> omega
 have hna : (fun j => decide (j ≠ insAt l n)) (nw (insAt l n) i) = true := decide_eq_true (by unfold nw; split <;> omega)
 have hg := Zh2 (A := fun j => decide (j ≠ insAt l n)) hnl hna
 have hrk : rk (fun j => decide (j ≠ insAt l n)) (nw (insAt l n) i) = i := by
  rw [rk_but]
  unfold nw
  by_cases q : i < insAt l n
  ·rw [if_pos q, if_pos (by omega)]
  ·rw [if_neg q, if_neg (by omega)]; rfl
 rw [hrk] at hg
 rw [hg]
 have hw := Z1wm (n := n) hi
 rw [List.getElem?_eq_getElem hnl] at hw
 rw [Option.some.inj hw, List.getElem?_eq_getElem hi]
 have hp : (mv (addN l n) (fun j => decide (j ≠ insAt l n)) (sh (insAt l n) l[i])).par = l[i].par := by
  unfold mv sh
  dsimp only
  by_cases q : (insAt l n : Int) ≤ l[i].par
  ·rw [if_pos q, if_neg (by omega), rk_but, if_neg (by omega)]; omega
  ·rw [if_neg q]
   by_cases q2 : l[i].par < 0
   ·rw [if_pos q2]
   ·rw [if_neg q2, rk_but, if_pos (by omega)]; omega
 have : mv (addN l n) (fun j => decide (j ≠ insAt l n)) (sh (insAt l n) l[i]) = l[i] := (Nd.eq_iff _ _).2 ⟨hp, rfl, rfl, rfl⟩
 rw [this]
end
def Cd.setEx (y : Cd) (s : List Oid) (c : Option Nat) : Cd := ⟨{ y.n with ex := s }, c, y.qc⟩
theorem Cd.setEx_cells {y : Cd} (h : y.n.ok) (s : List Oid) (c : Option Nat) : y.cells.set 18 (.list s.length c (oidsC s)) = (y.setEx s c).cells := by
 have h17 := Oid.cells_len h.pol
 unfold Cd.cells Cd.setEx
 rw [show 18 = 17 + 1 from rfl, List.set_cons_succ, List.set_append_right _ _ (by omega), h17]
 rfl
theorem Z1x6 {l : List Cd} (h : CdsOk l) {i : Nat} (hi : i < l.length) (s : List Oid) (c : Option Nat) : (cdsC l).set (i * 20 + 18) (.list s.length c (oidsC s)) = cdsC (l.set i (l[i].setEx s c)) := by
 have hl : (cdsC (l.take i)).length = i * 20 := by rw [cdsC_len (fun x hx => h x (List.mem_of_mem_take hx)), List.length_take, Nat.min_eq_left (by omega)]
 have hr : l.set i (l[i].setEx s c) = l.take i ++ (l[i].setEx s c :: l.drop (i + 1)) := by rw [List.set_eq_take_append_cons_drop, if_pos hi]
 have hc := Cd.cells_len (h _ (List.getElem_mem hi))
 rw [Z1qt hi, List.set_append_right _ _ (by omega), hl, show i * 20 + 18 - i * 20 = 18 by omega, List.set_append_left _ _ (by omega), Cd.setEx_cells (h _ (List.getElem_mem hi)), hr, Z92, Z1mx]
def exC (l : List Cd) (i : Nat) (s : List Oid) (c : Option Nat) : List Cd := l.mapIdx fun j y => if j = i then y.setEx s c else y
theorem Z19p (l : List Cd) (i : Nat) (s : List Oid) (c : Option Nat) : (exC l i s c).length = l.length := by simp [exC]
theorem Z1x7 {l : List Cd} {i : Nat} {s : List Oid} {c : Option Nat} {j : Nat} (hj : j < l.length) : (exC l i s c)[j]? = some (if j = i then l[j].setEx s c else l[j]) := by
 simp [exC, hj]
theorem Z23x {l : List Cd} {i : Nat} (hi : i < l.length) (s : List Oid) (c : Option Nat) : l.set i (l[i].setEx s c) = exC l i s c := by
 refine Z6r (by rw [List.length_set, Z19p]) fun j hj => ?_
 rw [List.length_set] at hj
 rw [Z1x7 hj, List.getElem?_set]
 by_cases q : i = j
 ·subst q; rw [if_pos rfl, if_pos hi, if_pos rfl]
 ·rw [if_neg q, if_neg (fun e => q e.symm), List.getElem?_eq_getElem hj]
theorem exC_b {l : List Cd} (h : CdsB l) (i : Nat) {s : List Oid} (hs : ∀ x, x ∈ s → x.ok) (hb : s.length < 1000000000) (c : Option Nat) : CdsB (exC l i s c) := by
 have mem : ∀ y, y ∈ exC l i s c → ∃ z, z ∈ l ∧ (y = z ∨ y = z.setEx s c) := fun y hy => by
  obtain ⟨j, hj, rfl⟩ := List.getElem_of_mem hy
  rw [Z19p] at hj
  have := Z1x7 (i := i) (s := s) (c := c) hj
  rw [List.getElem?_eq_getElem (by rw [Z19p]; exact hj)] at this
  refine ⟨l[j], List.getElem_mem hj, ?_⟩
  rw [Option.some.inj this]
  split
  ·exact .inr rfl
  ·exact .inl rfl
 refine ⟨fun y hy => ?_, by rw [Z19p]; exact h.len, fun y hy => ?_, fun y hy => ?_⟩
 ·obtain ⟨z, hz, rfl | rfl⟩ := mem y hy
  ·exact h.ok _ hz
  ·exact ⟨(h.ok _ hz).pol, hs⟩
 ·obtain ⟨z, hz, rfl | rfl⟩ := mem y hy
  ·exact h.ex _ hz
  ·exact hb
 ·obtain ⟨z, hz, rfl | rfl⟩ := mem y hy
  ·exact h.q _ hz
  ·exact h.q z hz
theorem Z23y (l : List Cd) (i : Nat) (s : List Oid) (c d : Option Nat) : nds (exC (l.map Cd.cp) i s c) = nds (exC l i s d) := by
 refine Z6r (by simp [nds, exC]) fun j hj => ?_
 simp only [nds, exC, List.length_map, List.length_mapIdx] at hj
 simp only [nds, exC, List.getElem?_map, List.getElem?_mapIdx, List.getElem?_eq_getElem hj, Option.map_some]
 congr 1
 split <;> rfl
theorem Z1yb {m : Nat} {l : List Cd} (h : CdsB l) (cp : Option Nat) {at_ : Nat} (hat : at_ < l.length) {s : List Oid} (hs : ∀ x, x ∈ s → x.ok) (hb : s.length < 1000000000) (sc : Option Nat) : ∀ (c i : Nat) (B : List D), l.length - i < c → i ≤ l.length → Blk20 (l.map Cd.cp) B i →
  Zka m c (at_ : Int) s.length sc (oidsC s) l.length l.length cp (cdsC l) ((l.length : Nat) : Int) (i : Int) (l.length * 20) B =
  some (.tup [.agg [.list l.length (some l.length) (cdsC (exC (l.map Cd.cp) at_ s (some s.length)))], .v (.int .i64 0)])
 | 0, i, B, hc, hi, hB => by omega
 | c + 1, i, B, hc, hi, hB => by
  have hbl := h.len
  have hF := (cp_b h).ok
  have hlen := hB.len
  rw [List.length_map] at hlen
  rw [Z1fi]
  simp only [Int.toNat_natCast]
  by_cases hlt : i < l.length
  ·have hxi : l[i].n.ok := h.ok _ (List.getElem_mem hlt)
   have hcl := Cd.cells_len hxi
   have hcc : Z2k [.agg l[i].cells] = some (.agg l[i].cp.cells) := Z1a2 hxi (h.ex _ (List.getElem_mem hlt)) (h.q _ (List.getElem_mem hlt))
   have hccl : l[i].cp.cells.length = 20 := Cd.cells_len (x := l[i].cp) hxi
   refine st_cT (decide_eq_true (by omega)) ?_
   refine st_if ⟨by omega, by omega⟩ ?_
   refine st_if (by rw [cdsC_len h.ok]; omega) ?_
   rw [Zd8 h.ok hlt]
   refine st_if hcl ?_
   refine Z0 hcc ?_
   refine Z0 rfl ?_
   refine st_if ⟨by omega, by omega⟩ ?_
   refine st_if hccl ?_
   refine st_if (by omega) ?_
   rw [Z14 (by omega)]
   refine Z1yb h cp hat hs hb sc c (i + 1) _ (by omega) (by omega) ?_
   have := hB.grow hF (y := l[i].cp) (by rw [List.getElem?_map, List.getElem?_eq_getElem hlt]; rfl)
   rw [Z1wz hlen (by omega), show 0 + i * 20 + 20 = 0 + (i + 1) * 20 by omega]
   exact this
  ·obtain rfl : i = l.length := by omega
   refine st_cF (decide_eq_false (by omega)) ?_
   refine Z0 (Z1ex hs hb sc) ?_
   refine Z0 rfl ?_
   refine st_if ⟨by omega, by omega⟩ ?_
   refine st_if ⟨by first | rfl | trivial, by omega⟩ ?_
   refine st_if (by omega) ?_
   have e := hB.all (List.length_map _).symm
   have hm : at_ < (l.map Cd.cp).length := by rw [List.length_map]; exact hat
   subst e
   dsimp only
   rw [Nat.zero_add, Z1x6 hF hm, Z23x hm, Z71 (by rw [cdsC_len (exC_b (cp_b h) at_ hs hb _).ok, Z19p, List.length_map])]
theorem Z1x8 {l : List Cd} (h : CdsB l) (hv : Valid (nds l)) (cp : Option Nat) {i : Nat} (hi : i < l.length) {s : List Oid} (hs : ∀ x, x ∈ s → x.ok) (hb : s.length < 1000000000) (sc : Option Nat) :
  Z4z [.agg [.list l.length cp (cdsC l)], .v (.int .i64 (i : Int)), .list s.length sc (oidsC s)] =
  some (if setErr s ≠ 0 then .tup [.agg [.list 0 (some 0) []], .v (.int .i64 (setErr s))] else .tup [.agg [.list l.length (some l.length) (cdsC (exC (l.map Cd.cp) i s (some s.length)))], .v (.int .i64 0)]) := by
 show Zru M l.length cp (cdsC l) (i : Int) s.length sc (oidsC s) = _
 unfold Zru
 have hB := h.len
 refine Z0 (Z1l4 h hv cp hi) ?_
 refine Z0 rfl ?_
 refine st_if rfl ?_
 refine Z0 rfl ?_
 refine Z0 (rdI_v _ _) ?_
 refine st_cF rfl ?_
 refine Z0 (Z11w hs sc) ?_
 refine Z0 (rdI_v _ _) ?_
 by_cases q : setErr s = 0
 ·refine Eq.trans ?_ (congrArg some (if_neg (fun e => e q)).symm)
  refine st_cF (i_bnf q) ?_
  simp only [Int.toNat_natCast]
  refine st_if ⟨by omega, by omega, by constructor <;> omega⟩ ?_
  exact Z1yb (m := M) h cp hi hs hb sc M 0 _ (by unfold M; omega) (by omega) ⟨by rw [List.length_map]; exact Z18b _ 20 rfl, by rw [Nat.zero_mul, List.take_zero, List.take_zero]; rfl⟩
 ·refine Eq.trans ?_ (congrArg some (if_pos q).symm)
  exact st_cT (i_bne q) rfl
theorem Z1yc {m : Nat} {l : List Cd} (h : CdsB l) (cp : Option Nat) {at_ : Nat} {s : List Oid} (hs : ∀ x, x ∈ s → x.ok) (hb : s.length < 1000000000) (sc : Option Nat) : ∀ (c i : Nat), l.length - i < c → i ≤ l.length →
  Zk9 m c (at_ : Int) s.length sc (oidsC s) (i : Int) l.length cp (cdsC l) i (i * 20) (cdsC ((exC l at_ s sc).take i)) =
  some (.agg [.list l.length none (cdsC (exC l at_ s sc))])
 | 0, i, hc, hi => by omega
 | c + 1, i, hc, hi => by
  have hbl := h.len
  have hE := exC_b h at_ hs hb sc
  have hEl := Z19p l at_ s sc
  rw [Z1fh]
  simp only [Int.toNat_natCast]
  by_cases hlt : i < l.length
  ·have hxi : l[i].n.ok := h.ok _ (List.getElem_mem hlt)
   have hcl := Cd.cells_len hxi
   have ih := Z1yc (m := m) h cp (at_ := at_) hs hb sc c (i + 1) (by omega) (by omega)
   have hg := Z1x7 (i := at_) (s := s) (c := sc) hlt
   have hEi : i < (exC l at_ s sc).length := by omega
   rw [List.getElem?_eq_getElem hEi] at hg
   have hg := Option.some.inj hg
   rw [List.take_succ_eq_append_getElem hEi, Z92, Z144] at ih
   have hyl := Cd.cells_len (hE.ok _ (List.getElem_mem hEi))
   have nx : Zh8 m c (at_ : Int) s.length sc (oidsC s) (i : Int) l.length cp (cdsC l) i (i * 20) (cdsC ((exC l at_ s sc).take i)) (exC l at_ s sc)[i].cells = some (.agg [.list l.length none (cdsC (exC l at_ s sc))]) := by
    rw [Z1cx]
    refine st_if hyl ?_
    refine st_if ⟨rfl, by first | rfl | trivial, by constructor <;> omega, hyl⟩ ?_
    rw [Z14 (by omega)]
    exact ih
   refine st_cT (decide_eq_true (by omega)) ?_
   refine st_if ⟨by omega, by omega⟩ ?_
   refine st_if (by rw [cdsC_len h.ok]; omega) ?_
   rw [Zd8 h.ok hlt]
   refine st_if hcl ?_
   by_cases q : i = at_
   ·refine st_cT (i_eq (by omega)) ?_
    rw [Cd.setEx_cells hxi]
    rw [if_pos q] at hg
    rw [← hg]
    exact nx
   ·refine st_cF (i_ne (by omega)) ?_
    rw [if_neg q] at hg
    rw [← hg]
    exact nx
  ·obtain rfl : i = l.length := by omega
   refine st_cF (decide_eq_false (by omega)) ?_
   refine st_if (by omega) ?_
   rw [List.take_of_length_le (by omega)]
   rw [Z71 (by rw [cdsC_len hE.ok, hEl])]
theorem Z1x9 {l : List Cd} (h : CdsB l) (cp : Option Nat) {i : Nat} {s : List Oid} (hs : ∀ x, x ∈ s → x.ok) (hb : s.length < 1000000000) (sc : Option Nat) :
  Z4y [.agg [.list l.length cp (cdsC l)], .v (.int .i64 (i : Int)), .list s.length sc (oidsC s)] = some (.agg [.list l.length none (cdsC (exC l i s sc))]) := by
 show Zrt M l.length cp (cdsC l) (i : Int) s.length sc (oidsC s) = _
 unfold Zrt
 have hB := h.len
 exact Z1yc (m := M) h cp hs hb sc M 0 (by unfold M; omega) (by omega)
end Go.Ev