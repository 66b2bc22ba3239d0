/-
 Views: a node's depth, levels, children, lines.
-/
import Derived.Test.YtnghcoghbbapgaaGreatDoorEzX2
import Derived.Test.YtnghcoghbbapgaaGreatDoorEzH1
set_option linter.unusedSimpArgs false
set_option linter.unusedVariables false
set_option maxRecDepth 100000
namespace Go.Ev
open Go Go.Proofs
theorem Z22i (n : Nat) (c : Option Nat) (cs : List D) : Z4e [.agg [.list n c cs]] = some (.v (.int .i64 ((n : Nat) : Int))) := rfl
theorem Z1fj {l : List Int} (hb : l.length < 1000000000) (cp : Option Nat) : Z5o [.list l.length cp (ints l)] = some (.list l.length (some l.length) (ints l)) := by
 show Zh7 M l.length cp (ints l) = _
 unfold Zh7
 have hl : (ints l).length = l.length * 1 := by rw [Z13z]; omega
 by_cases h0 : l.length = 0
 ·refine st_cT (i_eq (by omega)) ?_
  rw [Z1h8 hl h0, h0]
 ·refine st_cF (i_ne (by omega)) ?_
  simp only [Int.toNat_natCast]
  refine st_if ⟨by omega, by omega, by constructor <;> omega⟩ ?_
  refine st_if hl ?_
  refine st_if ⟨by omega, hl⟩ ?_
  refine st_if (by omega) ?_
  rw [Z1mp hl (Z18b _ _ rfl)]
def exL (l : List Cd) : D := .list l.length (some l.length) (ints (dps (nds l) l.length l.length))
theorem Z1l3 {l : List Cd} (h : CdsB l) (hv : Valid (nds l)) (cp : Option Nat) : Z2x [.agg [.list l.length cp (cdsC l)]] = some (.tup [exL l, .v (.int .i64 0)]) := by
 rw [Z1mu h cp, (Z183 h.ok.nds).2 hv]
 rfl
theorem Z1l4 {l : List Cd} (h : CdsB l) (hv : Valid (nds l)) (cp : Option Nat) {i : Nat} (hi : i < l.length) : Z5n [.agg [.list l.length cp (cdsC l)], .v (.int .i64 (i : Int))] = some (.tup [exL l, .v (.int .i64 0)]) := by
 show Zzg M l.length cp (cdsC l) (i : Int) = _
 unfold Zzg
 refine Z0 (Z1l3 h hv cp) ?_
 refine Z0 rfl ?_
 refine st_if rfl ?_
 refine Z0 rfl ?_
 refine Z0 (rdI_v _ _) ?_
 refine st_cT rfl ?_
 refine st_cF (decide_eq_false (by omega)) ?_
 refine st_cF (decide_eq_false (by omega)) ?_
 rw [Z1hh]
 rfl
theorem Z1vl {l : List Cd} (h : CdsB l) (hv : Valid (nds l)) (cp : Option Nat) {i : Nat} (hi : i < l.length) : Z3o [.agg [.list l.length cp (cdsC l)], .v (.int .i64 (i : Int))] = some (.tup [.v (.int .i64 (dep (nds l) i : Int)), .v (.int .i64 0)]) := by
 show Zvp M l.length cp (cdsC l) (i : Int) = _
 unfold Zvp
 refine Z0 (Z1l4 h hv cp hi) ?_
 refine Z0 rfl ?_
 refine st_if rfl ?_
 refine Z0 rfl ?_
 refine Z0 (rdI_v _ _) ?_
 refine st_cF rfl ?_
 refine st_if ⟨by omega, by show (i : Int) < ((l.length : Nat) : Int); omega⟩ ?_
 simp only [Int.toNat_natCast, Nat.mul_one]
 refine Z0 (dps_at hi hi) ?_
 rfl
def lvF (N : List Nd) (d : Int) (j : Nat) : Bool := decide ((dep N j : Int) = d)
theorem Z1qy {m : Nat} {l : List Cd} (h : CdsB l) (cp : Option Nat) (d : Int) : ∀ (c i : Nat), l.length - i < c → i ≤ l.length →
  Zfx m c d (inI (lvF (nds l) d) i).length l.length (some l.length) (ints (dps (nds l) l.length l.length)) ((l.length : Nat) : Int) (i : Int) l.length cp (cdsC l) ((inI (lvF (nds l) d) i).length * 1) (ints (inI (lvF (nds l) d) i)) =
  some (.tup [.list (inI (lvF (nds l) d) l.length).length (some (inI (lvF (nds l) d) l.length).length) (ints (inI (lvF (nds l) d) l.length)), .v (.int .i64 0)])
 | 0, i, hc, hi => by omega
 | c + 1, i, hc, hi => by
  have hB := h.len
  have hil := Z1hb (lvF (nds l) d) i
  rw [Z1hi]
  simp only [Int.toNat_natCast, Nat.mul_one]
  by_cases hlt : i < l.length
  ·have ih := Z1qy (m := m) h cp d c (i + 1) (by omega) (by omega)
   rw [Z1kx] at ih
   simp only [Nat.mul_one] at ih
   refine st_cT (decide_eq_true (by omega)) ?_
   refine st_if (by omega) ?_
   refine Z0 (dps_at hlt hlt) ?_
   rw [Z14 (by omega)]
   by_cases hp : (dep (nds l) i : Int) = d
   ·have hc : lvF (nds l) d i = true := decide_eq_true hp
    refine st_cT (i_eq hp) ?_
    refine st_if ⟨rfl, by first | rfl | trivial, by constructor <;> omega, by first | rfl | trivial⟩ ?_
    rw [if_pos hc, List.length_append, List.length_singleton, Zx8, Z1kw] at ih
    exact ih
   ·have hc : ¬ lvF (nds l) d i = true := fun e => hp (of_decide_eq_true e)
    refine st_cF (i_ne hp) ?_
    rw [if_neg hc] at ih
    exact ih
  ·obtain rfl : i = l.length := by omega
   refine st_cF (decide_eq_false (by omega)) ?_
   refine st_if (by omega) ?_
   rw [Z71 (Z13z _)]
   refine Z0 (Z1fj (by omega) none) ?_
   refine Z0 rfl ?_
   refine st_if (by omega) ?_
   refine st_if (by omega) ?_
   rfl
theorem Z20w {l : List Cd} (h : CdsB l) (hv : Valid (nds l)) (cp : Option Nat) (d : Int) : Z3p [.agg [.list l.length cp (cdsC l)], .v (.int .i64 d)] =
  some (.tup [.list (inI (lvF (nds l) d) l.length).length (some (inI (lvF (nds l) d) l.length).length) (ints (inI (lvF (nds l) d) l.length)), .v (.int .i64 0)]) := by
 show Zvq M l.length cp (cdsC l) d = _
 unfold Zvq
 have hB := h.len
 refine Z0 (Z1l3 h hv cp) ?_
 refine Z0 rfl ?_
 refine st_if rfl ?_
 refine Z0 rfl ?_
 refine Z0 (rdI_v _ _) ?_
 refine st_cF rfl ?_
 exact Z1qy (m := M) h cp d M 0 (by unfold M; omega) (by omega)
theorem Z1qz {m : Nat} {l : List Cd} (h : CdsB l) (cp : Option Nat) (p : Int) : ∀ (c i : Nat), l.length - i < c → i ≤ l.length →
  Z8v m c p (inI (chF (nds l) p) i).length l.length cp (cdsC l) ((l.length : Nat) : Int) (i : Int) ((inI (chF (nds l) p) i).length * 1) (ints (inI (chF (nds l) p) i)) =
  some (.tup [.list (inI (chF (nds l) p) l.length).length (some (inI (chF (nds l) p) l.length).length) (ints (inI (chF (nds l) p) l.length)), .v (.int .i64 0)])
 | 0, i, hc, hi => by omega
 | c + 1, i, hc, hi => by
  have hB := h.len
  have hil := Z1hb (chF (nds l) p) i
  rw [Z1ak]
  simp only [Int.toNat_natCast, Nat.mul_one]
  by_cases hlt : i < l.length
  ·have ih := Z1qz (m := m) h cp p c (i + 1) (by omega) (by omega)
   have hx : l[i].n.ok := h.ok _ (List.getElem_mem hlt)
   have hcl := Cd.cells_len hx
   rw [Z1kx] at ih
   simp only [Nat.mul_one] at ih
   refine st_cT (decide_eq_true (by omega)) ?_
   refine st_if (by omega) ?_
   refine st_if (by rw [cdsC_len h.ok]; omega) ?_
   rw [Zd8 h.ok hlt]
   refine st_if hcl ?_
   refine Z0 (Z3g (Cd.at0 l[i])) ?_
   rw [Z14 (by omega)]
   by_cases hp : l[i].n.par = p
   ·have hc : chF (nds l) p i = true := by unfold chF; rw [Z1kz hlt]; exact decide_eq_true hp
    refine st_cT (i_eq hp) ?_
    refine st_if ⟨rfl, by first | rfl | trivial, by constructor <;> omega, by first | rfl | trivial⟩ ?_
    rw [if_pos hc, List.length_append, List.length_singleton, Zx8, Z1kw] at ih
    exact ih
   ·have hc : ¬ chF (nds l) p i = true := by unfold chF; rw [Z1kz hlt, decide_eq_false hp]; decide
    refine st_cF (i_ne hp) ?_
    rw [if_neg hc] at ih
    exact ih
  ·obtain rfl : i = l.length := by omega
   refine st_cF (decide_eq_false (by omega)) ?_
   refine st_if (by omega) ?_
   rw [Z71 (Z13z _)]
   refine Z0 (Z1fj (by omega) none) ?_
   refine Z0 rfl ?_
   refine st_if (by omega) ?_
   refine st_if (by omega) ?_
   rfl
theorem Z1ip {l : List Cd} (h : CdsB l) (hv : Valid (nds l)) (cp : Option Nat) {i : Nat} (hi : i < l.length) : Z2i [.agg [.list l.length cp (cdsC l)], .v (.int .i64 (i : Int))] =
  some (.tup [.list (inI (chF (nds l) i) l.length).length (some (inI (chF (nds l) i) l.length).length) (ints (inI (chF (nds l) i) l.length)), .v (.int .i64 0)]) := by
 show Zk8 M l.length cp (cdsC l) (i : Int) = _
 unfold Zk8
 have hB := h.len
 refine Z0 (Z1l4 h hv cp hi) ?_
 refine Z0 rfl ?_
 refine st_if rfl ?_
 refine Z0 rfl ?_
 refine Z0 (rdI_v _ _) ?_
 refine st_cF rfl ?_
 exact Z1qz (m := M) h cp (i : Int) M 0 (by unfold M; omega) (by omega)
theorem Z1wz {α : Type} {n off size : Nat} {cs xs : List α} (h : cs.length = n) (hx : off + size ≤ n) : putL n cs off size xs = cs.take off ++ (xs ++ cs.drop (off + size)) := by
 unfold putL
 split
 ·rename_i h0
  rw [h0.1, List.take_zero, List.nil_append, List.drop_eq_nil_of_le (by omega), List.append_nil]
 ·rfl
theorem Z22j {α : Type} {n off size : Nat} {cs xs : List α} (h : cs.length = n) (hx : off + size ≤ n) (hs : xs.length = size) : (putL n cs off size xs).length = n := by
 rw [Z1wz h hx]
 simp only [List.length_append, List.length_take, List.length_drop]
 omega
theorem Z20x {α : Type} {n off size : Nat} {cs xs : List α} (h : cs.length = n) (hx : off + size ≤ n) (hs : xs.length = size) : (putL n cs off size xs).drop off = xs ++ cs.drop (off + size) := by
 rw [Z1wz h hx, List.drop_append, List.drop_eq_nil_of_le (by rw [List.length_take]; omega), List.nil_append, List.length_take]
 rw [show off - min off cs.length = 0 by omega, List.drop_zero]
theorem Z1vm {m : Nat} {l : List Cd} (h : CdsB l) (hs : Shape (nds l)) (cp : Option Nat) {n : Nat} (hn : n < 1000) {L : List Oid} (hL : L.length = n) : ∀ (c k : Nat) (a : Int) (B : List D), k < c → k ≤ n → B.length = n * 17 → B.drop (k * 17) = oidsC (L.drop k) →
  (k = 0 ∨ ∃ j : Nat, a = (j : Int) ∧ j < l.length ∧ line (nds l) j = L.take k) →
  Zrs m c a n ((k : Int) - 1) l.length cp (cdsC l) (n * 17) B = some (.tup [.list n (some n) (oidsC L), .v (.int .i64 0)])
 | 0, k, a, B, hc, hk, hB, hD, hj => by omega
 | c + 1, 0, a, B, hc, hk, hB, hD, hj => by
  rw [Z15g]
  refine st_cF (decide_eq_false (by omega)) ?_
  refine st_if (by omega) ?_
  rw [Nat.zero_mul, List.drop_zero, List.drop_zero] at hD
  rw [Z71 hB, hD]
 | c + 1, k + 1, a, B, hc, hk, hB, hD, hj => by
  rw [Z15g]
  obtain ⟨j, rfl, hjl, hlj⟩ := hj.resolve_left (by omega)
  clear hj
  have hj := hjl
  have hx : l[j].n.ok := h.ok _ (List.getElem_mem hj)
  have hpl := Oid.cells_len hx.pol
  have hlen := cdsC_len h.ok
  have hN : j < (nds l).length := by rw [Z1r]; exact hj
  have hkL : k < L.length := by omega
  have ek : (((k + 1 : Nat) : Int) - 1) = (k : Int) := by omega
  rw [ek]
  simp only [Int.toNat_natCast, Nat.add_zero, Nat.zero_add]
  rw [Z143 h.ok hj]
  refine st_cT (decide_eq_true (by omega)) ?_
  refine st_if ⟨by omega, by omega⟩ ?_
  refine st_if (by omega) ?_
  refine st_if ⟨by omega, by omega⟩ ?_
  refine st_if hpl ?_
  refine st_if (by omega) ?_
  refine st_if ⟨by omega, by omega⟩ ?_
  refine Z0 (Z8u h.ok hj) ?_
  rw [Z10i (by omega) (by omega)]
  have hlast : L[k] = l[j].n.pol ∧ (k = 0 ∨ ∃ p : Nat, l[j].n.par = (p : Int) ∧ p < l.length ∧ line (nds l) p = L.take k) := by
   rw [List.take_succ_eq_append_getElem hkL] at hlj
   by_cases h0 : 0 < j
   ·rw [Z141 hs hN h0] at hlj
    obtain ⟨e1, e2⟩ := List.append_inj' hlj rfl
    have hp := (Pt.of hs (j + 1)).parN hj h0 (by omega)
    refine ⟨?_, .inr ⟨_, hp.1, by omega, e1⟩⟩
    rw [Z1a5 hj] at e2
    simpa using e2.symm
   ·obtain rfl : j = 0 := by omega
    rw [Z121] at hlj
    have hl1 := congrArg List.length hlj
    rw [List.length_append, List.length_singleton, List.length_singleton, List.length_take] at hl1
    obtain rfl : k = 0 := by omega
    refine ⟨?_, .inl rfl⟩
    rw [Z1a5 hj] at hlj
    simpa using hlj.symm
  refine Z1vm h hs cp hn hL c k _ _ (by omega) (by omega) (Z22j hB (by omega) hpl) ?_ hlast.2
  rw [Z20x hB (by omega) hpl, show k * 17 + 17 = (k + 1) * 17 by omega, hD, List.drop_eq_getElem_cons hkL, hlast.1]
  simp [oidsC]
theorem Z1vn {l : List Cd} (h : CdsB l) (hv : Valid (nds l)) (cp : Option Nat) {i : Nat} (hi : i < l.length) : Z4h [.agg [.list l.length cp (cdsC l)], .v (.int .i64 (i : Int))] =
  some (.tup [.list (line (nds l) i).length (some (line (nds l) i).length) (oidsC (line (nds l) i)), .v (.int .i64 0)]) := by
 show Zzi M l.length cp (cdsC l) (i : Int) = _
 unfold Zzi
 have hN : i < (nds l).length := by rw [Z1r]; exact hi
 have hd := hv.dep i hN
 have hll := Z1ev hv.shape i hN
 refine Z0 (Z1l4 h hv cp hi) ?_
 refine Z0 rfl ?_
 refine st_if rfl ?_
 refine Z0 rfl ?_
 refine Z0 (rdI_v _ _) ?_
 refine st_cF rfl ?_
 refine st_if ⟨by omega, by show (i : Int) < ((l.length : Nat) : Int); omega⟩ ?_
 simp only [Int.toNat_natCast, Nat.mul_one]
 refine Z0 (dps_at hi hi) ?_
 rw [Z14 (by omega)]
 simp only [Int.toNat_natCast]
 refine st_if ⟨by omega, by omega, by constructor <;> omega⟩ ?_
 rw [Z10i (by omega) (by omega), ← hll]
 refine Z1vm (m := M) h hv.shape cp (by omega) rfl M _ _ _ (by unfold M; omega) (by omega) (Z18b _ _ rfl) ?_ (.inr ⟨i, rfl, hi, (List.take_length).symm⟩)
 rw [List.drop_length, List.drop_eq_nil_of_le (by rw [Z18b _ 17 rfl]; omega)]
 rfl
end Go.Ev