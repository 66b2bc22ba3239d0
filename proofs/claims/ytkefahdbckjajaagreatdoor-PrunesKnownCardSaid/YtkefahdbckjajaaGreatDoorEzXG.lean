/-
  The evaluator: EzN4 EzN5 EzN6 EzN7 EzN8 EzN9 EzNA.
-/
import Derived.Test.YtkefahdbckjajaaGreatDoorEzN3
import Derived.Test.YtkefahdbckjajaaGreatDoorEzG4
/-
 Plans started: depths, and numbers of children.
-/
set_option linter.unusedSimpArgs false
set_option linter.unusedVariables false
set_option maxRecDepth 100000
namespace Go.Ev
open Go
def ckF (N : List Nd) (i j : Nat) : Int := (cntK N (fun _ => true) j i : Int)
theorem Z1ke (N : List Nd) (i j : Nat) : ckF N (i + 1) j = if 0 < i ∧ parN N i = j then ckF N i j + 1 else ckF N i j := by
 unfold ckF
 rw [cntK]
 by_cases h : 0 < i ∧ parN N i = j
 ·rw [if_pos h, if_pos ⟨h.1, rfl, h.2⟩]; omega
 ·rw [if_neg h, if_neg (fun q => h ⟨q.1, q.2.2⟩)]; omega
theorem Z149 (N : List Nd) (n : Nat) : ifn (ckF N 0) n = ifn (ckF N 1) n := Za2 fun j _ => by rw [Z1ke, if_neg (by omega)]
theorem Z1b6 {N : List Nd} {i : Nat} (h0 : 0 < i) (n : Nat) : (ifn (ckF N i) n).set (parN N i) (.v (.int .i64 (ckF N i (parN N i) + 1))) = ifn (ckF N (i + 1)) n := by
 rw [Z1ja]
 refine Za2 fun j _ => ?_
 rw [Z1ke]
 by_cases e : j = parN N i
 ·subst e; rw [if_pos rfl, if_pos ⟨h0, rfl⟩]
 ·rw [if_neg e, if_neg (fun q => e q.2.symm)]
theorem ckF_le (N : List Nd) (i j : Nat) : 0 ≤ ckF N i j ∧ ckF N i j ≤ (i : Int) := by
 unfold ckF
 have := Z1j3 (l := N) (A := fun _ => true) (i := j) i
 omega
theorem Z14a {a : List Int} (hb : a.length < 1000000000) (cp : Option Nat) : Z4f [.list a.length cp (ints a)] = some (.list a.length (some a.length) (ints a)) := by
 show Zmd M a.length cp (ints a) = _
 unfold Zmd
 have hl : (ints a).length = a.length := Zb5 a
 by_cases h0 : a.length = 0
 ·refine st_cT (i_eq (by omega)) ?_
  obtain rfl := List.length_eq_zero_iff.1 h0; rfl
 ·refine st_cF (i_ne (by omega)) ?_
  simp only [Int.toNat_natCast, Nat.zero_add, Nat.mul_one]
  refine st_if ⟨by omega, by omega, by constructor <;> omega⟩ ?_
  refine st_if hl ?_
  refine st_if (by omega) ?_
  refine st_if ⟨by omega, hl⟩ ?_
  refine st_if (by omega) ?_
  rw [List.take_zero, List.nil_append, List.drop_eq_nil_of_le (by rw [List.length_flatten, List.map_replicate, List.sum_replicate_nat]; simp), List.append_nil, Z5k hl]
theorem Zlb {m a0_0n : Nat} {a0_0c : Option Nat} {a0_0 : List D} {a1 : Int} {Z5u : List D} {Z6o : Int} {l : List Cd} (h : CdsB l) (hs : Shape (nds l)) {cp : Option Nat} {r : Option D} (hE : (Z1d m m a0_0n a0_0c a0_0 a1 0 (((l.length) : Nat) : Int) (0 : Int) (l.length) cp (cdsC l) (l.length) cp (cdsC l) (l.length * 1) (ints (dps (nds l) l.length l.length)) (ifn (ckF (nds l) l.length) l.length) Z5u Z6o (l.length) 0 []) = r) : ∀ (c i : Nat), l.length - i < c → i ≤ l.length →
  Z36 m c a0_0n a0_0c a0_0 a1 l.length cp (cdsC l) (l.length : Int) (i : Int) l.length cp (cdsC l) (l.length * 1) (ints (dps (nds l) i l.length)) (ifn (ckF (nds l) i) l.length) Z5u Z6o l.length = r
 | 0, i, hc, hi => by omega
 | c + 1, i, hc, hi => by
  have hB := h.len
  have hl := cdsC_len h.ok
  rw [Zi2]
  simp only [Int.toNat_natCast, Nat.zero_add, Nat.mul_one]
  by_cases hlt : i < l.length
  ·have hok := h.ok _ (List.getElem_mem hlt)
   have hn : i < (nds l).length := by rw [Zy]; exact hlt
   rw [Zk7 h.ok hlt]
   refine st_cT (decide_eq_true (by omega)) ?_
   refine st_if (by omega) ?_
   refine st_if (by omega) ?_
   refine st_if (Cd.cells_len hok) ?_
   have := Zlb (a0_0n := a0_0n) (a0_0c := a0_0c) (a0_0 := a0_0) (a1 := a1) h hs hE c (i + 1) (by omega) (by omega)
   rw [Nat.mul_one] at this
   by_cases h0 : 0 < i
   ·refine st_cT (decide_eq_true (by omega)) ?_
    have hp := hs.par hn h0
    rw [Z6g hlt] at hp
    have hpt : l[i].n.par.toNat = parN (nds l) i := by omega
    have hck := ckF_le (nds l) i (parN (nds l) i)
    have hdb := Zty (l := nds l) (parN (nds l) i)
    refine Z0 (Z5h (Cd.at0 _)) ?_
    refine st_if (by omega) ?_
    rw [hpt]
    refine Z0 (dps_at (by omega) (by omega)) ?_
    refine st_if (by omega) ?_
    refine st_if ⟨by first | rfl | trivial, by omega⟩ ?_
    refine Z0 (Z5h (Cd.at0 _)) ?_
    refine st_if (by omega) ?_
    rw [hpt]
    refine Z0 (Zeu (by omega)) ?_
    refine st_if (by omega) ?_
    refine st_if ⟨by first | rfl | trivial, by omega⟩ ?_
    have hd := Zgc hs hn h0
    rw [Zu (by omega), Zu (by omega), show dep (nds l) (parN (nds l) i) + 1 = dep (nds l) i from hd.symm, Zze, Z162, Z77 (by omega) (by omega), Z1b6 h0]
    exact this
   ·refine st_cF (decide_eq_false (by omega)) ?_
    obtain rfl : i = 0 := by omega
    rw [Zu (by omega), Zzi, Z149]
    exact this
  ·obtain rfl : i = l.length := by omega
   refine st_cF (decide_eq_false (by omega)) ?_
   simp only [Nat.mul_one] at hE
   exact hE
theorem Zqu {m a0_0n : Nat} {a0_0c : Option Nat} {a0_0 : List D} {a1 a2 : Int} {Z5u : List D} {Z6o : Int} {l : List Cd} (h : CdsB l) (hs : Shape (nds l)) {cp : Option Nat} {r : Option D} (hE : (cond (decide (a2 < (0 : Int)))
 (some (D.tup [(D.agg [(D.list 0 (some 0) [])]), (D.v (.int .i64 (19 : Int)))]))
 (cond (decide (a2 ≥ (((l.length) : Nat) : Int)))
 (some (D.tup [(D.agg [(D.list 0 (some 0) [])]), (D.v (.int .i64 (19 : Int)))]))
 (Zge m a2 (l.length) cp (cdsC l) (l.length) cp (cdsC l) (l.length * 1) (ints (dps (nds l) l.length l.length)) (l.length * 1) (ifn (ckF (nds l) l.length) l.length) (l.length * 1) Z5u (l.length) cp (cdsC l) Z6o (l.length) (l.length) (l.length) (l.length) (l.length) (l.length)))) = r) : ∀ (c i : Nat), l.length - i < c → i ≤ l.length →
    Z45 m c a0_0n a0_0c a0_0 a1 a2 l.length cp (cdsC l) (l.length : Int) (i : Int) l.length cp (cdsC l) (l.length * 1) (ints (dps (nds l) i l.length)) (ifn (ckF (nds l) i) l.length) Z5u Z6o l.length = r
  | 0, i, hc, hi => by omega
  | c + 1, i, hc, hi => by
    have hB := h.len
    have hl := cdsC_len h.ok
    rw [Zkz]
    simp only [Int.toNat_natCast, Nat.zero_add, Nat.mul_one]
    by_cases hlt : i < l.length
    · have hok := h.ok _ (List.getElem_mem hlt)
      have hn : i < (nds l).length := by rw [Zy]; exact hlt
      rw [Zk7 h.ok hlt]
      refine st_cT (decide_eq_true (by omega)) ?_
      refine st_if (by omega) ?_
      refine st_if (by omega) ?_
      refine st_if (Cd.cells_len hok) ?_
      have := Zqu (a0_0n := a0_0n) (a0_0c := a0_0c) (a0_0 := a0_0) (a1 := a1) h hs hE c (i + 1) (by omega) (by omega)
      rw [Nat.mul_one] at this
      by_cases h0 : 0 < i
      · refine st_cT (decide_eq_true (by omega)) ?_
        have hp := hs.par hn h0
        rw [Z6g hlt] at hp
        have hpt : l[i].n.par.toNat = parN (nds l) i := by omega
        have hck := ckF_le (nds l) i (parN (nds l) i)
        have hdb := Zty (l := nds l) (parN (nds l) i)
        refine Z0 (Z5h (Cd.at0 _)) ?_
        refine st_if (by omega) ?_
        rw [hpt]
        refine Z0 (dps_at (by omega) (by omega)) ?_
        refine st_if (by omega) ?_
        refine st_if ⟨by first | rfl | trivial, by omega⟩ ?_
        refine Z0 (Z5h (Cd.at0 _)) ?_
        refine st_if (by omega) ?_
        rw [hpt]
        refine Z0 (Zeu (by omega)) ?_
        refine st_if (by omega) ?_
        refine st_if ⟨by first | rfl | trivial, by omega⟩ ?_
        have hd := Zgc hs hn h0
        rw [Zu (by omega), Zu (by omega), show dep (nds l) (parN (nds l) i) + 1 = dep (nds l) i from hd.symm, Zze, Z162, Z77 (by omega) (by omega), Z1b6 h0]
        exact this
      · refine st_cF (decide_eq_false (by omega)) ?_
        obtain rfl : i = 0 := by omega
        rw [Zu (by omega), Zzi, Z149]
        exact this
    · obtain rfl : i = l.length := by omega
      refine st_cF (decide_eq_false (by omega)) ?_
      simp only [Nat.mul_one] at hE
      exact hE

theorem Zs9 {m a0_0n : Nat} {a0_0c : Option Nat} {a0_0 : List D} {a1 : Int} {Z5u : List D} {Z6o : Int} {l : List Cd} (h : CdsB l) (hs : Shape (nds l)) {cp : Option Nat} {r : Option D} (hE : (Z3h m m a0_0n a0_0c a0_0 a1 (IntKind.wrap .i64 ((((l.length) : Nat) : Int) - (1 : Int))) (l.length) cp (cdsC l) (l.length) cp (cdsC l) (l.length * 1) (ints (dps (nds l) l.length l.length)) (l.length * 1) (ifn (ckF (nds l) l.length) l.length) (l.length * 1) Z5u (l.length) cp (cdsC l) Z6o (l.length) (l.length) (l.length) (l.length) (l.length) (l.length)) = r) : ∀ (c i : Nat), l.length - i < c → i ≤ l.length →
  Z4h m c a0_0n a0_0c a0_0 a1 l.length cp (cdsC l) (l.length : Int) (i : Int) l.length cp (cdsC l) (l.length * 1) (ints (dps (nds l) i l.length)) (ifn (ckF (nds l) i) l.length) Z5u Z6o l.length = r
 | 0, i, hc, hi => by omega
 | c + 1, i, hc, hi => by
  have hB := h.len
  have hl := cdsC_len h.ok
  rw [Zlt]
  simp only [Int.toNat_natCast, Nat.zero_add, Nat.mul_one]
  by_cases hlt : i < l.length
  ·have hok := h.ok _ (List.getElem_mem hlt)
   have hn : i < (nds l).length := by rw [Zy]; exact hlt
   rw [Zk7 h.ok hlt]
   refine st_cT (decide_eq_true (by omega)) ?_
   refine st_if (by omega) ?_
   refine st_if (by omega) ?_
   refine st_if (Cd.cells_len hok) ?_
   have := Zs9 (a0_0n := a0_0n) (a0_0c := a0_0c) (a0_0 := a0_0) (a1 := a1) h hs hE c (i + 1) (by omega) (by omega)
   rw [Nat.mul_one] at this
   by_cases h0 : 0 < i
   ·refine st_cT (decide_eq_true (by omega)) ?_
    have hp := hs.par hn h0
    rw [Z6g hlt] at hp
    have hpt : l[i].n.par.toNat = parN (nds l) i := by omega
    have hck := ckF_le (nds l) i (parN (nds l) i)
    have hdb := Zty (l := nds l) (parN (nds l) i)
    refine Z0 (Z5h (Cd.at0 _)) ?_
    refine st_if (by omega) ?_
    rw [hpt]
    refine Z0 (dps_at (by omega) (by omega)) ?_
    refine st_if (by omega) ?_
    refine st_if ⟨by first | rfl | trivial, by omega⟩ ?_
    refine Z0 (Z5h (Cd.at0 _)) ?_
    refine st_if (by omega) ?_
    rw [hpt]
    refine Z0 (Zeu (by omega)) ?_
    refine st_if (by omega) ?_
    refine st_if ⟨by first | rfl | trivial, by omega⟩ ?_
    have hd := Zgc hs hn h0
    rw [Zu (by omega), Zu (by omega), show dep (nds l) (parN (nds l) i) + 1 = dep (nds l) i from hd.symm, Zze, Z162, Z77 (by omega) (by omega), Z1b6 h0]
    exact this
   ·refine st_cF (decide_eq_false (by omega)) ?_
    obtain rfl : i = 0 := by omega
    rw [Zu (by omega), Zzi, Z149]
    exact this
  ·obtain rfl : i = l.length := by omega
   refine st_cF (decide_eq_false (by omega)) ?_
   simp only [Nat.mul_one] at hE
   exact hE
theorem Zoo {m a0_0n : Nat} {a0_0c : Option Nat} {a0_0 : List D} {a1 : Int} {a2n : Nat} {a2c : Option Nat} {a2 Z5u : List D} {Z6o : Int} {l : List Cd} (h : CdsB l) (hs : Shape (nds l)) {cp : Option Nat} {r : Option D} (hE : (Z1a m m a0_0n a0_0c a0_0 a1 a2n a2c a2 0 (((l.length) : Nat) : Int) (0 : Int) (l.length) cp (cdsC l) (l.length) cp (cdsC l) (l.length * 1) (ints (dps (nds l) l.length l.length)) (ifn (ckF (nds l) l.length) l.length) Z5u Z6o (l.length) 0 []) = r) : ∀ (c i : Nat), l.length - i < c → i ≤ l.length →
  Z3w m c a0_0n a0_0c a0_0 a1 a2n a2c a2 l.length cp (cdsC l) (l.length : Int) (i : Int) l.length cp (cdsC l) (l.length * 1) (ints (dps (nds l) i l.length)) (ifn (ckF (nds l) i) l.length) Z5u Z6o l.length = r
 | 0, i, hc, hi => by omega
 | c + 1, i, hc, hi => by
  have hB := h.len
  have hl := cdsC_len h.ok
  rw [Zkf]
  simp only [Int.toNat_natCast, Nat.zero_add, Nat.mul_one]
  by_cases hlt : i < l.length
  ·have hok := h.ok _ (List.getElem_mem hlt)
   have hn : i < (nds l).length := by rw [Zy]; exact hlt
   rw [Zk7 h.ok hlt]
   refine st_cT (decide_eq_true (by omega)) ?_
   refine st_if (by omega) ?_
   refine st_if (by omega) ?_
   refine st_if (Cd.cells_len hok) ?_
   have := Zoo (a0_0n := a0_0n) (a0_0c := a0_0c) (a0_0 := a0_0) (a1 := a1) h hs hE c (i + 1) (by omega) (by omega)
   rw [Nat.mul_one] at this
   by_cases h0 : 0 < i
   ·refine st_cT (decide_eq_true (by omega)) ?_
    have hp := hs.par hn h0
    rw [Z6g hlt] at hp
    have hpt : l[i].n.par.toNat = parN (nds l) i := by omega
    have hck := ckF_le (nds l) i (parN (nds l) i)
    have hdb := Zty (l := nds l) (parN (nds l) i)
    refine Z0 (Z5h (Cd.at0 _)) ?_
    refine st_if (by omega) ?_
    rw [hpt]
    refine Z0 (dps_at (by omega) (by omega)) ?_
    refine st_if (by omega) ?_
    refine st_if ⟨by first | rfl | trivial, by omega⟩ ?_
    refine Z0 (Z5h (Cd.at0 _)) ?_
    refine st_if (by omega) ?_
    rw [hpt]
    refine Z0 (Zeu (by omega)) ?_
    refine st_if (by omega) ?_
    refine st_if ⟨by first | rfl | trivial, by omega⟩ ?_
    have hd := Zgc hs hn h0
    rw [Zu (by omega), Zu (by omega), show dep (nds l) (parN (nds l) i) + 1 = dep (nds l) i from hd.symm, Zze, Z162, Z77 (by omega) (by omega), Z1b6 h0]
    exact this
   ·refine st_cF (decide_eq_false (by omega)) ?_
    obtain rfl : i = 0 := by omega
    rw [Zu (by omega), Zzi, Z149]
    exact this
  ·obtain rfl : i = l.length := by omega
   refine st_cF (decide_eq_false (by omega)) ?_
   simp only [Nat.mul_one] at hE
   exact hE
theorem Zsa {m a0_0n : Nat} {a0_0c : Option Nat} {a0_0 : List D} {a1 : Int} {Z5u : List D} {Z6o : Int} {l : List Cd} (h : CdsB l) (hs : Shape (nds l)) {cp : Option Nat} {r : Option D} (hE : (Z3j m m a0_0n a0_0c a0_0 a1 (IntKind.wrap .i64 ((((l.length) : Nat) : Int) - (1 : Int))) (l.length) cp (cdsC l) (l.length) cp (cdsC l) (l.length * 1) (ints (dps (nds l) l.length l.length)) (l.length * 1) (ifn (ckF (nds l) l.length) l.length) (l.length * 1) Z5u (l.length) cp (cdsC l) Z6o (l.length) (l.length) (l.length) (l.length) (l.length) (l.length)) = r) : ∀ (c i : Nat), l.length - i < c → i ≤ l.length →
  Z4j m c a0_0n a0_0c a0_0 a1 l.length cp (cdsC l) (l.length : Int) (i : Int) l.length cp (cdsC l) (l.length * 1) (ints (dps (nds l) i l.length)) (ifn (ckF (nds l) i) l.length) Z5u Z6o l.length = r
 | 0, i, hc, hi => by omega
 | c + 1, i, hc, hi => by
  have hB := h.len
  have hl := cdsC_len h.ok
  rw [Zlv]
  simp only [Int.toNat_natCast, Nat.zero_add, Nat.mul_one]
  by_cases hlt : i < l.length
  ·have hok := h.ok _ (List.getElem_mem hlt)
   have hn : i < (nds l).length := by rw [Zy]; exact hlt
   rw [Zk7 h.ok hlt]
   refine st_cT (decide_eq_true (by omega)) ?_
   refine st_if (by omega) ?_
   refine st_if (by omega) ?_
   refine st_if (Cd.cells_len hok) ?_
   have := Zsa (a0_0n := a0_0n) (a0_0c := a0_0c) (a0_0 := a0_0) (a1 := a1) h hs hE c (i + 1) (by omega) (by omega)
   rw [Nat.mul_one] at this
   by_cases h0 : 0 < i
   ·refine st_cT (decide_eq_true (by omega)) ?_
    have hp := hs.par hn h0
    rw [Z6g hlt] at hp
    have hpt : l[i].n.par.toNat = parN (nds l) i := by omega
    have hck := ckF_le (nds l) i (parN (nds l) i)
    have hdb := Zty (l := nds l) (parN (nds l) i)
    refine Z0 (Z5h (Cd.at0 _)) ?_
    refine st_if (by omega) ?_
    rw [hpt]
    refine Z0 (dps_at (by omega) (by omega)) ?_
    refine st_if (by omega) ?_
    refine st_if ⟨by first | rfl | trivial, by omega⟩ ?_
    refine Z0 (Z5h (Cd.at0 _)) ?_
    refine st_if (by omega) ?_
    rw [hpt]
    refine Z0 (Zeu (by omega)) ?_
    refine st_if (by omega) ?_
    refine st_if ⟨by first | rfl | trivial, by omega⟩ ?_
    have hd := Zgc hs hn h0
    rw [Zu (by omega), Zu (by omega), show dep (nds l) (parN (nds l) i) + 1 = dep (nds l) i from hd.symm, Zze, Z162, Z77 (by omega) (by omega), Z1b6 h0]
    exact this
   ·refine st_cF (decide_eq_false (by omega)) ?_
    obtain rfl : i = 0 := by omega
    rw [Zu (by omega), Zzi, Z149]
    exact this
  ·obtain rfl : i = l.length := by omega
   refine st_cF (decide_eq_false (by omega)) ?_
   simp only [Nat.mul_one] at hE
   exact hE
end Go.Ev
/-
 The childless nodes of a plan.
-/
set_option linter.unusedSimpArgs false
set_option linter.unusedVariables false
set_option maxRecDepth 100000
namespace Go.Ev
open Go
def tt : Nat → Bool := fun _ => true
def kiF (N : List Nd) (A : Nat → Bool) (j : Nat) : Int := (kids N A j : Int)
theorem ck_ki (l : List Cd) : ifn (ckF (nds l) l.length) l.length = ifn (kiF (nds l) tt) l.length := Za2 fun j _ => by
 unfold ckF kiF kids
 rw [Zy]; rfl
theorem Z1b7 (n : Nat) : (List.replicate n [D.v (.bool false)]).flatten = bfn (fun i => !tt i) n := Z1mv n
def clI (N : List Nd) (A : Nat → Bool) (d i : Nat) : List Int := ((List.range i).filter (chl N A d)).map fun j : Nat => (j : Int)
theorem Z18u (N : List Nd) (A : Nat → Bool) (d i : Nat) : clI N A d (i + 1) = if chl N A d i = true then clI N A d i ++ [(i : Int)] else clI N A d i := by
 unfold clI
 rw [List.range_succ, List.filter_append, List.map_append]
 by_cases h : chl N A d i = true
 ·rw [if_pos h, List.filter_cons_of_pos h]; rfl
 ·rw [if_neg h, List.filter_cons_of_neg h]; simp
theorem Zyv (N : List Nd) (A : Nat → Bool) (d : Nat) : ∀ i, (clI N A d i).length ≤ i := fun i => by
 unfold clI
 rw [List.length_map]
 exact Nat.le_trans (List.length_filter_le _ _) (by simp)
theorem Zhg (x : Int) : ints [x] = [.v (.int .i64 x)] := rfl
theorem chl_eq (N : List Nd) (A : Nat → Bool) (d i : Nat) : chl N A d i = (A i && (decide (dep N i < d) && decide (kids N A i = 0))) := by
 unfold chl
 have : decide (kids N A i = 0) = !kid N A i := by
  cases h : kid N A i with
  | true => exact decide_eq_false (fun q => by rw [Z1i3, h] at q; cases q)
  | false => exact decide_eq_true (Z1i3.2 h)
 rw [this, Bool.and_assoc]
theorem Z10v {m a0_0n : Nat} {a0_0c : Option Nat} {a0_0 : List D} {a1 : Int} {Z61 : Nat} {Z5a : Option Nat} {Z5r : List D} {Z4r : Nat} {Z5f : Option Nat} {Z5s : List D} {n : Nat} {N : List Nd} {A : Nat → Bool} {d : Nat} (hn : n < 100000) : ∀ (c i : Nat), n - i < c → i ≤ n →
  Z1d m c a0_0n a0_0c a0_0 a1 ((clI N A d i).length) (n : Int) (i : Int) Z61 Z5a Z5r Z4r Z5f Z5s (n * 1) (ints (dps N n n)) (ifn (kiF N A) n) (bfn (fun j => !A j) n) (d : Int) n ((clI N A d i).length * 1) (ints (clI N A d i)) =
  some (.tup [.list (clI N A d n).length (some (clI N A d n).length) (ints (clI N A d n)), .v (.int .i64 0)])
 | 0, i, hc, hi => by omega
 | c + 1, i, hc, hi => by
  have hcl := Zyv N A d i
  rw [Zev]
  simp only [Int.toNat_natCast, Nat.zero_add, Nat.mul_one]
  by_cases hlt : i < n
  ·have ih := Z10v (a0_0n := a0_0n) (a0_0c := a0_0c) (a0_0 := a0_0) (a1 := a1) (Z61 := Z61) (Z5a := Z5a) (Z5r := Z5r) (Z4r := Z4r) (Z5f := Z5f) (Z5s := Z5s) (m := m) (N := N) (A := A) (d := d) hn c (i + 1) (by omega) (by omega)
   rw [Z18u, chl_eq] at ih
   simp only [Nat.mul_one] at ih
   refine st_cT (decide_eq_true (by omega)) ?_
   refine st_if (by omega) ?_
   refine Z0 (Zlp hlt) ?_
   rw [Zu (by omega), Bool.not_not]
   cases ha : A i with
   | false =>
    refine st_cF rfl ?_
    rw [ha] at ih
    exact ih
   | true =>
    refine st_cT rfl ?_
    refine st_if (by omega) ?_
    refine Z0 (dps_at hlt hlt) ?_
    by_cases hd : dep N i < d
    ·refine st_cT (decide_eq_true (by omega)) ?_
     refine st_if (by omega) ?_
     refine Z0 (Zeu hlt) ?_
     by_cases hk : kids N A i = 0
     ·refine st_cT (i_eq (by unfold kiF; omega)) ?_
      refine st_if ⟨rfl, by first | rfl | trivial, by constructor <;> omega, by first | rfl | trivial⟩ ?_
      rw [ha, decide_eq_true hd, decide_eq_true hk, if_pos (by decide), List.length_append, List.length_singleton, Z7l, Zhg] at ih
      exact ih
     ·refine st_cF (i_ne (by unfold kiF; omega)) ?_
      rw [decide_eq_false hk, Bool.and_false, Bool.and_false, if_neg (by decide)] at ih
      exact ih
    ·refine st_cF (decide_eq_false (by omega)) ?_
     rw [decide_eq_false hd, Bool.false_and, Bool.and_false, if_neg (by decide)] at ih
     exact ih
  ·obtain rfl : i = n := by omega
   have hil := Zb5 (clI N A d i)
   refine st_cF (decide_eq_false (by omega)) ?_
   refine st_if (by omega) ?_
   rw [Z5k hil]
   refine Z0 (Z14a (by omega) none) ?_
   refine Z0 (rdL_v _ _ _) ?_
   refine st_if (by omega) ?_
   refine st_if (by omega) ?_
   rfl
def planE (N : List Nd) (d : Int) : Int := if treeErr N ≠ 0 then treeErr N else if d < 0 ∨ 64 < d then 1 else 0
theorem Zu1 {N : List Nd} {d : Int} (h : treeErr N ≠ 0) : planE N d = treeErr N := if_pos h
theorem Za5 {N : List Nd} {d : Int} (h : treeErr N = 0) (hd : d < 0 ∨ 64 < d) : planE N d = 1 := by unfold planE; rw [if_neg (by simp [h]), if_pos hd]
theorem Zpj {N : List Nd} {d : Int} (h : treeErr N = 0) (hd : ¬ (d < 0 ∨ 64 < d)) : planE N d = 0 := by unfold planE; rw [if_neg (by simp [h]), if_neg hd]
theorem Zfn {l : List Cd} (h : CdsOk l) (he : treeErr (nds l) = 0) : Shape (nds l) := ((Z1ai h.nds).1 he).shape
theorem Zfo {l : List Cd} (h : CdsB l) (cp : Option Nat) (d : Int) : Zk [.agg [.list l.length cp (cdsC l)], .v (.int .i64 d)] =
  some (if planE (nds l) d ≠ 0 then .tup [.list 0 (some 0) [], .v (.int .i64 (planE (nds l) d))] else .tup [.list (clI (nds l) tt d.toNat l.length).length (some (clI (nds l) tt d.toNat l.length).length) (ints (clI (nds l) tt d.toNat l.length)), .v (.int .i64 0)]) := by
 show Zct M l.length cp (cdsC l) d = _
 unfold Zct
 have hB := h.len
 refine Z0 (Zpr h cp) ?_
 refine Z0 (rdI_v _ _) ?_
 by_cases he : treeErr (nds l) = 0
 ·refine st_cF (i_bnf he) ?_
  by_cases h1 : d < 0
  ·refine st_cT (decide_eq_true h1) ?_
   rw [Za5 he (.inl h1), if_pos (by decide)]
  ·refine st_cF (decide_eq_false h1) ?_
   by_cases h2 : 64 < d
   ·refine st_cT (decide_eq_true h2) ?_
    rw [Za5 he (.inr h2), if_pos (by decide)]
   ·refine st_cF (decide_eq_false h2) ?_
    rw [Zpj he (by omega), if_neg (by decide)]
    have hs : Shape (nds l) := Zfn h.ok he
    rw [Zgz]
    simp only [Int.toNat_natCast]
    refine st_if ⟨by omega, by omega, by constructor <;> omega⟩ ?_
    refine st_if ⟨by omega, by omega, by constructor <;> omega⟩ ?_
    refine st_if ⟨by omega, by omega, by constructor <;> omega⟩ ?_
    have e1 : (List.replicate l.length [D.v (.int .i64 0)]).flatten = ints (dps (nds l) 0 l.length) := by rw [Zzf, Zzh]
    have e2 : (List.replicate l.length [D.v (.int .i64 0)]).flatten = ifn (ckF (nds l) 0) l.length := by rw [Z165]; exact Za2 fun j _ => rfl
    rw [Z1b7]
    conv => lhs; arg 16; rw [e1]
    conv => lhs; arg 17; rw [e2]
    refine Zlb h hs ?_ M 0 (by unfold M; omega) (by omega)
    rw [ck_ki]
    obtain ⟨k, rfl⟩ : ∃ k : Nat, d = (k : Int) := ⟨d.toNat, by omega⟩
    rw [Int.toNat_natCast]
    exact Z10v (N := nds l) (A := tt) (d := k) hB M 0 (by unfold M; omega) (by omega)
 ·refine st_cT (i_bne he) ?_
  refine st_cT (i_bne he) ?_
  rw [Zu1 he, if_pos he]
end Go.Ev
/-
 Plans carried out: all childless nodes removed, one after another.
-/
set_option linter.unusedSimpArgs false
set_option linter.unusedVariables false
set_option maxRecDepth 100000
namespace Go.Ev
open Go
theorem Z14b {A : Nat → Bool} {n k : Nat} : (bfn (fun j => !A j) n).set k (.v (.bool true)) = bfn (fun j => !del A k j) n := by
 rw [Z1j9]
 refine Zyq fun j _ => ?_
 unfold del
 by_cases e : j = k
 ·rw [if_pos e]; simp [e]
 ·rw [if_neg e]; simp [e]
theorem ki_set {l : List Cd} {A : Nat → Bool} {k : Nat} (h0 : 0 < k) (hk : k < l.length) (ha : A k = true) : (ifn (kiF (nds l) A) l.length).set (parN (nds l) k) (.v (.int .i64 (kiF (nds l) A (parN (nds l) k) - 1))) = ifn (kiF (nds l) (del A k)) l.length := by
 rw [Z1ja]
 refine Za2 fun j _ => ?_
 have := Z1ka (l := nds l) h0 (by rw [Zy]; exact hk) ha j
 unfold kiF
 by_cases e : j = parN (nds l) k
 ·subst e; rw [if_pos rfl] at this ⊢; omega
 ·rw [if_neg e]; rw [if_neg (fun q => e q.symm)] at this; omega
theorem Z1g0 {l : List Cd} {A : Nat → Bool} : ifn (kiF (nds l) A) l.length = ifn (kiF (nds l) (del A 0)) l.length := Za2 fun j _ => by
 unfold kiF; rw [Z1fc]
theorem Z1b8 {N : List Nd} {A : Nat → Bool} (i : Nat) : kids N A i ≤ N.length := Z1j3 _
theorem Z14c {l : List Cd} {A : Nat → Bool} {k : Nat} (h0 : 0 < k) (hk : k < l.length) (ha : A k = true) : 1 ≤ kids (nds l) A (parN (nds l) k) := by
 have := Z1ka (l := nds l) h0 (by rw [Zy]; exact hk) ha (parN (nds l) k)
 rw [if_pos rfl] at this; omega
theorem Z6l {l : List Cd} (h : CdsOk l) {i : Nat} (hi : i < l.length) : rdI .i64 (cdsC l)[i * 20 + 0]? = some l[i].n.par := by
 rw [Nat.add_zero, Z1oc h hi]; exact rdI_v _ _
theorem Zwk {m a0_0n : Nat} {a0_0c : Option Nat} {a0_0 : List D} {a1 : Int} {Z76 : Nat} {Z56 : Option Nat} {Z61 : List D} {Z5a : Nat} {Z5r : Option Nat} {Z4r : List D} {Z6e Z8g Z8h : Nat} {l : List Cd} (h : CdsB l) (hs : Shape (nds l)) {cp : Option Nat} {d : Nat} {r : Option D} : ∀ (c i : Nat) (A : Nat → Bool), i < c → i ≤ l.length →
  (Z2l m m a0_0n a0_0c a0_0 a1 0 (l.length) Z8h (((l.length) : Nat) : Int) (0 : Int) Z76 Z56 Z61 Z5a Z5r Z4r (l.length * 1) (ints (dps (nds l) l.length l.length)) (l.length * 1) (ifn (kiF (nds l) (sweep (nds l) d i A)) l.length) (l.length * 1) (bfn (fun j => !(sweep (nds l) d i A) j) l.length) (l.length) cp (cdsC l) ((d : Int)) (l.length) Z6e (l.length) Z8g 0 []) = r →
  Z3h m c a0_0n a0_0c a0_0 a1 ((i : Int) - 1) Z76 Z56 Z61 Z5a Z5r Z4r (l.length * 1) (ints (dps (nds l) l.length l.length)) (l.length * 1) (ifn (kiF (nds l) A) l.length) (l.length * 1) (bfn (fun j => !A j) l.length) l.length cp (cdsC l) (d : Int) l.length Z6e l.length Z8g l.length Z8h = r
 | 0, i, A, hc, hi, hE => by omega
 | c + 1, i, A, hc, hi, hE => by
  have hB := h.len
  have hl := cdsC_len h.ok
  rw [Zit]
  match i, hi, hE with
  | 0, hi, hE =>
   refine st_cF (decide_eq_false (by omega)) ?_
   exact hE
  | k + 1, hi, hE =>
   have hlt : k < l.length := by omega
   have hn : k < (nds l).length := by rw [Zy]; exact hlt
   have e0 : ((k + 1 : Nat) : Int) - 1 = (k : Int) := by omega
   rw [e0]
   simp only [Int.toNat_natCast, Nat.zero_add, Nat.mul_one]
   have j2 : ∀ B, B = (if chl (nds l) A d k = true then del A k else A) → Z21 m c a0_0n a0_0c a0_0 a1 (k : Int) Z76 Z56 Z61 Z5a Z5r Z4r (l.length * 1) (ints (dps (nds l) l.length l.length)) (l.length * 1) (ifn (kiF (nds l) B) l.length) (l.length * 1) (bfn (fun j => !B j) l.length) l.length cp (cdsC l) (d : Int) l.length Z6e l.length Z8g l.length Z8h = r := fun B hB' => by
    subst hB'
    rw [Zi5, Z77 (by omega) (by omega)]
    exact Zwk (a0_0n := a0_0n) (a0_0c := a0_0c) (a0_0 := a0_0) (a1 := a1) h hs c k _ (by omega) (by omega) hE
   have hch := chl_eq (nds l) A d k
   simp only [Nat.mul_one] at j2
   refine st_cT (decide_eq_true (by omega)) ?_
   refine st_if (by omega) ?_
   refine Z0 (Zlp hlt) ?_
   cases ha : A k with
   | false =>
    refine st_cF rfl ?_
    exact j2 A (by rw [hch, ha]; rfl)
   | true =>
    refine st_cT rfl ?_
    refine st_if (by omega) ?_
    refine Z0 (dps_at hlt hlt) ?_
    by_cases hd : dep (nds l) k < d
    ·refine st_cT (decide_eq_true (by omega)) ?_
     refine st_if (by omega) ?_
     refine Z0 (Zeu hlt) ?_
     by_cases hk : kids (nds l) A k = 0
     ·have hc1 : chl (nds l) A d k = true := by rw [hch, ha, decide_eq_true hd, decide_eq_true hk]; rfl
      refine st_cT (i_eq (by unfold kiF; omega)) ?_
      refine st_if (by omega) ?_
      refine st_if ⟨by first | rfl | trivial, by omega⟩ ?_
      have := j2 (del A k) (by rw [if_pos hc1])
      rw [Z14b]
      by_cases h0 : 0 < k
      ·refine st_cT (decide_eq_true (by omega)) ?_
       have hp := hs.par hn h0
       rw [Z6g hlt] at hp
       have hpt : l[k].n.par.toNat = parN (nds l) k := by omega
       have hko := Z14c h0 hlt ha
       have hkl := Z1b8 (N := nds l) (A := A) (parN (nds l) k)
       rw [Zy] at hkl
       refine st_if (by omega) ?_
       refine Z0 (Z6l h.ok hlt) ?_
       refine st_if (by omega) ?_
       rw [hpt]
       refine Z0 (Zeu (by omega)) ?_
       refine st_if (by omega) ?_
       refine st_if ⟨by first | rfl | trivial, by omega⟩ ?_
       rw [Z77 (by unfold kiF; omega) (by unfold kiF; omega), ki_set h0 hlt ha]
       exact this
      ·refine st_cF (decide_eq_false (by omega)) ?_
       obtain rfl : k = 0 := by omega
       rw [← Z1g0] at this
       exact this
     ·refine st_cF (i_ne (by unfold kiF; omega)) ?_
      exact j2 A (by rw [hch, decide_eq_false hk, Bool.and_false, Bool.and_false]; rfl)
    ·refine st_cF (decide_eq_false (by omega)) ?_
     exact j2 A (by rw [hch, decide_eq_false hd, Bool.false_and, Bool.and_false]; rfl)
theorem Zwl {m a0_0n : Nat} {a0_0c : Option Nat} {a0_0 : List D} {a1 : Int} {Z76 : Nat} {Z56 : Option Nat} {Z61 : List D} {Z5a : Nat} {Z5r : Option Nat} {Z4r : List D} {Z6e Z8g Z8h : Nat} {l : List Cd} (h : CdsB l) (hs : Shape (nds l)) {cp : Option Nat} {d : Nat} {r : Option D} : ∀ (c i : Nat) (A : Nat → Bool), i < c → i ≤ l.length →
  (Z27 m m (l.length) Z8h (((l.length) : Nat) : Int) (0 : Int) Z76 Z56 Z61 Z5a Z5r Z4r (l.length * 1) (ints (dps (nds l) l.length l.length)) (l.length * 1) (ifn (kiF (nds l) (sweep (nds l) d i A)) l.length) (l.length * 1) (bfn (fun j => !(sweep (nds l) d i A) j) l.length) (l.length) cp (cdsC l) ((d : Int)) (l.length) Z6e (l.length) Z8g 0 0 []) = r →
  Z3j m c a0_0n a0_0c a0_0 a1 ((i : Int) - 1) Z76 Z56 Z61 Z5a Z5r Z4r (l.length * 1) (ints (dps (nds l) l.length l.length)) (l.length * 1) (ifn (kiF (nds l) A) l.length) (l.length * 1) (bfn (fun j => !A j) l.length) l.length cp (cdsC l) (d : Int) l.length Z6e l.length Z8g l.length Z8h = r
 | 0, i, A, hc, hi, hE => by omega
 | c + 1, i, A, hc, hi, hE => by
  have hB := h.len
  have hl := cdsC_len h.ok
  rw [Ziv]
  match i, hi, hE with
  | 0, hi, hE =>
   refine st_cF (decide_eq_false (by omega)) ?_
   exact hE
  | k + 1, hi, hE =>
   have hlt : k < l.length := by omega
   have hn : k < (nds l).length := by rw [Zy]; exact hlt
   have e0 : ((k + 1 : Nat) : Int) - 1 = (k : Int) := by omega
   rw [e0]
   simp only [Int.toNat_natCast, Nat.zero_add, Nat.mul_one]
   have j2 : ∀ B, B = (if chl (nds l) A d k = true then del A k else A) → Z22 m c a0_0n a0_0c a0_0 a1 (k : Int) Z76 Z56 Z61 Z5a Z5r Z4r (l.length * 1) (ints (dps (nds l) l.length l.length)) (l.length * 1) (ifn (kiF (nds l) B) l.length) (l.length * 1) (bfn (fun j => !B j) l.length) l.length cp (cdsC l) (d : Int) l.length Z6e l.length Z8g l.length Z8h = r := fun B hB' => by
    subst hB'
    rw [Zia, Z77 (by omega) (by omega)]
    exact Zwl (a0_0n := a0_0n) (a0_0c := a0_0c) (a0_0 := a0_0) (a1 := a1) h hs c k _ (by omega) (by omega) hE
   have hch := chl_eq (nds l) A d k
   simp only [Nat.mul_one] at j2
   refine st_cT (decide_eq_true (by omega)) ?_
   refine st_if (by omega) ?_
   refine Z0 (Zlp hlt) ?_
   cases ha : A k with
   | false =>
    refine st_cF rfl ?_
    exact j2 A (by rw [hch, ha]; rfl)
   | true =>
    refine st_cT rfl ?_
    refine st_if (by omega) ?_
    refine Z0 (dps_at hlt hlt) ?_
    by_cases hd : dep (nds l) k < d
    ·refine st_cT (decide_eq_true (by omega)) ?_
     refine st_if (by omega) ?_
     refine Z0 (Zeu hlt) ?_
     by_cases hk : kids (nds l) A k = 0
     ·have hc1 : chl (nds l) A d k = true := by rw [hch, ha, decide_eq_true hd, decide_eq_true hk]; rfl
      refine st_cT (i_eq (by unfold kiF; omega)) ?_
      refine st_if (by omega) ?_
      refine st_if ⟨by first | rfl | trivial, by omega⟩ ?_
      have := j2 (del A k) (by rw [if_pos hc1])
      rw [Z14b]
      by_cases h0 : 0 < k
      ·refine st_cT (decide_eq_true (by omega)) ?_
       have hp := hs.par hn h0
       rw [Z6g hlt] at hp
       have hpt : l[k].n.par.toNat = parN (nds l) k := by omega
       have hko := Z14c h0 hlt ha
       have hkl := Z1b8 (N := nds l) (A := A) (parN (nds l) k)
       rw [Zy] at hkl
       refine st_if (by omega) ?_
       refine Z0 (Z6l h.ok hlt) ?_
       refine st_if (by omega) ?_
       rw [hpt]
       refine Z0 (Zeu (by omega)) ?_
       refine st_if (by omega) ?_
       refine st_if ⟨by first | rfl | trivial, by omega⟩ ?_
       rw [Z77 (by unfold kiF; omega) (by unfold kiF; omega), ki_set h0 hlt ha]
       exact this
      ·refine st_cF (decide_eq_false (by omega)) ?_
       obtain rfl : k = 0 := by omega
       rw [← Z1g0] at this
       exact this
     ·refine st_cF (i_ne (by unfold kiF; omega)) ?_
      exact j2 A (by rw [hch, decide_eq_false hk, Bool.and_false, Bool.and_false]; rfl)
    ·refine st_cF (decide_eq_false (by omega)) ?_
     exact j2 A (by rw [hch, decide_eq_false hd, Bool.false_and, Bool.and_false]; rfl)
end Go.Ev
/-
 What is left of a plan: the nodes that are gone, deleted.
-/
set_option linter.unusedSimpArgs false
set_option linter.unusedVariables false
set_option maxRecDepth 100000
namespace Go.Ev
open Go
def goI (A : Nat → Bool) (i : Nat) : List Int := ((List.range i).filter fun j => !A j).map fun j : Nat => (j : Int)
theorem Z18v (A : Nat → Bool) (i : Nat) : goI A (i + 1) = if A i = false then goI A i ++ [(i : Int)] else goI A i := by
 unfold goI
 rw [List.range_succ, List.filter_append, List.map_append]
 cases h : A i with
 | false => rw [if_pos rfl, List.filter_cons_of_pos (by rw [h]; rfl)]; rfl
 | true => rw [if_neg (by decide), List.filter_cons_of_neg (by rw [h]; decide)]; simp
theorem Z126 (A : Nat → Bool) (i : Nat) : (goI A i).length ≤ i := by
 unfold goI
 rw [List.length_map]
 exact Nat.le_trans (List.length_filter_le _ _) (by simp)
theorem Z1jc {A : Nat → Bool} {n : Nat} {x : Int} : x ∈ goI A n ↔ ∃ j : Nat, j < n ∧ A j = false ∧ x = (j : Int) := by
 unfold goI
 simp only [List.mem_map, List.mem_filter, List.mem_range, Bool.not_eq_true']
 exact ⟨fun ⟨j, ⟨h1, h2⟩, h3⟩ => ⟨j, h1, h2, h3.symm⟩, fun ⟨j, h1, h2, h3⟩ => ⟨j, ⟨h1, h2⟩, h3.symm⟩⟩
theorem Z1pq {A : Nat → Bool} {n i : Nat} (h : i < n) : (goI A n).contains (i : Int) = !A i := by
 cases ha : A i with
 | false =>
  rw [List.contains_iff_mem.2 (Z1jc.2 ⟨i, h, ha, rfl⟩)]; rfl
 | true =>
  cases hc : (goI A n).contains (i : Int) with
  | false => rfl
  | true =>
   obtain ⟨j, _, hj, e⟩ := Z1jc.1 (List.contains_iff_mem.1 hc)
   obtain rfl : i = j := by omega
   rw [ha] at hj; cases hj
theorem Z1kf {l : List Cd} {A B : Nat → Bool} (h : ∀ i, i < l.length → A i = B i) (hp : ∀ n, n ∈ nds l → n.par < (l.length : Int)) : ∀ i, i ≤ l.length → lc l A i = lc l B i
 | 0, _ => rfl
 | i + 1, hi => by
  have hlt : i < l.length := by omega
  rw [Z166 hlt, Z166 hlt, Z1kf h hp i (by omega), h i hlt]
  have hm : mv (nds l) A l[i].n = mv (nds l) B l[i].n := by
   have := hp l[i].n (by unfold nds; exact List.mem_map.2 ⟨_, List.getElem_mem hlt, rfl⟩)
   unfold mv
   split
   ·rfl
   ·rw [Z18q (A := A) (B := B) (fun j hj => h j (by omega))]
  rw [hm]
theorem Z127 {l : List Cd} {A B : Nat → Bool} (h : ∀ i, i < l.length → A i = B i) (hs : Shape (nds l)) : leftC l A = leftC l B :=
 Z1kf h (fun n hn => by have := hs.par_lt n hn; rw [Zy] at this; exact this) _ (Nat.le_refl _)
theorem Zzj {l : List Cd} (h : CdsB l) (he : treeErr (nds l) = 0) {A : Nat → Bool} (hu : Up (nds l) A) (cp : Option Nat) :
  Z2q [.agg [.list l.length cp (cdsC l)], .list (goI A l.length).length none (ints (goI A l.length))] = some (delD (leftC l A)) := by
 have hB := h.len
 have hs := Zfn h.ok he
 have hgl := Z126 A l.length
 rw [Z1lc h he hs (by omega) (fun x hx => by obtain ⟨j, hj, _, rfl⟩ := Z1jc.1 hx; omega)]
 rw [Z127 (A := kpF l (goI A l.length)) (B := A) (fun i hi => ?_) hs]
 unfold kpF
 rw [Z1oa hs hu (fun j hj => Z1pq (by rw [Zy] at hj; exact hj)) i (by rw [Zy]; exact hi), Bool.not_not]
theorem Zkh {m : Nat} {Zc2 x17 : Int} {Z56 Z5r : Nat} {Z4r : Option Nat} {Z5f : List D} {Z5s : Nat} {Z5t : Option Nat} {Z42 : List D} {Z3z : Nat} {Z3l : List D} {Z4o : Nat} {Z1t : List D} {Z4s Z6s : Nat} {Z6e : Option Nat} {Z8f : List D} {Z8g : Int} {Z8y Z8h Zwu Zr3 : Nat} {n : Nat} {A : Nat → Bool} (hn : n < 100000) {r : Option D} (hE : (if (0 + (((goI A n).length) * 1)) ≤ ((goI A n).length * 1) then
 (Z2q [(D.agg [(D.list Z6s Z6e Z8f)]), (D.list ((goI A n).length) none (cutL ((goI A n).length * 1) (ints (goI A n)) 0 (((goI A n).length) * 1)))]).bind fun d23 =>
 (rdT d23).bind fun r24 =>
 if List.length r24 = 2 then
 (rdA r24[0]?).bind fun c25 =>
 (rdI .i64 r24[1]?).bind fun x26 =>
 if (0 + (((goI A n).length) * 1)) ≤ ((goI A n).length * 1) then
 if (0 + (((goI A n).length) * 1)) ≤ ((goI A n).length * 1) then
 if (List.length c25) = 1 then
 if (List.length c25) = 1 then
 if (List.length c25) = 1 then
 some (D.tup [(D.agg c25), (D.v (.int .i64 (0 : Int)))])
 else none
 else none
 else none
 else none
 else none
 else none
 else none) = r) : ∀ (c i : Nat), n - i < c → i ≤ n →
    Z2f m c Zc2 x17 ((goI A i).length) n Z56 (n : Int) (i : Int) Z5r Z4r Z5f Z5s Z5t Z42 Z3z Z3l Z4o Z1t Z4s (bfn (fun j => !A j) n) Z6s Z6e Z8f Z8g Z8y Z8h Zwu Zr3 ((goI A i).length * 1) (ints (goI A i)) = r
  | 0, i, hc, hi => by omega
  | c + 1, i, hc, hi => by
    have hgl := Z126 A i
    rw [Zh1]
    by_cases hlt : i < n
    · have ih := Zkh (m := m) (Zc2 := Zc2) (x17 := x17) (Z56 := Z56) (Z5r := Z5r) (Z4r := Z4r) (Z5f := Z5f) (Z5s := Z5s) (Z5t := Z5t) (Z42 := Z42) (Z3z := Z3z) (Z3l := Z3l) (Z4o := Z4o) (Z1t := Z1t) (Z4s := Z4s) (Z6s := Z6s) (Z6e := Z6e) (Z8f := Z8f) (Z8g := Z8g) (Z8y := Z8y) (Z8h := Z8h) (Zwu := Zwu) (Zr3 := Zr3) hn hE c (i + 1) (by omega) (by omega)
      rw [Z18v] at ih
      simp only [Int.toNat_natCast, Nat.zero_add, Nat.mul_one]
      simp only [Nat.mul_one] at ih
      refine st_cT (decide_eq_true (by omega)) ?_
      refine st_if (by omega) ?_
      refine Z0 (Zlp hlt) ?_
      rw [Zu (by omega)]
      cases ha : A i with
      | false =>
        refine st_cT rfl ?_
        refine st_if ⟨rfl, by first | rfl | trivial, by constructor <;> omega, by first | rfl | trivial⟩ ?_
        rw [ha, if_pos rfl, List.length_append, List.length_singleton, Z7l, Zhg] at ih
        exact ih
      | true =>
        refine st_cF rfl ?_
        rw [ha, if_neg (by decide)] at ih
        exact ih
    · obtain rfl : i = n := by omega
      refine st_cF (decide_eq_false (by omega)) ?_
      exact hE

theorem Zu2 {m a0_0n : Nat} {a0_0c : Option Nat} {a0_0 : List D} {a1 : Int} {Ziw Z10q : Nat} {Z10r : Option Nat} {Z10s : List D} {Z10t : Nat} {Z10u : Option Nat} {Zo7 : List D} {Zo8 : Nat} {Zo9 : List D} {Zoa : Nat} {Zob : List D} {Zr4 Zlq : Nat} {Zlr : Option Nat} {Zls : List D} {Zoc : Int} {Zh2 Zod Zh3 Zoe : Nat} {n : Nat} {A : Nat → Bool} (hn : n < 100000) {r : Option D} (hE : (if (0 + (((goI A n).length) * 1)) ≤ ((goI A n).length * 1) then
 (Z2q [(D.agg [(D.list Zlq Zlr Zls)]), (D.list ((goI A n).length) none (cutL ((goI A n).length * 1) (ints (goI A n)) 0 (((goI A n).length) * 1)))]).bind fun d33 =>
 (rdT d33).bind fun r34 =>
 if List.length r34 = 2 then
 (rdA r34[0]?).bind fun c35 =>
 (rdI .i64 r34[1]?).bind fun x36 =>
 if (0 + (((goI A n).length) * 1)) ≤ ((goI A n).length * 1) then
 if (0 + (((goI A n).length) * 1)) ≤ ((goI A n).length * 1) then
 if (List.length c35) = 1 then
 if (List.length c35) = 1 then
 if (List.length c35) = 1 then
 some (D.tup [(D.agg c35), (D.v (.int .i64 (0 : Int)))])
 else none
 else none
 else none
 else none
 else none
 else none
 else none) = r) : ∀ (c i : Nat), n - i < c → i ≤ n →
    Z2l m c a0_0n a0_0c a0_0 a1 ((goI A i).length) n Ziw (n : Int) (i : Int) Z10q Z10r Z10s Z10t Z10u Zo7 Zo8 Zo9 Zoa Zob Zr4 (bfn (fun j => !A j) n) Zlq Zlr Zls Zoc Zh2 Zod Zh3 Zoe ((goI A i).length * 1) (ints (goI A i)) = r
  | 0, i, hc, hi => by omega
  | c + 1, i, hc, hi => by
    have hgl := Z126 A i
    rw [Zi6]
    by_cases hlt : i < n
    · have ih := Zu2 (m := m) (a0_0n := a0_0n) (a0_0c := a0_0c) (a0_0 := a0_0) (a1 := a1) (Ziw := Ziw) (Z10q := Z10q) (Z10r := Z10r) (Z10s := Z10s) (Z10t := Z10t) (Z10u := Z10u) (Zo7 := Zo7) (Zo8 := Zo8) (Zo9 := Zo9) (Zoa := Zoa) (Zob := Zob) (Zr4 := Zr4) (Zlq := Zlq) (Zlr := Zlr) (Zls := Zls) (Zoc := Zoc) (Zh2 := Zh2) (Zod := Zod) (Zh3 := Zh3) (Zoe := Zoe) hn hE c (i + 1) (by omega) (by omega)
      rw [Z18v] at ih
      simp only [Int.toNat_natCast, Nat.zero_add, Nat.mul_one]
      simp only [Nat.mul_one] at ih
      refine st_cT (decide_eq_true (by omega)) ?_
      refine st_if (by omega) ?_
      refine Z0 (Zlp hlt) ?_
      rw [Zu (by omega)]
      cases ha : A i with
      | false =>
        refine st_cT rfl ?_
        refine st_if ⟨rfl, by first | rfl | trivial, by constructor <;> omega, by first | rfl | trivial⟩ ?_
        rw [ha, if_pos rfl, List.length_append, List.length_singleton, Z7l, Zhg] at ih
        exact ih
      | true =>
        refine st_cF rfl ?_
        rw [ha, if_neg (by decide)] at ih
        exact ih
    · obtain rfl : i = n := by omega
      refine st_cF (decide_eq_false (by omega)) ?_
      exact hE

theorem Zqv {m n0 Z7s : Nat} {Za4 : Option Nat} {Ziw : List D} {Zfx : Int} {q96 : Sl} {Z1nm Z1ol : Nat} {Z1om : Option Nat} {Z1on : List D} {Z1oo : Nat} {Z1op : Option Nat} {Z1fk : List D} {Z1fl : Nat} {Z1fm : List D} {Z1fn : Nat} {Z1fo : List D} {Z1fp Z1b0 : Nat} {Z1b1 : Option Nat} {Z1b2 : List D} {Z1fq : Int} {Z1fr Z1fs Z1ft Z1fu : Nat} {n : Nat} {A : Nat → Bool} (hn : n < 100000) {r : Option D} (hE : (if (0 + (((goI A n).length) * 1)) ≤ ((goI A n).length * 1) then
 (Z2q [(D.agg [(D.list Z1b0 Z1b1 Z1b2)]), (D.list ((goI A n).length) none (cutL ((goI A n).length * 1) (ints (goI A n)) 0 (((goI A n).length) * 1)))]).bind fun d110 =>
 (rdT d110).bind fun r111 =>
 if List.length r111 = 2 then
 (rdA r111[0]?).bind fun c112 =>
 (rdI .i64 r111[1]?).bind fun x113 =>
 if (0 + (((goI A n).length) * 1)) ≤ ((goI A n).length * 1) then
 if (0 + (((goI A n).length) * 1)) ≤ ((goI A n).length * 1) then
 if (List.length c112) = 1 then
 if (List.length c112) = 1 then
 if (List.length c112) = 1 then
 some (D.tup [(D.agg c112), (D.v (.int .i64 Zfx)), (D.v (.int .i64 (0 : Int)))])
 else none
 else none
 else none
 else none
 else none
 else none
 else none) = r) : ∀ (c i : Nat), n - i < c → i ≤ n →
    Z26 m n0 c Z7s Za4 Ziw Zfx q96 ((goI A i).length) n Z1nm (n : Int) (i : Int) Z1ol Z1om Z1on Z1oo Z1op Z1fk Z1fl Z1fm Z1fn Z1fo Z1fp (bfn (fun j => !A j) n) Z1b0 Z1b1 Z1b2 Z1fq Z1fr Z1fs Z1ft Z1fu ((goI A i).length * 1) (ints (goI A i)) = r
  | 0, i, hc, hi => by omega
  | c + 1, i, hc, hi => by
    have hgl := Z126 A i
    rw [Zgg]
    by_cases hlt : i < n
    · have ih := Zqv (m := m) (n0 := n0) (Z7s := Z7s) (Za4 := Za4) (Ziw := Ziw) (Zfx := Zfx) (q96 := q96) (Z1nm := Z1nm) (Z1ol := Z1ol) (Z1om := Z1om) (Z1on := Z1on) (Z1oo := Z1oo) (Z1op := Z1op) (Z1fk := Z1fk) (Z1fl := Z1fl) (Z1fm := Z1fm) (Z1fn := Z1fn) (Z1fo := Z1fo) (Z1fp := Z1fp) (Z1b0 := Z1b0) (Z1b1 := Z1b1) (Z1b2 := Z1b2) (Z1fq := Z1fq) (Z1fr := Z1fr) (Z1fs := Z1fs) (Z1ft := Z1ft) (Z1fu := Z1fu) hn hE c (i + 1) (by omega) (by omega)
      rw [Z18v] at ih
      simp only [Int.toNat_natCast, Nat.zero_add, Nat.mul_one]
      simp only [Nat.mul_one] at ih
      refine st_cT (decide_eq_true (by omega)) ?_
      refine st_if (by omega) ?_
      refine Z0 (Zlp hlt) ?_
      rw [Zu (by omega)]
      cases ha : A i with
      | false =>
        refine st_cT rfl ?_
        refine st_if ⟨rfl, by first | rfl | trivial, by constructor <;> omega, by first | rfl | trivial⟩ ?_
        rw [ha, if_pos rfl, List.length_append, List.length_singleton, Z7l, Zhg] at ih
        exact ih
      | true =>
        refine st_cF rfl ?_
        rw [ha, if_neg (by decide)] at ih
        exact ih
    · obtain rfl : i = n := by omega
      refine st_cF (decide_eq_false (by omega)) ?_
      exact hE

theorem Znq {m a0_0n : Nat} {a0_0c : Option Nat} {a0_0 : List D} {a1 : Int} {a2n : Nat} {a2c : Option Nat} {a2 : List D} {q25 : Sl} {Z1oq : Nat} {Z1or : Option Nat} {Z1os : List D} {Z1ls : Nat} {Z1lt : Option Nat} {Z1lu : List D} {Z1b3 : Nat} {Z1fw Z1fx : List D} {Z1fy : Int} {n : Nat} {A : Nat → Bool} (hn : n < 100000) {r : Option D} (hE : (if (0 + (((goI A n).length) * 1)) ≤ ((goI A n).length * 1) then
 (Z2q [(D.agg [(D.list Z1ls Z1lt Z1lu)]), (D.list ((goI A n).length) none (cutL ((goI A n).length * 1) (ints (goI A n)) 0 (((goI A n).length) * 1)))]).bind fun d403 =>
 (rdT d403).bind fun r404 =>
 if List.length r404 = 2 then
 (rdA r404[0]?).bind fun c405 =>
 (rdI .i64 r404[1]?).bind fun x406 =>
 if (0 + (((goI A n).length) * 1)) ≤ ((goI A n).length * 1) then
 if (0 + (((goI A n).length) * 1)) ≤ ((goI A n).length * 1) then
 if (List.length c405) = 1 then
 if (List.length c405) = 1 then
 if (List.length c405) = 1 then
 some (D.tup [(D.agg c405), (D.v (.int .i64 (0 : Int))), (D.v (.int .i64 (0 : Int)))])
 else none
 else none
 else none
 else none
 else none
 else none
 else none) = r) : ∀ (c i : Nat), n - i < c → i ≤ n →
    Z23 m c a0_0n a0_0c a0_0 a1 a2n a2c a2 q25 ((goI A i).length) n (n : Int) (i : Int) Z1oq Z1or Z1os Z1ls Z1lt Z1lu Z1b3 Z1fw Z1fx (bfn (fun j => !A j) n) Z1fy ((goI A i).length * 1) (ints (goI A i)) = r
  | 0, i, hc, hi => by omega
  | c + 1, i, hc, hi => by
    have hgl := Z126 A i
    rw [Zey]
    by_cases hlt : i < n
    · have ih := Znq (m := m) (a0_0n := a0_0n) (a0_0c := a0_0c) (a0_0 := a0_0) (a1 := a1) (a2n := a2n) (a2c := a2c) (a2 := a2) (q25 := q25) (Z1oq := Z1oq) (Z1or := Z1or) (Z1os := Z1os) (Z1ls := Z1ls) (Z1lt := Z1lt) (Z1lu := Z1lu) (Z1b3 := Z1b3) (Z1fw := Z1fw) (Z1fx := Z1fx) (Z1fy := Z1fy) hn hE c (i + 1) (by omega) (by omega)
      rw [Z18v] at ih
      simp only [Int.toNat_natCast, Nat.zero_add, Nat.mul_one]
      simp only [Nat.mul_one] at ih
      refine st_cT (decide_eq_true (by omega)) ?_
      refine st_if (by omega) ?_
      refine Z0 (Zlp hlt) ?_
      rw [Zu (by omega)]
      cases ha : A i with
      | false =>
        refine st_cT rfl ?_
        refine st_if ⟨rfl, by first | rfl | trivial, by constructor <;> omega, by first | rfl | trivial⟩ ?_
        rw [ha, if_pos rfl, List.length_append, List.length_singleton, Z7l, Zhg] at ih
        exact ih
      | true =>
        refine st_cF rfl ?_
        rw [ha, if_neg (by decide)] at ih
        exact ih
    · obtain rfl : i = n := by omega
      refine st_cF (decide_eq_false (by omega)) ?_
      exact hE
end Go.Ev
/-
 Trees pruned at a depth.
-/
set_option linter.unusedSimpArgs false
set_option linter.unusedVariables false
set_option maxRecDepth 100000
namespace Go.Ev
open Go
theorem Z1ou {N : List Nd} (hs : Shape N) (d : Nat) : Up N (sweep N d N.length (fun _ => true)) := fun i hi h0 ha => by
 have hp := (hs.par hi h0).2
 rw [Zv8 hs d _ hi] at ha
 rw [Zv8 hs d _ (by omega)]
 exact Z13w hs d i hi h0 ha
def noT : D := .agg [.list 0 (some 0) []]
theorem Zu3 {l : List Cd} (h : CdsB l) (cp : Option Nat) (d : Int) : Zp [.agg [.list l.length cp (cdsC l)], .v (.int .i64 d)] =
  some (if planE (nds l) d ≠ 0 then .tup [noT, .v (.int .i64 (planE (nds l) d))] else delD (leftC l (stays (nds l) d.toNat))) := by
 show Zme M l.length cp (cdsC l) d = _
 unfold Zme
 have hB := h.len
 refine Z0 (Zpr h cp) ?_
 refine Z0 (rdI_v _ _) ?_
 by_cases he : treeErr (nds l) = 0
 ·refine st_cF (i_bnf he) ?_
  by_cases h1 : d < 0
  ·refine st_cT (decide_eq_true h1) ?_
   rw [Za5 he (.inl h1), if_pos (by decide)]; rfl
  ·refine st_cF (decide_eq_false h1) ?_
   by_cases h2 : 64 < d
   ·refine st_cT (decide_eq_true h2) ?_
    rw [Za5 he (.inr h2), if_pos (by decide)]; rfl
   ·refine st_cF (decide_eq_false h2) ?_
    rw [Zpj he (by omega), if_neg (by decide)]
    have hs : Shape (nds l) := Zfn h.ok he
    rw [Zl1]
    simp only [Int.toNat_natCast]
    refine st_if ⟨by omega, by omega, by constructor <;> omega⟩ ?_
    refine st_if ⟨by omega, by omega, by constructor <;> omega⟩ ?_
    refine st_if ⟨by omega, by omega, by constructor <;> omega⟩ ?_
    have e1 : (List.replicate l.length [D.v (.int .i64 0)]).flatten = ints (dps (nds l) 0 l.length) := by rw [Zzf, Zzh]
    have e2 : (List.replicate l.length [D.v (.int .i64 0)]).flatten = ifn (ckF (nds l) 0) l.length := by rw [Z165]; exact Za2 fun j _ => rfl
    rw [Z1b7]
    conv => lhs; arg 16; rw [e1]
    conv => lhs; arg 17; rw [e2]
    refine Zs9 h hs ?_ M 0 (by unfold M; omega) (by omega)
    rw [ck_ki]
    obtain ⟨k, rfl⟩ : ∃ k : Nat, d = (k : Int) := ⟨d.toNat, by omega⟩
    rw [Int.toNat_natCast, Z77 (by omega) (by omega)]
    refine Zwk (d := k) h hs M l.length tt (by unfold M; omega) (Nat.le_refl _) ?_
    refine Zu2 (n := l.length) (A := sweep (nds l) k l.length tt) hB ?_ M 0 (by unfold M; omega) (by omega)
    have hil := Zb5 (goI (sweep (nds l) k l.length tt) l.length)
    refine st_if (by omega) ?_
    rw [Nat.mul_one, Z5k hil]
    have hup := Z1ou hs k
    rw [Zy] at hup
    refine Z0 (Zzj h he hup cp) ?_
    refine Z0 rfl ?_
    refine st_if rfl ?_
    refine Z0 rfl ?_
    refine Z0 rfl ?_
    refine st_if (by omega) ?_
    refine st_if (by omega) ?_
    refine st_if rfl ?_
    refine st_if rfl ?_
    refine st_if rfl ?_
    have ec : leftC l (sweep (nds l) k l.length tt) = leftC l (stays (nds l) k) := Z127 (fun i hi => by have := Zv8 hs k i (by rw [Zy]; exact hi); rw [Zy] at this; exact this) hs
    rw [← ec]
    rfl
 ·refine st_cT (i_bne he) ?_
  refine st_cT (i_bne he) ?_
  rw [Zu1 he, if_pos he]; rfl
end Go.Ev
/-
 The nodes that stay; a node removed.
-/
set_option linter.unusedSimpArgs false
set_option linter.unusedVariables false
set_option maxRecDepth 100000
namespace Go.Ev
open Go
def inI (A : Nat → Bool) (i : Nat) : List Int := ((List.range i).filter A).map fun j : Nat => (j : Int)
theorem Z18w (A : Nat → Bool) (i : Nat) : inI A (i + 1) = if A i = true then inI A i ++ [(i : Int)] else inI A i := by
 unfold inI
 rw [List.range_succ, List.filter_append, List.map_append]
 by_cases h : A i = true
 ·rw [if_pos h, List.filter_cons_of_pos h]; rfl
 ·rw [if_neg h, List.filter_cons_of_neg h]; simp
theorem Z128 (A : Nat → Bool) (i : Nat) : (inI A i).length ≤ i := by
 unfold inI
 rw [List.length_map]
 exact Nat.le_trans (List.length_filter_le _ _) (by simp)
theorem Z1mw {A B : Nat → Bool} {n : Nat} (h : ∀ i, i < n → A i = B i) : inI A n = inI B n := by
 unfold inI
 rw [List.filter_congr fun i hi => h i (List.mem_range.1 hi)]
theorem Z1i8 {m Za4 Zzw : Nat} {Z10q : Option Nat} {Z10r : List D} {Z10s : Nat} {Z10t : Option Nat} {Z10u : List D} {Zo7 : Nat} {Zo8 : List D} {Zo9 : Nat} {Zoa : List D} {Zob Zr5 : Nat} {Zlq : Option Nat} {Zlr : List D} {Zls : Int} {Zoc Zh2 Zod Zh3 : Nat} {n : Nat} {A : Nat → Bool} (hn : n < 100000) : ∀ (c i : Nat), n - i < c → i ≤ n →
  Z27 m c n Za4 (n : Int) (i : Int) Zzw Z10q Z10r Z10s Z10t Z10u Zo7 Zo8 Zo9 Zoa Zob (bfn (fun j => !A j) n) Zr5 Zlq Zlr Zls Zoc Zh2 Zod Zh3 ((inI A i).length) ((inI A i).length * 1) (ints (inI A i)) =
  some (.tup [.list (inI A n).length (some (inI A n).length) (ints (inI A n)), .v (.int .i64 0)])
 | 0, i, hc, hi => by omega
 | c + 1, i, hc, hi => by
  have hgl := Z128 A i
  rw [Zgi]
  by_cases hlt : i < n
  ·have ih := Z1i8 (m := m) (Za4 := Za4) (Zzw := Zzw) (Z10q := Z10q) (Z10r := Z10r) (Z10s := Z10s) (Z10t := Z10t) (Z10u := Z10u) (Zo7 := Zo7) (Zo8 := Zo8) (Zo9 := Zo9) (Zoa := Zoa) (Zob := Zob) (Zr5 := Zr5) (Zlq := Zlq) (Zlr := Zlr) (Zls := Zls) (Zoc := Zoc) (Zh2 := Zh2) (Zod := Zod) (Zh3 := Zh3) (A := A) hn c (i + 1) (by omega) (by omega)
   rw [Z18w] at ih
   simp only [Int.toNat_natCast, Nat.zero_add, Nat.mul_one]
   simp only [Nat.mul_one] at ih
   refine st_cT (decide_eq_true (by omega)) ?_
   refine st_if (by omega) ?_
   refine Z0 (Zlp hlt) ?_
   rw [Zu (by omega), Bool.not_not]
   cases ha : A i with
   | true =>
    refine st_cT rfl ?_
    refine st_if ⟨rfl, by first | rfl | trivial, by constructor <;> omega, by first | rfl | trivial⟩ ?_
    rw [ha, if_pos rfl, List.length_append, List.length_singleton, Z7l, Zhg] at ih
    exact ih
   | false =>
    refine st_cF rfl ?_
    rw [ha, if_neg (by decide)] at ih
    exact ih
  ·obtain rfl : i = n := by omega
   have hil := Zb5 (inI A i)
   refine st_cF (decide_eq_false (by omega)) ?_
   rw [Z125]
   refine st_if (by omega) ?_
   simp only [Nat.mul_one]
   rw [Z5k hil]
   refine Z0 (Z14a (by omega) none) ?_
   refine Z0 (rdL_v _ _ _) ?_
   refine st_if (by omega) ?_
   rfl
theorem Z1b9 {l : List Cd} (h : CdsB l) (cp : Option Nat) (d : Int) : Z1x [.agg [.list l.length cp (cdsC l)], .v (.int .i64 d)] =
  some (if planE (nds l) d ≠ 0 then .tup [.list 0 (some 0) [], .v (.int .i64 (planE (nds l) d))] else .tup [.list (inI (stays (nds l) d.toNat) l.length).length (some (inI (stays (nds l) d.toNat) l.length).length) (ints (inI (stays (nds l) d.toNat) l.length)), .v (.int .i64 0)]) := by
 show Zmf M l.length cp (cdsC l) d = _
 unfold Zmf
 have hB := h.len
 refine Z0 (Zpr h cp) ?_
 refine Z0 (rdI_v _ _) ?_
 by_cases he : treeErr (nds l) = 0
 ·refine st_cF (i_bnf he) ?_
  by_cases h1 : d < 0
  ·refine st_cT (decide_eq_true h1) ?_
   rw [Za5 he (.inl h1), if_pos (by decide)]
  ·refine st_cF (decide_eq_false h1) ?_
   by_cases h2 : 64 < d
   ·refine st_cT (decide_eq_true h2) ?_
    rw [Za5 he (.inr h2), if_pos (by decide)]
   ·refine st_cF (decide_eq_false h2) ?_
    rw [Zpj he (by omega), if_neg (by decide)]
    have hs : Shape (nds l) := Zfn h.ok he
    rw [Zl2]
    simp only [Int.toNat_natCast]
    refine st_if ⟨by omega, by omega, by constructor <;> omega⟩ ?_
    refine st_if ⟨by omega, by omega, by constructor <;> omega⟩ ?_
    refine st_if ⟨by omega, by omega, by constructor <;> omega⟩ ?_
    have e1 : (List.replicate l.length [D.v (.int .i64 0)]).flatten = ints (dps (nds l) 0 l.length) := by rw [Zzf, Zzh]
    have e2 : (List.replicate l.length [D.v (.int .i64 0)]).flatten = ifn (ckF (nds l) 0) l.length := by rw [Z165]; exact Za2 fun j _ => rfl
    rw [Z1b7]
    conv => lhs; arg 16; rw [e1]
    conv => lhs; arg 17; rw [e2]
    refine Zsa h hs ?_ M 0 (by unfold M; omega) (by omega)
    rw [ck_ki]
    obtain ⟨k, rfl⟩ : ∃ k : Nat, d = (k : Int) := ⟨d.toNat, by omega⟩
    rw [Int.toNat_natCast, Z77 (by omega) (by omega)]
    refine Zwl (d := k) h hs M l.length tt (by unfold M; omega) (Nat.le_refl _) ?_
    have ec : inI (sweep (nds l) k l.length tt) l.length = inI (stays (nds l) k) l.length := Z1mw (fun i hi => by have := Zv8 hs k i (by rw [Zy]; exact hi); rw [Zy] at this; exact this)
    rw [← ec]
    exact Z1i8 (n := l.length) (A := sweep (nds l) k l.length tt) hB M 0 (by unfold M; omega) (by omega)
 ·refine st_cT (i_bne he) ?_
  refine st_cT (i_bne he) ?_
  rw [Zu1 he, if_pos he]
end Go.Ev
/-
 A childless node removed.
-/
set_option linter.unusedSimpArgs false
set_option linter.unusedVariables false
set_option maxRecDepth 100000
namespace Go.Ev
open Go
def remD (l : List Cd) (d at_ : Int) : D :=
 if at_ < 0 ∨ (l.length : Int) ≤ at_ then .tup [noT, .v (.int .i64 19)]
 else if chl (nds l) tt d.toNat at_.toNat = false then .tup [noT, .v (.int .i64 21)]
 else delD (leftC l (del tt at_.toNat))
theorem Zzk {l : List Cd} (h : CdsB l) (cp : Option Nat) (d at_ : Int) : Z1i [.agg [.list l.length cp (cdsC l)], .v (.int .i64 d), .v (.int .i64 at_)] =
  some (if planE (nds l) d ≠ 0 then .tup [noT, .v (.int .i64 (planE (nds l) d))] else remD l d at_) := by
 show Zkd M l.length cp (cdsC l) d at_ = _
 unfold Zkd
 have hB := h.len
 refine Z0 (Zpr h cp) ?_
 refine Z0 (rdI_v _ _) ?_
 by_cases he : treeErr (nds l) = 0
 ·refine st_cF (i_bnf he) ?_
  by_cases h1 : d < 0
  ·refine st_cT (decide_eq_true h1) ?_
   rw [Za5 he (.inl h1), if_pos (by decide)]; rfl
  ·refine st_cF (decide_eq_false h1) ?_
   by_cases h2 : 64 < d
   ·refine st_cT (decide_eq_true h2) ?_
    rw [Za5 he (.inr h2), if_pos (by decide)]; rfl
   ·refine st_cF (decide_eq_false h2) ?_
    rw [Zpj he (by omega), if_neg (by decide)]
    have hs : Shape (nds l) := Zfn h.ok he
    rw [Zkc]
    simp only [Int.toNat_natCast]
    refine st_if ⟨by omega, by omega, by constructor <;> omega⟩ ?_
    refine st_if ⟨by omega, by omega, by constructor <;> omega⟩ ?_
    refine st_if ⟨by omega, by omega, by constructor <;> omega⟩ ?_
    have e1 : (List.replicate l.length [D.v (.int .i64 0)]).flatten = ints (dps (nds l) 0 l.length) := by rw [Zzf, Zzh]
    have e2 : (List.replicate l.length [D.v (.int .i64 0)]).flatten = ifn (ckF (nds l) 0) l.length := by rw [Z165]; exact Za2 fun j _ => rfl
    rw [Z1b7]
    conv => lhs; arg 17; rw [e1]
    conv => lhs; arg 18; rw [e2]
    refine Zqu h hs ?_ M 0 (by unfold M; omega) (by omega)
    rw [ck_ki]
    obtain ⟨k, rfl⟩ : ∃ k : Nat, d = (k : Int) := ⟨d.toNat, by omega⟩
    unfold remD
    by_cases h3 : at_ < 0
    ·refine st_cT (decide_eq_true h3) ?_
     rw [if_pos (.inl h3)]; rfl
    ·refine st_cF (decide_eq_false h3) ?_
     by_cases h4 : (l.length : Int) ≤ at_
     ·refine st_cT (decide_eq_true h4) ?_
      rw [if_pos (.inr h4)]; rfl
     ·refine st_cF (decide_eq_false h4) ?_
      rw [if_neg (by omega)]
      obtain ⟨q, rfl⟩ : ∃ q : Nat, at_ = (q : Int) := ⟨at_.toNat, by omega⟩
      have hlt : q < l.length := by omega
      have hn : q < (nds l).length := by rw [Zy]; exact hlt
      rw [Int.toNat_natCast, Int.toNat_natCast]
      have hch := chl_eq (nds l) tt k q
      have ht : tt q = true := rfl
      rw [ht, Bool.true_and] at hch
      rw [Zww]
      simp only [Int.toNat_natCast, Nat.zero_add, Nat.mul_one]
      refine st_if (by omega) ?_
      refine Z0 (Zlp hlt) ?_
      refine st_cT rfl ?_
      refine st_if (by omega) ?_
      refine Z0 (dps_at hlt hlt) ?_
      by_cases hd : dep (nds l) q < k
      ·refine st_cT (decide_eq_true (by omega)) ?_
       refine st_if (by omega) ?_
       refine Z0 (Zeu hlt) ?_
       by_cases hk : kids (nds l) tt q = 0
       ·have hc1 : chl (nds l) tt k q = true := by rw [hch, decide_eq_true hd, decide_eq_true hk]; rfl
        rw [hc1, if_neg (show ¬ ((true : Bool) = false) by decide)]
        have e0 : (kiF (nds l) tt q == (0 : Int)) = true := i_eq (by unfold kiF; omega)
        refine st_cF (by rw [e0]; rfl) ?_
        refine st_if (by omega) ?_
        refine st_if ⟨by first | rfl | trivial, by omega⟩ ?_
        rw [Z14b]
        have hup : Up (nds l) (del tt q) := (Live.del hs (Live.all (nds l) k) hn hc1).up
        have fin : ∀ {r : Option D}, some (delD (leftC l (del tt q))) = r → (Z2q [.agg [.list l.length cp (cdsC l)], .list (goI (del tt q) l.length).length none (ints (goI (del tt q) l.length))]) = r := fun e => (Zzj h he hup cp).trans e
        by_cases h0 : 0 < q
        ·refine st_cT (decide_eq_true (by omega)) ?_
         have hp := hs.par hn h0
         rw [Z6g hlt] at hp
         have hpt : l[q].n.par.toNat = parN (nds l) q := by omega
         have hko := Z14c h0 hlt ht
         have hkl := Z1b8 (N := nds l) (A := tt) (parN (nds l) q)
         rw [Zy] at hkl
         refine st_if (by omega) ?_
         refine Z0 (Z6l h.ok hlt) ?_
         refine st_if (by omega) ?_
         rw [hpt]
         refine Z0 (Zeu (by omega)) ?_
         refine st_if (by omega) ?_
         refine st_if ⟨by first | rfl | trivial, by omega⟩ ?_
         refine Zkh (n := l.length) (A := del tt q) hB ?_ M 0 (by unfold M; omega) (by omega)
         have hil := Zb5 (goI (del tt q) l.length)
         refine st_if (by omega) ?_
         rw [Nat.mul_one, Z5k hil]
         refine Z0 (Zzj h he hup cp) ?_
         refine Z0 rfl ?_
         refine st_if rfl ?_
         refine Z0 rfl ?_
         refine Z0 rfl ?_
         refine st_if (by omega) ?_
         refine st_if (by omega) ?_
         refine st_if rfl ?_
         refine st_if rfl ?_
         refine st_if rfl ?_
         rfl
        ·refine st_cF (decide_eq_false (by omega)) ?_
         refine Zkh (n := l.length) (A := del tt q) hB ?_ M 0 (by unfold M; omega) (by omega)
         have hil := Zb5 (goI (del tt q) l.length)
         refine st_if (by omega) ?_
         rw [Nat.mul_one, Z5k hil]
         refine Z0 (Zzj h he hup cp) ?_
         refine Z0 rfl ?_
         refine st_if rfl ?_
         refine Z0 rfl ?_
         refine Z0 rfl ?_
         refine st_if (by omega) ?_
         refine st_if (by omega) ?_
         refine st_if rfl ?_
         refine st_if rfl ?_
         refine st_if rfl ?_
         rfl
       ·have e0 : (kiF (nds l) tt q == (0 : Int)) = false := i_ne (by unfold kiF; omega)
        refine st_cT (by rw [e0]; rfl) ?_
        rw [hch, decide_eq_false hk, Bool.and_false, if_pos rfl]; rfl
      ·refine st_cF (decide_eq_false (by omega)) ?_
       rw [hch, decide_eq_false hd, Bool.false_and, if_pos rfl]; rfl
 ·refine st_cT (i_bne he) ?_
  refine st_cT (i_bne he) ?_
  rw [Zu1 he, if_pos he]; rfl
end Go.Ev