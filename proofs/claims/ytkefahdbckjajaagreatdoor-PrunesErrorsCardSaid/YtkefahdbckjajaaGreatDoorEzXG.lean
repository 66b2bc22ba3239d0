/-
  The evaluator: EzN4 EzN5 EzN6 EzN7 EzN8 EzN9 EzNA.
-/
import Derived.Test.YtkefahdbckjajaaGreatDoorEzN3
import Derived.Test.YtkefahdbckjajaaGreatDoorEzG4
/-
  Plans started: depths, and numbers of children.
-/
set_option linter.unusedSimpArgs false
set_option linter.unusedVariables false
set_option maxRecDepth 100000
namespace Go.Ev
open Go

/-- The numbers of children among the first nodes. -/
def ckF (N : List Nd) (i j : Nat) : Int := (cntK N (fun _ => true) j i : Int)
theorem ckF_succ (N : List Nd) (i j : Nat) : ckF N (i + 1) j = if 0 < i ∧ parN N i = j then ckF N i j + 1 else ckF N i j := by
  unfold ckF
  rw [cntK]
  by_cases h : 0 < i ∧ parN N i = j
  · rw [if_pos h, if_pos ⟨h.1, rfl, h.2⟩]; omega
  · rw [if_neg h, if_neg (fun q => h ⟨q.1, q.2.2⟩)]; omega
theorem ckF_root (N : List Nd) (n : Nat) : ifn (ckF N 0) n = ifn (ckF N 1) n := ifn_congr fun j _ => by rw [ckF_succ, if_neg (by omega)]
theorem ckF_set {N : List Nd} {i : Nat} (h0 : 0 < i) (n : Nat) : (ifn (ckF N i) n).set (parN N i) (.v (.int .i64 (ckF N i (parN N i) + 1))) = ifn (ckF N (i + 1)) n := by
  rw [ifn_set]
  refine ifn_congr fun j _ => ?_
  rw [ckF_succ]
  by_cases e : j = parN N i
  · subst e; rw [if_pos rfl, if_pos ⟨h0, rfl⟩]
  · rw [if_neg e, if_neg (fun q => e q.2.symm)]
theorem ckF_le (N : List Nd) (i j : Nat) : 0 ≤ ckF N i j ∧ ckF N i j ≤ (i : Int) := by
  unfold ckF
  have := cntK_le (l := N) (A := fun _ => true) (i := j) i
  omega
theorem Zqm {a : List Int} (hb : a.length < 1000000000) (cp : Option Nat) : Z2j [.list a.length cp (ints a)] = some (.list a.length (some a.length) (ints a)) := by
  show Zfx M a.length cp (ints a) = _
  unfold Zfx
  have hl : (ints a).length = a.length := ints_len a
  by_cases h0 : a.length = 0
  · refine st_cT (i_eq (by omega)) ?_
    obtain rfl := List.length_eq_zero_iff.1 h0; rfl
  · refine st_cF (i_ne (by omega)) ?_
    simp only [Int.toNat_natCast, Nat.zero_add, Nat.mul_one]
    refine st_if ⟨by omega, by omega, by constructor <;> omega⟩ ?_
    refine st_if hl ?_
    refine st_if (by omega) ?_
    refine st_if ⟨by omega, hl⟩ ?_
    refine st_if (by omega) ?_
    rw [List.take_zero, List.nil_append, List.drop_eq_nil_of_le (by rw [List.length_flatten, List.map_replicate, List.sum_replicate_nat]; simp), List.append_nil, cutL_all hl]

theorem Zff {m a0_0n : Nat} {a0_0c : Option Nat} {a0_0 : List D} {a1 : Int} {y0_11 : List D} {y0_12 : Int} {l : List Cd} (h : CdsB l) (hs : Shape (nds l)) {cp : Option Nat} {r : Option D} (hE : (Zv m m a0_0n a0_0c a0_0 a1 0 (((l.length) : Nat) : Int) (0 : Int) (l.length) cp (cdsC l) (l.length) cp (cdsC l) (l.length * 1) (ints (dps (nds l) l.length l.length)) (ifn (ckF (nds l) l.length) l.length) y0_11 y0_12 (l.length) 0 []) = r) : ∀ (c i : Nat), l.length - i < c → i ≤ l.length →
    Z1v m c a0_0n a0_0c a0_0 a1 l.length cp (cdsC l) (l.length : Int) (i : Int) l.length cp (cdsC l) (l.length * 1) (ints (dps (nds l) i l.length)) (ifn (ckF (nds l) i) l.length) y0_11 y0_12 l.length = r
  | 0, i, hc, hi => by omega
  | c + 1, i, hc, hi => by
    have hB := h.len
    have hl := cdsC_len h.ok
    rw [Zd2]
    simp only [Int.toNat_natCast, Nat.zero_add, Nat.mul_one]
    by_cases hlt : i < l.length
    · have hok := h.ok _ (List.getElem_mem hlt)
      have hn : i < (nds l).length := by rw [nds_len]; exact hlt
      rw [cdsC_get h.ok hlt]
      refine st_cT (decide_eq_true (by omega)) ?_
      refine st_if (by omega) ?_
      refine st_if (by omega) ?_
      refine st_if (Cd.cells_len hok) ?_
      have := Zff (a0_0n := a0_0n) (a0_0c := a0_0c) (a0_0 := a0_0) (a1 := a1) h hs hE c (i + 1) (by omega) (by omega)
      rw [Nat.mul_one] at this
      by_cases h0 : 0 < i
      · refine st_cT (decide_eq_true (by omega)) ?_
        have hp := hs.par hn h0
        rw [nds_getE hlt] at hp
        have hpt : l[i].n.par.toNat = parN (nds l) i := by omega
        have hck := ckF_le (nds l) i (parN (nds l) i)
        have hdb := dep_bound (l := nds l) (parN (nds l) i)
        refine st_bind (rdI_get (Cd.at0 _)) ?_
        refine st_if (by omega) ?_
        rw [hpt]
        refine st_bind (dps_at (by omega) (by omega)) ?_
        refine st_if (by omega) ?_
        refine st_if ⟨by first | rfl | trivial, by omega⟩ ?_
        refine st_bind (rdI_get (Cd.at0 _)) ?_
        refine st_if (by omega) ?_
        rw [hpt]
        refine st_bind (ifn_get (by omega)) ?_
        refine st_if (by omega) ?_
        refine st_if ⟨by first | rfl | trivial, by omega⟩ ?_
        have hd := dep_pos hs hn h0
        rw [wrap_succ (by omega), wrap_succ (by omega), show dep (nds l) (parN (nds l) i) + 1 = dep (nds l) i from hd.symm, ints_set, dps_set, wrap_id (by omega) (by omega), ckF_set h0]
        exact this
      · refine st_cF (decide_eq_false (by omega)) ?_
        obtain rfl : i = 0 := by omega
        rw [wrap_succ (by omega), dps_root, ckF_root]
        exact this
    · obtain rfl : i = l.length := by omega
      refine st_cF (decide_eq_false (by omega)) ?_
      simp only [Nat.mul_one] at hE
      exact hE

theorem Ziy {m a0_0n : Nat} {a0_0c : Option Nat} {a0_0 : List D} {a1 a2 : Int} {y0_11 : List D} {y0_12 : Int} {l : List Cd} (h : CdsB l) (hs : Shape (nds l)) {cp : Option Nat} {r : Option D} (hE : (cond (decide (a2 < (0 : Int)))
 (some (D.tup [(D.agg [(D.list 0 (some 0) [])]), (D.v (.int .i64 (19 : Int)))]))
 (cond (decide (a2 ≥ (((l.length) : Nat) : Int)))
 (some (D.tup [(D.agg [(D.list 0 (some 0) [])]), (D.v (.int .i64 (19 : Int)))]))
 (Zbs m a2 (l.length) cp (cdsC l) (l.length) cp (cdsC l) (l.length * 1) (ints (dps (nds l) l.length l.length)) (l.length * 1) (ifn (ckF (nds l) l.length) l.length) (l.length * 1) y0_11 (l.length) cp (cdsC l) y0_12 (l.length) (l.length) (l.length) (l.length) (l.length) (l.length)))) = r) : ∀ (c i : Nat), l.length - i < c → i ≤ l.length →
    Z2f m c a0_0n a0_0c a0_0 a1 a2 l.length cp (cdsC l) (l.length : Int) (i : Int) l.length cp (cdsC l) (l.length * 1) (ints (dps (nds l) i l.length)) (ifn (ckF (nds l) i) l.length) y0_11 y0_12 l.length = r
  | 0, i, hc, hi => by omega
  | c + 1, i, hc, hi => by
    have hB := h.len
    have hl := cdsC_len h.ok
    rw [Zf6]
    simp only [Int.toNat_natCast, Nat.zero_add, Nat.mul_one]
    by_cases hlt : i < l.length
    · have hok := h.ok _ (List.getElem_mem hlt)
      have hn : i < (nds l).length := by rw [nds_len]; exact hlt
      rw [cdsC_get h.ok hlt]
      refine st_cT (decide_eq_true (by omega)) ?_
      refine st_if (by omega) ?_
      refine st_if (by omega) ?_
      refine st_if (Cd.cells_len hok) ?_
      have := Ziy (a0_0n := a0_0n) (a0_0c := a0_0c) (a0_0 := a0_0) (a1 := a1) h hs hE c (i + 1) (by omega) (by omega)
      rw [Nat.mul_one] at this
      by_cases h0 : 0 < i
      · refine st_cT (decide_eq_true (by omega)) ?_
        have hp := hs.par hn h0
        rw [nds_getE hlt] at hp
        have hpt : l[i].n.par.toNat = parN (nds l) i := by omega
        have hck := ckF_le (nds l) i (parN (nds l) i)
        have hdb := dep_bound (l := nds l) (parN (nds l) i)
        refine st_bind (rdI_get (Cd.at0 _)) ?_
        refine st_if (by omega) ?_
        rw [hpt]
        refine st_bind (dps_at (by omega) (by omega)) ?_
        refine st_if (by omega) ?_
        refine st_if ⟨by first | rfl | trivial, by omega⟩ ?_
        refine st_bind (rdI_get (Cd.at0 _)) ?_
        refine st_if (by omega) ?_
        rw [hpt]
        refine st_bind (ifn_get (by omega)) ?_
        refine st_if (by omega) ?_
        refine st_if ⟨by first | rfl | trivial, by omega⟩ ?_
        have hd := dep_pos hs hn h0
        rw [wrap_succ (by omega), wrap_succ (by omega), show dep (nds l) (parN (nds l) i) + 1 = dep (nds l) i from hd.symm, ints_set, dps_set, wrap_id (by omega) (by omega), ckF_set h0]
        exact this
      · refine st_cF (decide_eq_false (by omega)) ?_
        obtain rfl : i = 0 := by omega
        rw [wrap_succ (by omega), dps_root, ckF_root]
        exact this
    · obtain rfl : i = l.length := by omega
      refine st_cF (decide_eq_false (by omega)) ?_
      simp only [Nat.mul_one] at hE
      exact hE

theorem Zk1 {m a0_0n : Nat} {a0_0c : Option Nat} {a0_0 : List D} {a1 : Int} {y0_11 : List D} {y0_12 : Int} {l : List Cd} (h : CdsB l) (hs : Shape (nds l)) {cp : Option Nat} {r : Option D} (hE : (Z21 m m a0_0n a0_0c a0_0 a1 (IntKind.wrap .i64 ((((l.length) : Nat) : Int) - (1 : Int))) (l.length) cp (cdsC l) (l.length) cp (cdsC l) (l.length * 1) (ints (dps (nds l) l.length l.length)) (l.length * 1) (ifn (ckF (nds l) l.length) l.length) (l.length * 1) y0_11 (l.length) cp (cdsC l) y0_12 (l.length) (l.length) (l.length) (l.length) (l.length) (l.length)) = r) : ∀ (c i : Nat), l.length - i < c → i ≤ l.length →
    Z2l m c a0_0n a0_0c a0_0 a1 l.length cp (cdsC l) (l.length : Int) (i : Int) l.length cp (cdsC l) (l.length * 1) (ints (dps (nds l) i l.length)) (ifn (ckF (nds l) i) l.length) y0_11 y0_12 l.length = r
  | 0, i, hc, hi => by omega
  | c + 1, i, hc, hi => by
    have hB := h.len
    have hl := cdsC_len h.ok
    rw [Zfn]
    simp only [Int.toNat_natCast, Nat.zero_add, Nat.mul_one]
    by_cases hlt : i < l.length
    · have hok := h.ok _ (List.getElem_mem hlt)
      have hn : i < (nds l).length := by rw [nds_len]; exact hlt
      rw [cdsC_get h.ok hlt]
      refine st_cT (decide_eq_true (by omega)) ?_
      refine st_if (by omega) ?_
      refine st_if (by omega) ?_
      refine st_if (Cd.cells_len hok) ?_
      have := Zk1 (a0_0n := a0_0n) (a0_0c := a0_0c) (a0_0 := a0_0) (a1 := a1) h hs hE c (i + 1) (by omega) (by omega)
      rw [Nat.mul_one] at this
      by_cases h0 : 0 < i
      · refine st_cT (decide_eq_true (by omega)) ?_
        have hp := hs.par hn h0
        rw [nds_getE hlt] at hp
        have hpt : l[i].n.par.toNat = parN (nds l) i := by omega
        have hck := ckF_le (nds l) i (parN (nds l) i)
        have hdb := dep_bound (l := nds l) (parN (nds l) i)
        refine st_bind (rdI_get (Cd.at0 _)) ?_
        refine st_if (by omega) ?_
        rw [hpt]
        refine st_bind (dps_at (by omega) (by omega)) ?_
        refine st_if (by omega) ?_
        refine st_if ⟨by first | rfl | trivial, by omega⟩ ?_
        refine st_bind (rdI_get (Cd.at0 _)) ?_
        refine st_if (by omega) ?_
        rw [hpt]
        refine st_bind (ifn_get (by omega)) ?_
        refine st_if (by omega) ?_
        refine st_if ⟨by first | rfl | trivial, by omega⟩ ?_
        have hd := dep_pos hs hn h0
        rw [wrap_succ (by omega), wrap_succ (by omega), show dep (nds l) (parN (nds l) i) + 1 = dep (nds l) i from hd.symm, ints_set, dps_set, wrap_id (by omega) (by omega), ckF_set h0]
        exact this
      · refine st_cF (decide_eq_false (by omega)) ?_
        obtain rfl : i = 0 := by omega
        rw [wrap_succ (by omega), dps_root, ckF_root]
        exact this
    · obtain rfl : i = l.length := by omega
      refine st_cF (decide_eq_false (by omega)) ?_
      simp only [Nat.mul_one] at hE
      exact hE

theorem Zhe {m a0_0n : Nat} {a0_0c : Option Nat} {a0_0 : List D} {a1 : Int} {a2n : Nat} {a2c : Option Nat} {a2 y0_11 : List D} {y0_12 : Int} {l : List Cd} (h : CdsB l) (hs : Shape (nds l)) {cp : Option Nat} {r : Option D} (hE : (Zr m m a0_0n a0_0c a0_0 a1 a2n a2c a2 0 (((l.length) : Nat) : Int) (0 : Int) (l.length) cp (cdsC l) (l.length) cp (cdsC l) (l.length * 1) (ints (dps (nds l) l.length l.length)) (ifn (ckF (nds l) l.length) l.length) y0_11 y0_12 (l.length) 0 []) = r) : ∀ (c i : Nat), l.length - i < c → i ≤ l.length →
    Z2c m c a0_0n a0_0c a0_0 a1 a2n a2c a2 l.length cp (cdsC l) (l.length : Int) (i : Int) l.length cp (cdsC l) (l.length * 1) (ints (dps (nds l) i l.length)) (ifn (ckF (nds l) i) l.length) y0_11 y0_12 l.length = r
  | 0, i, hc, hi => by omega
  | c + 1, i, hc, hi => by
    have hB := h.len
    have hl := cdsC_len h.ok
    rw [Zew]
    simp only [Int.toNat_natCast, Nat.zero_add, Nat.mul_one]
    by_cases hlt : i < l.length
    · have hok := h.ok _ (List.getElem_mem hlt)
      have hn : i < (nds l).length := by rw [nds_len]; exact hlt
      rw [cdsC_get h.ok hlt]
      refine st_cT (decide_eq_true (by omega)) ?_
      refine st_if (by omega) ?_
      refine st_if (by omega) ?_
      refine st_if (Cd.cells_len hok) ?_
      have := Zhe (a0_0n := a0_0n) (a0_0c := a0_0c) (a0_0 := a0_0) (a1 := a1) h hs hE c (i + 1) (by omega) (by omega)
      rw [Nat.mul_one] at this
      by_cases h0 : 0 < i
      · refine st_cT (decide_eq_true (by omega)) ?_
        have hp := hs.par hn h0
        rw [nds_getE hlt] at hp
        have hpt : l[i].n.par.toNat = parN (nds l) i := by omega
        have hck := ckF_le (nds l) i (parN (nds l) i)
        have hdb := dep_bound (l := nds l) (parN (nds l) i)
        refine st_bind (rdI_get (Cd.at0 _)) ?_
        refine st_if (by omega) ?_
        rw [hpt]
        refine st_bind (dps_at (by omega) (by omega)) ?_
        refine st_if (by omega) ?_
        refine st_if ⟨by first | rfl | trivial, by omega⟩ ?_
        refine st_bind (rdI_get (Cd.at0 _)) ?_
        refine st_if (by omega) ?_
        rw [hpt]
        refine st_bind (ifn_get (by omega)) ?_
        refine st_if (by omega) ?_
        refine st_if ⟨by first | rfl | trivial, by omega⟩ ?_
        have hd := dep_pos hs hn h0
        rw [wrap_succ (by omega), wrap_succ (by omega), show dep (nds l) (parN (nds l) i) + 1 = dep (nds l) i from hd.symm, ints_set, dps_set, wrap_id (by omega) (by omega), ckF_set h0]
        exact this
      · refine st_cF (decide_eq_false (by omega)) ?_
        obtain rfl : i = 0 := by omega
        rw [wrap_succ (by omega), dps_root, ckF_root]
        exact this
    · obtain rfl : i = l.length := by omega
      refine st_cF (decide_eq_false (by omega)) ?_
      simp only [Nat.mul_one] at hE
      exact hE

theorem Zk2 {m a0_0n : Nat} {a0_0c : Option Nat} {a0_0 : List D} {a1 : Int} {y0_11 : List D} {y0_12 : Int} {l : List Cd} (h : CdsB l) (hs : Shape (nds l)) {cp : Option Nat} {r : Option D} (hE : (Z23 m m a0_0n a0_0c a0_0 a1 (IntKind.wrap .i64 ((((l.length) : Nat) : Int) - (1 : Int))) (l.length) cp (cdsC l) (l.length) cp (cdsC l) (l.length * 1) (ints (dps (nds l) l.length l.length)) (l.length * 1) (ifn (ckF (nds l) l.length) l.length) (l.length * 1) y0_11 (l.length) cp (cdsC l) y0_12 (l.length) (l.length) (l.length) (l.length) (l.length) (l.length)) = r) : ∀ (c i : Nat), l.length - i < c → i ≤ l.length →
    Z2n m c a0_0n a0_0c a0_0 a1 l.length cp (cdsC l) (l.length : Int) (i : Int) l.length cp (cdsC l) (l.length * 1) (ints (dps (nds l) i l.length)) (ifn (ckF (nds l) i) l.length) y0_11 y0_12 l.length = r
  | 0, i, hc, hi => by omega
  | c + 1, i, hc, hi => by
    have hB := h.len
    have hl := cdsC_len h.ok
    rw [Zfo]
    simp only [Int.toNat_natCast, Nat.zero_add, Nat.mul_one]
    by_cases hlt : i < l.length
    · have hok := h.ok _ (List.getElem_mem hlt)
      have hn : i < (nds l).length := by rw [nds_len]; exact hlt
      rw [cdsC_get h.ok hlt]
      refine st_cT (decide_eq_true (by omega)) ?_
      refine st_if (by omega) ?_
      refine st_if (by omega) ?_
      refine st_if (Cd.cells_len hok) ?_
      have := Zk2 (a0_0n := a0_0n) (a0_0c := a0_0c) (a0_0 := a0_0) (a1 := a1) h hs hE c (i + 1) (by omega) (by omega)
      rw [Nat.mul_one] at this
      by_cases h0 : 0 < i
      · refine st_cT (decide_eq_true (by omega)) ?_
        have hp := hs.par hn h0
        rw [nds_getE hlt] at hp
        have hpt : l[i].n.par.toNat = parN (nds l) i := by omega
        have hck := ckF_le (nds l) i (parN (nds l) i)
        have hdb := dep_bound (l := nds l) (parN (nds l) i)
        refine st_bind (rdI_get (Cd.at0 _)) ?_
        refine st_if (by omega) ?_
        rw [hpt]
        refine st_bind (dps_at (by omega) (by omega)) ?_
        refine st_if (by omega) ?_
        refine st_if ⟨by first | rfl | trivial, by omega⟩ ?_
        refine st_bind (rdI_get (Cd.at0 _)) ?_
        refine st_if (by omega) ?_
        rw [hpt]
        refine st_bind (ifn_get (by omega)) ?_
        refine st_if (by omega) ?_
        refine st_if ⟨by first | rfl | trivial, by omega⟩ ?_
        have hd := dep_pos hs hn h0
        rw [wrap_succ (by omega), wrap_succ (by omega), show dep (nds l) (parN (nds l) i) + 1 = dep (nds l) i from hd.symm, ints_set, dps_set, wrap_id (by omega) (by omega), ckF_set h0]
        exact this
      · refine st_cF (decide_eq_false (by omega)) ?_
        obtain rfl : i = 0 := by omega
        rw [wrap_succ (by omega), dps_root, ckF_root]
        exact this
    · obtain rfl : i = l.length := by omega
      refine st_cF (decide_eq_false (by omega)) ?_
      simp only [Nat.mul_one] at hE
      exact hE
end Go.Ev

/-
  The childless nodes of a plan.
-/
set_option linter.unusedSimpArgs false
set_option linter.unusedVariables false
set_option maxRecDepth 100000
namespace Go.Ev
open Go

def tt : Nat → Bool := fun _ => true
def kiF (N : List Nd) (A : Nat → Bool) (j : Nat) : Int := (kids N A j : Int)
theorem ck_ki (l : List Cd) : ifn (ckF (nds l) l.length) l.length = ifn (kiF (nds l) tt) l.length := ifn_congr fun j _ => by
  unfold ckF kiF kids
  rw [nds_len]; rfl
theorem gone_tt (n : Nat) : (List.replicate n [D.v (.bool false)]).flatten = bfn (fun i => !tt i) n := bfn_rep n
/-- The childless nodes among the first. -/
def clI (N : List Nd) (A : Nat → Bool) (d i : Nat) : List Int := ((List.range i).filter (chl N A d)).map fun j : Nat => (j : Int)
theorem clI_succ (N : List Nd) (A : Nat → Bool) (d i : Nat) : clI N A d (i + 1) = if chl N A d i = true then clI N A d i ++ [(i : Int)] else clI N A d i := by
  unfold clI
  rw [List.range_succ, List.filter_append, List.map_append]
  by_cases h : chl N A d i = true
  · rw [if_pos h, List.filter_cons_of_pos h]; rfl
  · rw [if_neg h, List.filter_cons_of_neg h]; simp
theorem clI_len (N : List Nd) (A : Nat → Bool) (d : Nat) : ∀ i, (clI N A d i).length ≤ i := fun i => by
  unfold clI
  rw [List.length_map]
  exact Nat.le_trans (List.length_filter_le _ _) (by simp)
theorem ints_one (x : Int) : ints [x] = [.v (.int .i64 x)] := rfl
theorem chl_eq (N : List Nd) (A : Nat → Bool) (d i : Nat) : chl N A d i = (A i && (decide (dep N i < d) && decide (kids N A i = 0))) := by
  unfold chl
  have : decide (kids N A i = 0) = !kid N A i := by
    cases h : kid N A i with
    | true => exact decide_eq_false (fun q => by rw [kids_zero, h] at q; cases q)
    | false => exact decide_eq_true (kids_zero.2 h)
  rw [this, Bool.and_assoc]

theorem list_Childless {m a0_0n : Nat} {a0_0c : Option Nat} {a0_0 : List D} {a1 : Int} {y1_3 : Nat} {y1_4 : Option Nat} {y1_5 : List D} {y1_6 : Nat} {y1_7 : Option Nat} {y1_8 : List D} {n : Nat} {N : List Nd} {A : Nat → Bool} {d : Nat} (hn : n < 100000) : ∀ (c i : Nat), n - i < c → i ≤ n →
    Zv m c a0_0n a0_0c a0_0 a1 ((clI N A d i).length) (n : Int) (i : Int) y1_3 y1_4 y1_5 y1_6 y1_7 y1_8 (n * 1) (ints (dps N n n)) (ifn (kiF N A) n) (bfn (fun j => !A j) n) (d : Int) n ((clI N A d i).length * 1) (ints (clI N A d i)) =
    some (.tup [.list (clI N A d n).length (some (clI N A d n).length) (ints (clI N A d n)), .v (.int .i64 0)])
  | 0, i, hc, hi => by omega
  | c + 1, i, hc, hi => by
    have hcl := clI_len N A d i
    rw [Zak]
    simp only [Int.toNat_natCast, Nat.zero_add, Nat.mul_one]
    by_cases hlt : i < n
    · have ih := list_Childless (a0_0n := a0_0n) (a0_0c := a0_0c) (a0_0 := a0_0) (a1 := a1) (y1_3 := y1_3) (y1_4 := y1_4) (y1_5 := y1_5) (y1_6 := y1_6) (y1_7 := y1_7) (y1_8 := y1_8) (m := m) (N := N) (A := A) (d := d) hn c (i + 1) (by omega) (by omega)
      rw [clI_succ, chl_eq] at ih
      simp only [Nat.mul_one] at ih
      refine st_cT (decide_eq_true (by omega)) ?_
      refine st_if (by omega) ?_
      refine st_bind (bfn_get hlt) ?_
      rw [wrap_succ (by omega), Bool.not_not]
      cases ha : A i with
      | false =>
        refine st_cF rfl ?_
        rw [ha] at ih
        exact ih
      | true =>
        refine st_cT rfl ?_
        refine st_if (by omega) ?_
        refine st_bind (dps_at hlt hlt) ?_
        by_cases hd : dep N i < d
        · refine st_cT (decide_eq_true (by omega)) ?_
          refine st_if (by omega) ?_
          refine st_bind (ifn_get hlt) ?_
          by_cases hk : kids N A i = 0
          · refine st_cT (i_eq (by unfold kiF; omega)) ?_
            refine st_if ⟨rfl, by first | rfl | trivial, by constructor <;> omega, by first | rfl | trivial⟩ ?_
            rw [ha, decide_eq_true hd, decide_eq_true hk, if_pos (by decide), List.length_append, List.length_singleton, ints_append, ints_one] at ih
            exact ih
          · refine st_cF (i_ne (by unfold kiF; omega)) ?_
            rw [decide_eq_false hk, Bool.and_false, Bool.and_false, if_neg (by decide)] at ih
            exact ih
        · refine st_cF (decide_eq_false (by omega)) ?_
          rw [decide_eq_false hd, Bool.false_and, Bool.and_false, if_neg (by decide)] at ih
          exact ih
    · obtain rfl : i = n := by omega
      have hil := ints_len (clI N A d i)
      refine st_cF (decide_eq_false (by omega)) ?_
      refine st_if (by omega) ?_
      rw [cutL_all hil]
      refine st_bind (Zqm (by omega) none) ?_
      refine st_bind (rdL_v _ _ _) ?_
      refine st_if (by omega) ?_
      refine st_if (by omega) ?_
      rfl

/-- The error of a plan: of the tree, then of the depth. -/
def planE (N : List Nd) (d : Int) : Int := if treeErr N ≠ 0 then treeErr N else if d < 0 ∨ 64 < d then 1 else 0
theorem planE_tree {N : List Nd} {d : Int} (h : treeErr N ≠ 0) : planE N d = treeErr N := if_pos h
theorem planE_deep {N : List Nd} {d : Int} (h : treeErr N = 0) (hd : d < 0 ∨ 64 < d) : planE N d = 1 := by unfold planE; rw [if_neg (by simp [h]), if_pos hd]
theorem planE_ok {N : List Nd} {d : Int} (h : treeErr N = 0) (hd : ¬ (d < 0 ∨ 64 < d)) : planE N d = 0 := by unfold planE; rw [if_neg (by simp [h]), if_neg hd]
theorem tree_shape {l : List Cd} (h : CdsOk l) (he : treeErr (nds l) = 0) : Shape (nds l) := ((valid_iff h.nds).1 he).shape
theorem Zey {l : List Cd} (h : CdsB l) (cp : Option Nat) (d : Int) : Zf [.agg [.list l.length cp (cdsC l)], .v (.int .i64 d)] =
    some (if planE (nds l) d ≠ 0 then .tup [.list 0 (some 0) [], .v (.int .i64 (planE (nds l) d))] else .tup [.list (clI (nds l) tt d.toNat l.length).length (some (clI (nds l) tt d.toNat l.length).length) (ints (clI (nds l) tt d.toNat l.length)), .v (.int .i64 0)]) := by
  show Z8l M l.length cp (cdsC l) d = _
  unfold Z8l
  have hB := h.len
  refine st_bind (Zi5 h cp) ?_
  refine st_bind (rdI_v _ _) ?_
  by_cases he : treeErr (nds l) = 0
  · refine st_cF (i_bnf he) ?_
    by_cases h1 : d < 0
    · refine st_cT (decide_eq_true h1) ?_
      rw [planE_deep he (.inl h1), if_pos (by decide)]
    · refine st_cF (decide_eq_false h1) ?_
      by_cases h2 : 64 < d
      · refine st_cT (decide_eq_true h2) ?_
        rw [planE_deep he (.inr h2), if_pos (by decide)]
      · refine st_cF (decide_eq_false h2) ?_
        rw [planE_ok he (by omega), if_neg (by decide)]
        have hs : Shape (nds l) := tree_shape h.ok he
        rw [Zc9]
        simp only [Int.toNat_natCast]
        refine st_if ⟨by omega, by omega, by constructor <;> omega⟩ ?_
        refine st_if ⟨by omega, by omega, by constructor <;> omega⟩ ?_
        refine st_if ⟨by omega, by omega, by constructor <;> omega⟩ ?_
        have e1 : (List.replicate l.length [D.v (.int .i64 0)]).flatten = ints (dps (nds l) 0 l.length) := by rw [rep_ints, dps_zero]
        have e2 : (List.replicate l.length [D.v (.int .i64 0)]).flatten = ifn (ckF (nds l) 0) l.length := by rw [ifn_rep]; exact ifn_congr fun j _ => rfl
        rw [gone_tt]
        conv => lhs; arg 16; rw [e1]
        conv => lhs; arg 17; rw [e2]
        refine Zff h hs ?_ M 0 (by unfold M; omega) (by omega)
        rw [ck_ki]
        obtain ⟨k, rfl⟩ : ∃ k : Nat, d = (k : Int) := ⟨d.toNat, by omega⟩
        rw [Int.toNat_natCast]
        exact list_Childless (N := nds l) (A := tt) (d := k) hB M 0 (by unfold M; omega) (by omega)
  · refine st_cT (i_bne he) ?_
    refine st_cT (i_bne he) ?_
    rw [planE_tree he, if_pos he]
end Go.Ev

/-
  Plans carried out: all childless nodes removed, one after another.
-/
set_option linter.unusedSimpArgs false
set_option linter.unusedVariables false
set_option maxRecDepth 100000
namespace Go.Ev
open Go

theorem gone_set {A : Nat → Bool} {n k : Nat} : (bfn (fun j => !A j) n).set k (.v (.bool true)) = bfn (fun j => !del A k j) n := by
  rw [bfn_set]
  refine bfn_congr fun j _ => ?_
  unfold del
  by_cases e : j = k
  · rw [if_pos e]; simp [e]
  · rw [if_neg e]; simp [e]
theorem ki_set {l : List Cd} {A : Nat → Bool} {k : Nat} (h0 : 0 < k) (hk : k < l.length) (ha : A k = true) : (ifn (kiF (nds l) A) l.length).set (parN (nds l) k) (.v (.int .i64 (kiF (nds l) A (parN (nds l) k) - 1))) = ifn (kiF (nds l) (del A k)) l.length := by
  rw [ifn_set]
  refine ifn_congr fun j _ => ?_
  have := kids_del (l := nds l) h0 (by rw [nds_len]; exact hk) ha j
  unfold kiF
  by_cases e : j = parN (nds l) k
  · subst e; rw [if_pos rfl] at this ⊢; omega
  · rw [if_neg e]; rw [if_neg (fun q => e q.symm)] at this; omega
theorem ki_root {l : List Cd} {A : Nat → Bool} : ifn (kiF (nds l) A) l.length = ifn (kiF (nds l) (del A 0)) l.length := ifn_congr fun j _ => by
  unfold kiF; rw [kids_del_root]
theorem kids_le {N : List Nd} {A : Nat → Bool} (i : Nat) : kids N A i ≤ N.length := cntK_le _
theorem kids_one {l : List Cd} {A : Nat → Bool} {k : Nat} (h0 : 0 < k) (hk : k < l.length) (ha : A k = true) : 1 ≤ kids (nds l) A (parN (nds l) k) := by
  have := kids_del (l := nds l) h0 (by rw [nds_len]; exact hk) ha (parN (nds l) k)
  rw [if_pos rfl] at this; omega
theorem cdsC_par' {l : List Cd} (h : CdsOk l) {i : Nat} (hi : i < l.length) : rdI .i64 (cdsC l)[i * 20 + 0]? = some l[i].n.par := by
  rw [Nat.add_zero, cdsC_par h hi]; exact rdI_v _ _

theorem Zma {m a0_0n : Nat} {a0_0c : Option Nat} {a0_0 : List D} {a1 : Int} {y1_1 : Nat} {y1_2 : Option Nat} {y1_3 : List D} {y1_4 : Nat} {y1_5 : Option Nat} {y1_6 : List D} {y1_18 y1_20 y1_22 : Nat} {l : List Cd} (h : CdsB l) (hs : Shape (nds l)) {cp : Option Nat} {d : Nat} {r : Option D} : ∀ (c i : Nat) (A : Nat → Bool), i < c → i ≤ l.length →
    (Z1h m m a0_0n a0_0c a0_0 a1 0 (l.length) y1_22 (((l.length) : Nat) : Int) (0 : Int) y1_1 y1_2 y1_3 y1_4 y1_5 y1_6 (l.length * 1) (ints (dps (nds l) l.length l.length)) (l.length * 1) (ifn (kiF (nds l) (sweep (nds l) d i A)) l.length) (l.length * 1) (bfn (fun j => !(sweep (nds l) d i A) j) l.length) (l.length) cp (cdsC l) ((d : Int)) (l.length) y1_18 (l.length) y1_20 0 []) = r →
    Z21 m c a0_0n a0_0c a0_0 a1 ((i : Int) - 1) y1_1 y1_2 y1_3 y1_4 y1_5 y1_6 (l.length * 1) (ints (dps (nds l) l.length l.length)) (l.length * 1) (ifn (kiF (nds l) A) l.length) (l.length * 1) (bfn (fun j => !A j) l.length) l.length cp (cdsC l) (d : Int) l.length y1_18 l.length y1_20 l.length y1_22 = r
  | 0, i, A, hc, hi, hE => by omega
  | c + 1, i, A, hc, hi, hE => by
    have hB := h.len
    have hl := cdsC_len h.ok
    rw [Zdr]
    match i, hi, hE with
    | 0, hi, hE =>
      refine st_cF (decide_eq_false (by omega)) ?_
      exact hE
    | k + 1, hi, hE =>
      have hlt : k < l.length := by omega
      have hn : k < (nds l).length := by rw [nds_len]; exact hlt
      have e0 : ((k + 1 : Nat) : Int) - 1 = (k : Int) := by omega
      rw [e0]
      simp only [Int.toNat_natCast, Nat.zero_add, Nat.mul_one]
      have j2 : ∀ B, B = (if chl (nds l) A d k = true then del A k else A) → Z16 m c a0_0n a0_0c a0_0 a1 (k : Int) y1_1 y1_2 y1_3 y1_4 y1_5 y1_6 (l.length * 1) (ints (dps (nds l) l.length l.length)) (l.length * 1) (ifn (kiF (nds l) B) l.length) (l.length * 1) (bfn (fun j => !B j) l.length) l.length cp (cdsC l) (d : Int) l.length y1_18 l.length y1_20 l.length y1_22 = r := fun B hB' => by
        subst hB'
        rw [Zd4, wrap_id (by omega) (by omega)]
        exact Zma (a0_0n := a0_0n) (a0_0c := a0_0c) (a0_0 := a0_0) (a1 := a1) h hs c k _ (by omega) (by omega) hE
      have hch := chl_eq (nds l) A d k
      simp only [Nat.mul_one] at j2
      refine st_cT (decide_eq_true (by omega)) ?_
      refine st_if (by omega) ?_
      refine st_bind (bfn_get hlt) ?_
      cases ha : A k with
      | false =>
        refine st_cF rfl ?_
        exact j2 A (by rw [hch, ha]; rfl)
      | true =>
        refine st_cT rfl ?_
        refine st_if (by omega) ?_
        refine st_bind (dps_at hlt hlt) ?_
        by_cases hd : dep (nds l) k < d
        · refine st_cT (decide_eq_true (by omega)) ?_
          refine st_if (by omega) ?_
          refine st_bind (ifn_get hlt) ?_
          by_cases hk : kids (nds l) A k = 0
          · have hc1 : chl (nds l) A d k = true := by rw [hch, ha, decide_eq_true hd, decide_eq_true hk]; rfl
            refine st_cT (i_eq (by unfold kiF; omega)) ?_
            refine st_if (by omega) ?_
            refine st_if ⟨by first | rfl | trivial, by omega⟩ ?_
            have := j2 (del A k) (by rw [if_pos hc1])
            rw [gone_set]
            by_cases h0 : 0 < k
            · refine st_cT (decide_eq_true (by omega)) ?_
              have hp := hs.par hn h0
              rw [nds_getE hlt] at hp
              have hpt : l[k].n.par.toNat = parN (nds l) k := by omega
              have hko := kids_one h0 hlt ha
              have hkl := kids_le (N := nds l) (A := A) (parN (nds l) k)
              rw [nds_len] at hkl
              refine st_if (by omega) ?_
              refine st_bind (cdsC_par' h.ok hlt) ?_
              refine st_if (by omega) ?_
              rw [hpt]
              refine st_bind (ifn_get (by omega)) ?_
              refine st_if (by omega) ?_
              refine st_if ⟨by first | rfl | trivial, by omega⟩ ?_
              rw [wrap_id (by unfold kiF; omega) (by unfold kiF; omega), ki_set h0 hlt ha]
              exact this
            · refine st_cF (decide_eq_false (by omega)) ?_
              obtain rfl : k = 0 := by omega
              rw [← ki_root] at this
              exact this
          · refine st_cF (i_ne (by unfold kiF; omega)) ?_
            exact j2 A (by rw [hch, decide_eq_false hk, Bool.and_false, Bool.and_false]; rfl)
        · refine st_cF (decide_eq_false (by omega)) ?_
          exact j2 A (by rw [hch, decide_eq_false hd, Bool.false_and, Bool.and_false]; rfl)

theorem Zmb {m a0_0n : Nat} {a0_0c : Option Nat} {a0_0 : List D} {a1 : Int} {y1_1 : Nat} {y1_2 : Option Nat} {y1_3 : List D} {y1_4 : Nat} {y1_5 : Option Nat} {y1_6 : List D} {y1_18 y1_20 y1_22 : Nat} {l : List Cd} (h : CdsB l) (hs : Shape (nds l)) {cp : Option Nat} {d : Nat} {r : Option D} : ∀ (c i : Nat) (A : Nat → Bool), i < c → i ≤ l.length →
    (Z1c m m (l.length) y1_22 (((l.length) : Nat) : Int) (0 : Int) y1_1 y1_2 y1_3 y1_4 y1_5 y1_6 (l.length * 1) (ints (dps (nds l) l.length l.length)) (l.length * 1) (ifn (kiF (nds l) (sweep (nds l) d i A)) l.length) (l.length * 1) (bfn (fun j => !(sweep (nds l) d i A) j) l.length) (l.length) cp (cdsC l) ((d : Int)) (l.length) y1_18 (l.length) y1_20 0 0 []) = r →
    Z23 m c a0_0n a0_0c a0_0 a1 ((i : Int) - 1) y1_1 y1_2 y1_3 y1_4 y1_5 y1_6 (l.length * 1) (ints (dps (nds l) l.length l.length)) (l.length * 1) (ifn (kiF (nds l) A) l.length) (l.length * 1) (bfn (fun j => !A j) l.length) l.length cp (cdsC l) (d : Int) l.length y1_18 l.length y1_20 l.length y1_22 = r
  | 0, i, A, hc, hi, hE => by omega
  | c + 1, i, A, hc, hi, hE => by
    have hB := h.len
    have hl := cdsC_len h.ok
    rw [Zdt]
    match i, hi, hE with
    | 0, hi, hE =>
      refine st_cF (decide_eq_false (by omega)) ?_
      exact hE
    | k + 1, hi, hE =>
      have hlt : k < l.length := by omega
      have hn : k < (nds l).length := by rw [nds_len]; exact hlt
      have e0 : ((k + 1 : Nat) : Int) - 1 = (k : Int) := by omega
      rw [e0]
      simp only [Int.toNat_natCast, Nat.zero_add, Nat.mul_one]
      have j2 : ∀ B, B = (if chl (nds l) A d k = true then del A k else A) → Z17 m c a0_0n a0_0c a0_0 a1 (k : Int) y1_1 y1_2 y1_3 y1_4 y1_5 y1_6 (l.length * 1) (ints (dps (nds l) l.length l.length)) (l.length * 1) (ifn (kiF (nds l) B) l.length) (l.length * 1) (bfn (fun j => !B j) l.length) l.length cp (cdsC l) (d : Int) l.length y1_18 l.length y1_20 l.length y1_22 = r := fun B hB' => by
        subst hB'
        rw [Zd7, wrap_id (by omega) (by omega)]
        exact Zmb (a0_0n := a0_0n) (a0_0c := a0_0c) (a0_0 := a0_0) (a1 := a1) h hs c k _ (by omega) (by omega) hE
      have hch := chl_eq (nds l) A d k
      simp only [Nat.mul_one] at j2
      refine st_cT (decide_eq_true (by omega)) ?_
      refine st_if (by omega) ?_
      refine st_bind (bfn_get hlt) ?_
      cases ha : A k with
      | false =>
        refine st_cF rfl ?_
        exact j2 A (by rw [hch, ha]; rfl)
      | true =>
        refine st_cT rfl ?_
        refine st_if (by omega) ?_
        refine st_bind (dps_at hlt hlt) ?_
        by_cases hd : dep (nds l) k < d
        · refine st_cT (decide_eq_true (by omega)) ?_
          refine st_if (by omega) ?_
          refine st_bind (ifn_get hlt) ?_
          by_cases hk : kids (nds l) A k = 0
          · have hc1 : chl (nds l) A d k = true := by rw [hch, ha, decide_eq_true hd, decide_eq_true hk]; rfl
            refine st_cT (i_eq (by unfold kiF; omega)) ?_
            refine st_if (by omega) ?_
            refine st_if ⟨by first | rfl | trivial, by omega⟩ ?_
            have := j2 (del A k) (by rw [if_pos hc1])
            rw [gone_set]
            by_cases h0 : 0 < k
            · refine st_cT (decide_eq_true (by omega)) ?_
              have hp := hs.par hn h0
              rw [nds_getE hlt] at hp
              have hpt : l[k].n.par.toNat = parN (nds l) k := by omega
              have hko := kids_one h0 hlt ha
              have hkl := kids_le (N := nds l) (A := A) (parN (nds l) k)
              rw [nds_len] at hkl
              refine st_if (by omega) ?_
              refine st_bind (cdsC_par' h.ok hlt) ?_
              refine st_if (by omega) ?_
              rw [hpt]
              refine st_bind (ifn_get (by omega)) ?_
              refine st_if (by omega) ?_
              refine st_if ⟨by first | rfl | trivial, by omega⟩ ?_
              rw [wrap_id (by unfold kiF; omega) (by unfold kiF; omega), ki_set h0 hlt ha]
              exact this
            · refine st_cF (decide_eq_false (by omega)) ?_
              obtain rfl : k = 0 := by omega
              rw [← ki_root] at this
              exact this
          · refine st_cF (i_ne (by unfold kiF; omega)) ?_
            exact j2 A (by rw [hch, decide_eq_false hk, Bool.and_false, Bool.and_false]; rfl)
        · refine st_cF (decide_eq_false (by omega)) ?_
          exact j2 A (by rw [hch, decide_eq_false hd, Bool.false_and, Bool.and_false]; rfl)
end Go.Ev

/-
  What is left of a plan: the nodes that are gone, deleted.
-/
set_option linter.unusedSimpArgs false
set_option linter.unusedVariables false
set_option maxRecDepth 100000
namespace Go.Ev
open Go

/-- The nodes that are gone, among the first. -/
def goI (A : Nat → Bool) (i : Nat) : List Int := ((List.range i).filter fun j => !A j).map fun j : Nat => (j : Int)
theorem goI_succ (A : Nat → Bool) (i : Nat) : goI A (i + 1) = if A i = false then goI A i ++ [(i : Int)] else goI A i := by
  unfold goI
  rw [List.range_succ, List.filter_append, List.map_append]
  cases h : A i with
  | false => rw [if_pos rfl, List.filter_cons_of_pos (by rw [h]; rfl)]; rfl
  | true => rw [if_neg (by decide), List.filter_cons_of_neg (by rw [h]; decide)]; simp
theorem goI_len (A : Nat → Bool) (i : Nat) : (goI A i).length ≤ i := by
  unfold goI
  rw [List.length_map]
  exact Nat.le_trans (List.length_filter_le _ _) (by simp)
theorem goI_mem {A : Nat → Bool} {n : Nat} {x : Int} : x ∈ goI A n ↔ ∃ j : Nat, j < n ∧ A j = false ∧ x = (j : Int) := by
  unfold goI
  simp only [List.mem_map, List.mem_filter, List.mem_range, Bool.not_eq_true']
  exact ⟨fun ⟨j, ⟨h1, h2⟩, h3⟩ => ⟨j, h1, h2, h3.symm⟩, fun ⟨j, h1, h2, h3⟩ => ⟨j, ⟨h1, h2⟩, h3.symm⟩⟩
theorem goI_has {A : Nat → Bool} {n i : Nat} (h : i < n) : (goI A n).contains (i : Int) = !A i := by
  cases ha : A i with
  | false =>
    rw [List.contains_iff_mem.2 (goI_mem.2 ⟨i, h, ha, rfl⟩)]; rfl
  | true =>
    cases hc : (goI A n).contains (i : Int) with
    | false => rfl
    | true =>
      obtain ⟨j, _, hj, e⟩ := goI_mem.1 (List.contains_iff_mem.1 hc)
      obtain rfl : i = j := by omega
      rw [ha] at hj; cases hj
theorem lc_congr {l : List Cd} {A B : Nat → Bool} (h : ∀ i, i < l.length → A i = B i) (hp : ∀ n, n ∈ nds l → n.par < (l.length : Int)) : ∀ i, i ≤ l.length → lc l A i = lc l B i
  | 0, _ => rfl
  | i + 1, hi => by
    have hlt : i < l.length := by omega
    rw [lc_succ hlt, lc_succ hlt, lc_congr h hp i (by omega), h i hlt]
    have hm : mv (nds l) A l[i].n = mv (nds l) B l[i].n := by
      have := hp l[i].n (by unfold nds; exact List.mem_map.2 ⟨_, List.getElem_mem hlt, rfl⟩)
      unfold mv
      split
      · rfl
      · rw [rk_congr (A := A) (B := B) (fun j hj => h j (by omega))]
    rw [hm]
theorem leftC_congr {l : List Cd} {A B : Nat → Bool} (h : ∀ i, i < l.length → A i = B i) (hs : Shape (nds l)) : leftC l A = leftC l B :=
  lc_congr h (fun n hn => by have := hs.par_lt n hn; rw [nds_len] at this; exact this) _ (Nat.le_refl _)
theorem Zny {l : List Cd} (h : CdsB l) (he : treeErr (nds l) = 0) {A : Nat → Bool} (hu : Up (nds l) A) (cp : Option Nat) :
    Z1l [.agg [.list l.length cp (cdsC l)], .list (goI A l.length).length none (ints (goI A l.length))] = some (delD (leftC l A)) := by
  have hB := h.len
  have hs := tree_shape h.ok he
  have hgl := goI_len A l.length
  rw [Zvd h he hs (by omega) (fun x hx => by obtain ⟨j, hj, _, rfl⟩ := goI_mem.1 hx; omega)]
  rw [leftC_congr (A := kpF l (goI A l.length)) (B := A) (fun i hi => ?_) hs]
  unfold kpF
  rw [und_gone hs hu (fun j hj => goI_has (by rw [nds_len] at hj; exact hj)) i (by rw [nds_len]; exact hi), Bool.not_not]

theorem Zez {m : Nat} {u2_0 x17 : Int} {y1_2 y1_5 : Nat} {y1_6 : Option Nat} {y1_7 : List D} {y1_8 : Nat} {y1_9 : Option Nat} {y1_10 : List D} {y1_11 : Nat} {y1_12 : List D} {y1_13 : Nat} {y1_14 : List D} {y1_15 y1_17 : Nat} {y1_18 : Option Nat} {y1_19 : List D} {y1_20 : Int} {y1_21 y1_22 y1_23 y1_24 : Nat} {n : Nat} {A : Nat → Bool} (hn : n < 100000) {r : Option D} (hE : (if (0 + (((goI A n).length) * 1)) ≤ ((goI A n).length * 1) then
 (Z1l [(D.agg [(D.list y1_17 y1_18 y1_19)]), (D.list ((goI A n).length) none (cutL ((goI A n).length * 1) (ints (goI A n)) 0 (((goI A n).length) * 1)))]).bind fun d23 =>
 (rdT d23).bind fun r24 =>
 if List.length r24 = 2 then
 (rdA r24[0]?).bind fun c25 =>
 (rdI .i64 r24[1]?).bind fun x26 =>
 if (0 + (((goI A n).length) * 1)) ≤ ((goI A n).length * 1) then
 if (0 + (((goI A n).length) * 1)) ≤ ((goI A n).length * 1) then
 if (List.length c25) = 1 then
 if (List.length c25) = 1 then
 if (List.length c25) = 1 then
 some (D.tup [(D.agg c25), (D.v (.int .i64 (0 : Int)))])
 else none
 else none
 else none
 else none
 else none
 else none
 else none) = r) : ∀ (c i : Nat), n - i < c → i ≤ n →
    Z1e m c u2_0 x17 ((goI A i).length) n y1_2 (n : Int) (i : Int) y1_5 y1_6 y1_7 y1_8 y1_9 y1_10 y1_11 y1_12 y1_13 y1_14 y1_15 (bfn (fun j => !A j) n) y1_17 y1_18 y1_19 y1_20 y1_21 y1_22 y1_23 y1_24 ((goI A i).length * 1) (ints (goI A i)) = r
  | 0, i, hc, hi => by omega
  | c + 1, i, hc, hi => by
    have hgl := goI_len A i
    rw [Zcb]
    by_cases hlt : i < n
    · have ih := Zez (m := m) (u2_0 := u2_0) (x17 := x17) (y1_2 := y1_2) (y1_5 := y1_5) (y1_6 := y1_6) (y1_7 := y1_7) (y1_8 := y1_8) (y1_9 := y1_9) (y1_10 := y1_10) (y1_11 := y1_11) (y1_12 := y1_12) (y1_13 := y1_13) (y1_14 := y1_14) (y1_15 := y1_15) (y1_17 := y1_17) (y1_18 := y1_18) (y1_19 := y1_19) (y1_20 := y1_20) (y1_21 := y1_21) (y1_22 := y1_22) (y1_23 := y1_23) (y1_24 := y1_24) hn hE c (i + 1) (by omega) (by omega)
      rw [goI_succ] at ih
      simp only [Int.toNat_natCast, Nat.zero_add, Nat.mul_one]
      simp only [Nat.mul_one] at ih
      refine st_cT (decide_eq_true (by omega)) ?_
      refine st_if (by omega) ?_
      refine st_bind (bfn_get hlt) ?_
      rw [wrap_succ (by omega)]
      cases ha : A i with
      | false =>
        refine st_cT rfl ?_
        refine st_if ⟨rfl, by first | rfl | trivial, by constructor <;> omega, by first | rfl | trivial⟩ ?_
        rw [ha, if_pos rfl, List.length_append, List.length_singleton, ints_append, ints_one] at ih
        exact ih
      | true =>
        refine st_cF rfl ?_
        rw [ha, if_neg (by decide)] at ih
        exact ih
    · obtain rfl : i = n := by omega
      refine st_cF (decide_eq_false (by omega)) ?_
      exact hE

theorem Zl4 {m a0_0n : Nat} {a0_0c : Option Nat} {a0_0 : List D} {a1 : Int} {y2_2 y2_5 : Nat} {y2_6 : Option Nat} {y2_7 : List D} {y2_8 : Nat} {y2_9 : Option Nat} {y2_10 : List D} {y2_11 : Nat} {y2_12 : List D} {y2_13 : Nat} {y2_14 : List D} {y2_15 y2_17 : Nat} {y2_18 : Option Nat} {y2_19 : List D} {y2_20 : Int} {y2_21 y2_22 y2_23 y2_24 : Nat} {n : Nat} {A : Nat → Bool} (hn : n < 100000) {r : Option D} (hE : (if (0 + (((goI A n).length) * 1)) ≤ ((goI A n).length * 1) then
 (Z1l [(D.agg [(D.list y2_17 y2_18 y2_19)]), (D.list ((goI A n).length) none (cutL ((goI A n).length * 1) (ints (goI A n)) 0 (((goI A n).length) * 1)))]).bind fun d33 =>
 (rdT d33).bind fun r34 =>
 if List.length r34 = 2 then
 (rdA r34[0]?).bind fun c35 =>
 (rdI .i64 r34[1]?).bind fun x36 =>
 if (0 + (((goI A n).length) * 1)) ≤ ((goI A n).length * 1) then
 if (0 + (((goI A n).length) * 1)) ≤ ((goI A n).length * 1) then
 if (List.length c35) = 1 then
 if (List.length c35) = 1 then
 if (List.length c35) = 1 then
 some (D.tup [(D.agg c35), (D.v (.int .i64 (0 : Int)))])
 else none
 else none
 else none
 else none
 else none
 else none
 else none) = r) : ∀ (c i : Nat), n - i < c → i ≤ n →
    Z1h m c a0_0n a0_0c a0_0 a1 ((goI A i).length) n y2_2 (n : Int) (i : Int) y2_5 y2_6 y2_7 y2_8 y2_9 y2_10 y2_11 y2_12 y2_13 y2_14 y2_15 (bfn (fun j => !A j) n) y2_17 y2_18 y2_19 y2_20 y2_21 y2_22 y2_23 y2_24 ((goI A i).length * 1) (ints (goI A i)) = r
  | 0, i, hc, hi => by omega
  | c + 1, i, hc, hi => by
    have hgl := goI_len A i
    rw [Zd5]
    by_cases hlt : i < n
    · have ih := Zl4 (m := m) (a0_0n := a0_0n) (a0_0c := a0_0c) (a0_0 := a0_0) (a1 := a1) (y2_2 := y2_2) (y2_5 := y2_5) (y2_6 := y2_6) (y2_7 := y2_7) (y2_8 := y2_8) (y2_9 := y2_9) (y2_10 := y2_10) (y2_11 := y2_11) (y2_12 := y2_12) (y2_13 := y2_13) (y2_14 := y2_14) (y2_15 := y2_15) (y2_17 := y2_17) (y2_18 := y2_18) (y2_19 := y2_19) (y2_20 := y2_20) (y2_21 := y2_21) (y2_22 := y2_22) (y2_23 := y2_23) (y2_24 := y2_24) hn hE c (i + 1) (by omega) (by omega)
      rw [goI_succ] at ih
      simp only [Int.toNat_natCast, Nat.zero_add, Nat.mul_one]
      simp only [Nat.mul_one] at ih
      refine st_cT (decide_eq_true (by omega)) ?_
      refine st_if (by omega) ?_
      refine st_bind (bfn_get hlt) ?_
      rw [wrap_succ (by omega)]
      cases ha : A i with
      | false =>
        refine st_cT rfl ?_
        refine st_if ⟨rfl, by first | rfl | trivial, by constructor <;> omega, by first | rfl | trivial⟩ ?_
        rw [ha, if_pos rfl, List.length_append, List.length_singleton, ints_append, ints_one] at ih
        exact ih
      | true =>
        refine st_cF rfl ?_
        rw [ha, if_neg (by decide)] at ih
        exact ih
    · obtain rfl : i = n := by omega
      refine st_cF (decide_eq_false (by omega)) ?_
      exact hE

theorem Ziz {m n0 y2_0 : Nat} {y2_1 : Option Nat} {y2_2 : List D} {y2_3 : Int} {q96 : Sl} {y4_2 y4_5 : Nat} {y4_6 : Option Nat} {y4_7 : List D} {y4_8 : Nat} {y4_9 : Option Nat} {y4_10 : List D} {y4_11 : Nat} {y4_12 : List D} {y4_13 : Nat} {y4_14 : List D} {y4_15 y4_17 : Nat} {y4_18 : Option Nat} {y4_19 : List D} {y4_20 : Int} {y4_21 y4_22 y4_23 y4_24 : Nat} {n : Nat} {A : Nat → Bool} (hn : n < 100000) {r : Option D} (hE : (if (0 + (((goI A n).length) * 1)) ≤ ((goI A n).length * 1) then
 (Z1l [(D.agg [(D.list y4_17 y4_18 y4_19)]), (D.list ((goI A n).length) none (cutL ((goI A n).length * 1) (ints (goI A n)) 0 (((goI A n).length) * 1)))]).bind fun d110 =>
 (rdT d110).bind fun r111 =>
 if List.length r111 = 2 then
 (rdA r111[0]?).bind fun c112 =>
 (rdI .i64 r111[1]?).bind fun x113 =>
 if (0 + (((goI A n).length) * 1)) ≤ ((goI A n).length * 1) then
 if (0 + (((goI A n).length) * 1)) ≤ ((goI A n).length * 1) then
 if (List.length c112) = 1 then
 if (List.length c112) = 1 then
 if (List.length c112) = 1 then
 some (D.tup [(D.agg c112), (D.v (.int .i64 y2_3)), (D.v (.int .i64 (0 : Int)))])
 else none
 else none
 else none
 else none
 else none
 else none
 else none) = r) : ∀ (c i : Nat), n - i < c → i ≤ n →
    Z1b m n0 c y2_0 y2_1 y2_2 y2_3 q96 ((goI A i).length) n y4_2 (n : Int) (i : Int) y4_5 y4_6 y4_7 y4_8 y4_9 y4_10 y4_11 y4_12 y4_13 y4_14 y4_15 (bfn (fun j => !A j) n) y4_17 y4_18 y4_19 y4_20 y4_21 y4_22 y4_23 y4_24 ((goI A i).length * 1) (ints (goI A i)) = r
  | 0, i, hc, hi => by omega
  | c + 1, i, hc, hi => by
    have hgl := goI_len A i
    rw [Zbu]
    by_cases hlt : i < n
    · have ih := Ziz (m := m) (n0 := n0) (y2_0 := y2_0) (y2_1 := y2_1) (y2_2 := y2_2) (y2_3 := y2_3) (q96 := q96) (y4_2 := y4_2) (y4_5 := y4_5) (y4_6 := y4_6) (y4_7 := y4_7) (y4_8 := y4_8) (y4_9 := y4_9) (y4_10 := y4_10) (y4_11 := y4_11) (y4_12 := y4_12) (y4_13 := y4_13) (y4_14 := y4_14) (y4_15 := y4_15) (y4_17 := y4_17) (y4_18 := y4_18) (y4_19 := y4_19) (y4_20 := y4_20) (y4_21 := y4_21) (y4_22 := y4_22) (y4_23 := y4_23) (y4_24 := y4_24) hn hE c (i + 1) (by omega) (by omega)
      rw [goI_succ] at ih
      simp only [Int.toNat_natCast, Nat.zero_add, Nat.mul_one]
      simp only [Nat.mul_one] at ih
      refine st_cT (decide_eq_true (by omega)) ?_
      refine st_if (by omega) ?_
      refine st_bind (bfn_get hlt) ?_
      rw [wrap_succ (by omega)]
      cases ha : A i with
      | false =>
        refine st_cT rfl ?_
        refine st_if ⟨rfl, by first | rfl | trivial, by constructor <;> omega, by first | rfl | trivial⟩ ?_
        rw [ha, if_pos rfl, List.length_append, List.length_singleton, ints_append, ints_one] at ih
        exact ih
      | true =>
        refine st_cF rfl ?_
        rw [ha, if_neg (by decide)] at ih
        exact ih
    · obtain rfl : i = n := by omega
      refine st_cF (decide_eq_false (by omega)) ?_
      exact hE

theorem Zh0 {m a0_0n : Nat} {a0_0c : Option Nat} {a0_0 : List D} {a1 : Int} {a2n : Nat} {a2c : Option Nat} {a2 : List D} {q25 : Sl} {y5_4 : Nat} {y5_5 : Option Nat} {y5_6 : List D} {y5_7 : Nat} {y5_8 : Option Nat} {y5_9 : List D} {y5_10 : Nat} {y5_11 y5_12 : List D} {y5_14 : Int} {n : Nat} {A : Nat → Bool} (hn : n < 100000) {r : Option D} (hE : (if (0 + (((goI A n).length) * 1)) ≤ ((goI A n).length * 1) then
 (Z1l [(D.agg [(D.list y5_7 y5_8 y5_9)]), (D.list ((goI A n).length) none (cutL ((goI A n).length * 1) (ints (goI A n)) 0 (((goI A n).length) * 1)))]).bind fun d403 =>
 (rdT d403).bind fun r404 =>
 if List.length r404 = 2 then
 (rdA r404[0]?).bind fun c405 =>
 (rdI .i64 r404[1]?).bind fun x406 =>
 if (0 + (((goI A n).length) * 1)) ≤ ((goI A n).length * 1) then
 if (0 + (((goI A n).length) * 1)) ≤ ((goI A n).length * 1) then
 if (List.length c405) = 1 then
 if (List.length c405) = 1 then
 if (List.length c405) = 1 then
 some (D.tup [(D.agg c405), (D.v (.int .i64 (0 : Int))), (D.v (.int .i64 (0 : Int)))])
 else none
 else none
 else none
 else none
 else none
 else none
 else none) = r) : ∀ (c i : Nat), n - i < c → i ≤ n →
    Z19 m c a0_0n a0_0c a0_0 a1 a2n a2c a2 q25 ((goI A i).length) n (n : Int) (i : Int) y5_4 y5_5 y5_6 y5_7 y5_8 y5_9 y5_10 y5_11 y5_12 (bfn (fun j => !A j) n) y5_14 ((goI A i).length * 1) (ints (goI A i)) = r
  | 0, i, hc, hi => by omega
  | c + 1, i, hc, hi => by
    have hgl := goI_len A i
    rw [Zan]
    by_cases hlt : i < n
    · have ih := Zh0 (m := m) (a0_0n := a0_0n) (a0_0c := a0_0c) (a0_0 := a0_0) (a1 := a1) (a2n := a2n) (a2c := a2c) (a2 := a2) (q25 := q25) (y5_4 := y5_4) (y5_5 := y5_5) (y5_6 := y5_6) (y5_7 := y5_7) (y5_8 := y5_8) (y5_9 := y5_9) (y5_10 := y5_10) (y5_11 := y5_11) (y5_12 := y5_12) (y5_14 := y5_14) hn hE c (i + 1) (by omega) (by omega)
      rw [goI_succ] at ih
      simp only [Int.toNat_natCast, Nat.zero_add, Nat.mul_one]
      simp only [Nat.mul_one] at ih
      refine st_cT (decide_eq_true (by omega)) ?_
      refine st_if (by omega) ?_
      refine st_bind (bfn_get hlt) ?_
      rw [wrap_succ (by omega)]
      cases ha : A i with
      | false =>
        refine st_cT rfl ?_
        refine st_if ⟨rfl, by first | rfl | trivial, by constructor <;> omega, by first | rfl | trivial⟩ ?_
        rw [ha, if_pos rfl, List.length_append, List.length_singleton, ints_append, ints_one] at ih
        exact ih
      | true =>
        refine st_cF rfl ?_
        rw [ha, if_neg (by decide)] at ih
        exact ih
    · obtain rfl : i = n := by omega
      refine st_cF (decide_eq_false (by omega)) ?_
      exact hE
end Go.Ev

/-
  Trees pruned at a depth.
-/
set_option linter.unusedSimpArgs false
set_option linter.unusedVariables false
set_option maxRecDepth 100000
namespace Go.Ev
open Go

theorem sweep_up {N : List Nd} (hs : Shape N) (d : Nat) : Up N (sweep N d N.length (fun _ => true)) := fun i hi h0 ha => by
  have hp := (hs.par hi h0).2
  rw [sweep_stays hs d _ hi] at ha
  rw [sweep_stays hs d _ (by omega)]
  exact stays_up hs d i hi h0 ha
def noT : D := .agg [.list 0 (some 0) []]
theorem Zqn {l : List Cd} (h : CdsB l) (cp : Option Nat) (d : Int) : Zq [.agg [.list l.length cp (cdsC l)], .v (.int .i64 d)] =
    some (if planE (nds l) d ≠ 0 then .tup [noT, .v (.int .i64 (planE (nds l) d))] else delD (leftC l (stays (nds l) d.toNat))) := by
  show Zfy M l.length cp (cdsC l) d = _
  unfold Zfy
  have hB := h.len
  refine st_bind (Zi5 h cp) ?_
  refine st_bind (rdI_v _ _) ?_
  by_cases he : treeErr (nds l) = 0
  · refine st_cF (i_bnf he) ?_
    by_cases h1 : d < 0
    · refine st_cT (decide_eq_true h1) ?_
      rw [planE_deep he (.inl h1), if_pos (by decide)]; rfl
    · refine st_cF (decide_eq_false h1) ?_
      by_cases h2 : 64 < d
      · refine st_cT (decide_eq_true h2) ?_
        rw [planE_deep he (.inr h2), if_pos (by decide)]; rfl
      · refine st_cF (decide_eq_false h2) ?_
        rw [planE_ok he (by omega), if_neg (by decide)]
        have hs : Shape (nds l) := tree_shape h.ok he
        rw [Zf7]
        simp only [Int.toNat_natCast]
        refine st_if ⟨by omega, by omega, by constructor <;> omega⟩ ?_
        refine st_if ⟨by omega, by omega, by constructor <;> omega⟩ ?_
        refine st_if ⟨by omega, by omega, by constructor <;> omega⟩ ?_
        have e1 : (List.replicate l.length [D.v (.int .i64 0)]).flatten = ints (dps (nds l) 0 l.length) := by rw [rep_ints, dps_zero]
        have e2 : (List.replicate l.length [D.v (.int .i64 0)]).flatten = ifn (ckF (nds l) 0) l.length := by rw [ifn_rep]; exact ifn_congr fun j _ => rfl
        rw [gone_tt]
        conv => lhs; arg 16; rw [e1]
        conv => lhs; arg 17; rw [e2]
        refine Zk1 h hs ?_ M 0 (by unfold M; omega) (by omega)
        rw [ck_ki]
        obtain ⟨k, rfl⟩ : ∃ k : Nat, d = (k : Int) := ⟨d.toNat, by omega⟩
        rw [Int.toNat_natCast, wrap_id (by omega) (by omega)]
        refine Zma (d := k) h hs M l.length tt (by unfold M; omega) (Nat.le_refl _) ?_
        refine Zl4 (n := l.length) (A := sweep (nds l) k l.length tt) hB ?_ M 0 (by unfold M; omega) (by omega)
        have hil := ints_len (goI (sweep (nds l) k l.length tt) l.length)
        refine st_if (by omega) ?_
        rw [Nat.mul_one, cutL_all hil]
        have hup := sweep_up hs k
        rw [nds_len] at hup
        refine st_bind (Zny h he hup cp) ?_
        refine st_bind rfl ?_
        refine st_if rfl ?_
        refine st_bind rfl ?_
        refine st_bind rfl ?_
        refine st_if (by omega) ?_
        refine st_if (by omega) ?_
        refine st_if rfl ?_
        refine st_if rfl ?_
        refine st_if rfl ?_
        have ec : leftC l (sweep (nds l) k l.length tt) = leftC l (stays (nds l) k) := leftC_congr (fun i hi => by have := sweep_stays hs k i (by rw [nds_len]; exact hi); rw [nds_len] at this; exact this) hs
        rw [← ec]
        rfl
  · refine st_cT (i_bne he) ?_
    refine st_cT (i_bne he) ?_
    rw [planE_tree he, if_pos he]; rfl
end Go.Ev

/-
  The nodes that stay; a node removed.
-/
set_option linter.unusedSimpArgs false
set_option linter.unusedVariables false
set_option maxRecDepth 100000
namespace Go.Ev
open Go

/-- Those of A among the first. -/
def inI (A : Nat → Bool) (i : Nat) : List Int := ((List.range i).filter A).map fun j : Nat => (j : Int)
theorem inI_succ (A : Nat → Bool) (i : Nat) : inI A (i + 1) = if A i = true then inI A i ++ [(i : Int)] else inI A i := by
  unfold inI
  rw [List.range_succ, List.filter_append, List.map_append]
  by_cases h : A i = true
  · rw [if_pos h, List.filter_cons_of_pos h]; rfl
  · rw [if_neg h, List.filter_cons_of_neg h]; simp
theorem inI_len (A : Nat → Bool) (i : Nat) : (inI A i).length ≤ i := by
  unfold inI
  rw [List.length_map]
  exact Nat.le_trans (List.length_filter_le _ _) (by simp)
theorem inI_congr {A B : Nat → Bool} {n : Nat} (h : ∀ i, i < n → A i = B i) : inI A n = inI B n := by
  unfold inI
  rw [List.filter_congr fun i hi => h i (List.mem_range.1 hi)]
theorem left_loop {m y2_1 y2_4 : Nat} {y2_5 : Option Nat} {y2_6 : List D} {y2_7 : Nat} {y2_8 : Option Nat} {y2_9 : List D} {y2_10 : Nat} {y2_11 : List D} {y2_12 : Nat} {y2_13 : List D} {y2_14 y2_16 : Nat} {y2_17 : Option Nat} {y2_18 : List D} {y2_19 : Int} {y2_20 y2_21 y2_22 y2_23 : Nat} {n : Nat} {A : Nat → Bool} (hn : n < 100000) : ∀ (c i : Nat), n - i < c → i ≤ n →
    Z1c m c n y2_1 (n : Int) (i : Int) y2_4 y2_5 y2_6 y2_7 y2_8 y2_9 y2_10 y2_11 y2_12 y2_13 y2_14 (bfn (fun j => !A j) n) y2_16 y2_17 y2_18 y2_19 y2_20 y2_21 y2_22 y2_23 ((inI A i).length) ((inI A i).length * 1) (ints (inI A i)) =
    some (.tup [.list (inI A n).length (some (inI A n).length) (ints (inI A n)), .v (.int .i64 0)])
  | 0, i, hc, hi => by omega
  | c + 1, i, hc, hi => by
    have hgl := inI_len A i
    rw [Zbw]
    by_cases hlt : i < n
    · have ih := left_loop (m := m) (y2_1 := y2_1) (y2_4 := y2_4) (y2_5 := y2_5) (y2_6 := y2_6) (y2_7 := y2_7) (y2_8 := y2_8) (y2_9 := y2_9) (y2_10 := y2_10) (y2_11 := y2_11) (y2_12 := y2_12) (y2_13 := y2_13) (y2_14 := y2_14) (y2_16 := y2_16) (y2_17 := y2_17) (y2_18 := y2_18) (y2_19 := y2_19) (y2_20 := y2_20) (y2_21 := y2_21) (y2_22 := y2_22) (y2_23 := y2_23) (A := A) hn c (i + 1) (by omega) (by omega)
      rw [inI_succ] at ih
      simp only [Int.toNat_natCast, Nat.zero_add, Nat.mul_one]
      simp only [Nat.mul_one] at ih
      refine st_cT (decide_eq_true (by omega)) ?_
      refine st_if (by omega) ?_
      refine st_bind (bfn_get hlt) ?_
      rw [wrap_succ (by omega), Bool.not_not]
      cases ha : A i with
      | true =>
        refine st_cT rfl ?_
        refine st_if ⟨rfl, by first | rfl | trivial, by constructor <;> omega, by first | rfl | trivial⟩ ?_
        rw [ha, if_pos rfl, List.length_append, List.length_singleton, ints_append, ints_one] at ih
        exact ih
      | false =>
        refine st_cF rfl ?_
        rw [ha, if_neg (by decide)] at ih
        exact ih
    · obtain rfl : i = n := by omega
      have hil := ints_len (inI A i)
      refine st_cF (decide_eq_false (by omega)) ?_
      rw [Zpf]
      refine st_if (by omega) ?_
      simp only [Nat.mul_one]
      rw [cutL_all hil]
      refine st_bind (Zqm (by omega) none) ?_
      refine st_bind (rdL_v _ _ _) ?_
      refine st_if (by omega) ?_
      rfl
theorem Ztd {l : List Cd} (h : CdsB l) (cp : Option Nat) (d : Int) : Zu [.agg [.list l.length cp (cdsC l)], .v (.int .i64 d)] =
    some (if planE (nds l) d ≠ 0 then .tup [.list 0 (some 0) [], .v (.int .i64 (planE (nds l) d))] else .tup [.list (inI (stays (nds l) d.toNat) l.length).length (some (inI (stays (nds l) d.toNat) l.length).length) (ints (inI (stays (nds l) d.toNat) l.length)), .v (.int .i64 0)]) := by
  show Zfz M l.length cp (cdsC l) d = _
  unfold Zfz
  have hB := h.len
  refine st_bind (Zi5 h cp) ?_
  refine st_bind (rdI_v _ _) ?_
  by_cases he : treeErr (nds l) = 0
  · refine st_cF (i_bnf he) ?_
    by_cases h1 : d < 0
    · refine st_cT (decide_eq_true h1) ?_
      rw [planE_deep he (.inl h1), if_pos (by decide)]
    · refine st_cF (decide_eq_false h1) ?_
      by_cases h2 : 64 < d
      · refine st_cT (decide_eq_true h2) ?_
        rw [planE_deep he (.inr h2), if_pos (by decide)]
      · refine st_cF (decide_eq_false h2) ?_
        rw [planE_ok he (by omega), if_neg (by decide)]
        have hs : Shape (nds l) := tree_shape h.ok he
        rw [Zf8]
        simp only [Int.toNat_natCast]
        refine st_if ⟨by omega, by omega, by constructor <;> omega⟩ ?_
        refine st_if ⟨by omega, by omega, by constructor <;> omega⟩ ?_
        refine st_if ⟨by omega, by omega, by constructor <;> omega⟩ ?_
        have e1 : (List.replicate l.length [D.v (.int .i64 0)]).flatten = ints (dps (nds l) 0 l.length) := by rw [rep_ints, dps_zero]
        have e2 : (List.replicate l.length [D.v (.int .i64 0)]).flatten = ifn (ckF (nds l) 0) l.length := by rw [ifn_rep]; exact ifn_congr fun j _ => rfl
        rw [gone_tt]
        conv => lhs; arg 16; rw [e1]
        conv => lhs; arg 17; rw [e2]
        refine Zk2 h hs ?_ M 0 (by unfold M; omega) (by omega)
        rw [ck_ki]
        obtain ⟨k, rfl⟩ : ∃ k : Nat, d = (k : Int) := ⟨d.toNat, by omega⟩
        rw [Int.toNat_natCast, wrap_id (by omega) (by omega)]
        refine Zmb (d := k) h hs M l.length tt (by unfold M; omega) (Nat.le_refl _) ?_
        have ec : inI (sweep (nds l) k l.length tt) l.length = inI (stays (nds l) k) l.length := inI_congr (fun i hi => by have := sweep_stays hs k i (by rw [nds_len]; exact hi); rw [nds_len] at this; exact this)
        rw [← ec]
        exact left_loop (n := l.length) (A := sweep (nds l) k l.length tt) hB M 0 (by unfold M; omega) (by omega)
  · refine st_cT (i_bne he) ?_
    refine st_cT (i_bne he) ?_
    rw [planE_tree he, if_pos he]
end Go.Ev

/-
  A childless node removed.
-/
set_option linter.unusedSimpArgs false
set_option linter.unusedVariables false
set_option maxRecDepth 100000
namespace Go.Ev
open Go

def remD (l : List Cd) (d at_ : Int) : D :=
  if at_ < 0 ∨ (l.length : Int) ≤ at_ then .tup [noT, .v (.int .i64 19)]
  else if chl (nds l) tt d.toNat at_.toNat = false then .tup [noT, .v (.int .i64 21)]
  else delD (leftC l (del tt at_.toNat))
theorem Znz {l : List Cd} (h : CdsB l) (cp : Option Nat) (d at_ : Int) : Zj [.agg [.list l.length cp (cdsC l)], .v (.int .i64 d), .v (.int .i64 at_)] =
    some (if planE (nds l) d ≠ 0 then .tup [noT, .v (.int .i64 (planE (nds l) d))] else remD l d at_) := by
  show Zev M l.length cp (cdsC l) d at_ = _
  unfold Zev
  have hB := h.len
  refine st_bind (Zi5 h cp) ?_
  refine st_bind (rdI_v _ _) ?_
  by_cases he : treeErr (nds l) = 0
  · refine st_cF (i_bnf he) ?_
    by_cases h1 : d < 0
    · refine st_cT (decide_eq_true h1) ?_
      rw [planE_deep he (.inl h1), if_pos (by decide)]; rfl
    · refine st_cF (decide_eq_false h1) ?_
      by_cases h2 : 64 < d
      · refine st_cT (decide_eq_true h2) ?_
        rw [planE_deep he (.inr h2), if_pos (by decide)]; rfl
      · refine st_cF (decide_eq_false h2) ?_
        rw [planE_ok he (by omega), if_neg (by decide)]
        have hs : Shape (nds l) := tree_shape h.ok he
        rw [Zeu]
        simp only [Int.toNat_natCast]
        refine st_if ⟨by omega, by omega, by constructor <;> omega⟩ ?_
        refine st_if ⟨by omega, by omega, by constructor <;> omega⟩ ?_
        refine st_if ⟨by omega, by omega, by constructor <;> omega⟩ ?_
        have e1 : (List.replicate l.length [D.v (.int .i64 0)]).flatten = ints (dps (nds l) 0 l.length) := by rw [rep_ints, dps_zero]
        have e2 : (List.replicate l.length [D.v (.int .i64 0)]).flatten = ifn (ckF (nds l) 0) l.length := by rw [ifn_rep]; exact ifn_congr fun j _ => rfl
        rw [gone_tt]
        conv => lhs; arg 17; rw [e1]
        conv => lhs; arg 18; rw [e2]
        refine Ziy h hs ?_ M 0 (by unfold M; omega) (by omega)
        rw [ck_ki]
        obtain ⟨k, rfl⟩ : ∃ k : Nat, d = (k : Int) := ⟨d.toNat, by omega⟩
        unfold remD
        by_cases h3 : at_ < 0
        · refine st_cT (decide_eq_true h3) ?_
          rw [if_pos (.inl h3)]; rfl
        · refine st_cF (decide_eq_false h3) ?_
          by_cases h4 : (l.length : Int) ≤ at_
          · refine st_cT (decide_eq_true h4) ?_
            rw [if_pos (.inr h4)]; rfl
          · refine st_cF (decide_eq_false h4) ?_
            rw [if_neg (by omega)]
            obtain ⟨q, rfl⟩ : ∃ q : Nat, at_ = (q : Int) := ⟨at_.toNat, by omega⟩
            have hlt : q < l.length := by omega
            have hn : q < (nds l).length := by rw [nds_len]; exact hlt
            rw [Int.toNat_natCast, Int.toNat_natCast]
            have hch := chl_eq (nds l) tt k q
            have ht : tt q = true := rfl
            rw [ht, Bool.true_and] at hch
            rw [Zmg]
            simp only [Int.toNat_natCast, Nat.zero_add, Nat.mul_one]
            refine st_if (by omega) ?_
            refine st_bind (bfn_get hlt) ?_
            refine st_cT rfl ?_
            refine st_if (by omega) ?_
            refine st_bind (dps_at hlt hlt) ?_
            by_cases hd : dep (nds l) q < k
            · refine st_cT (decide_eq_true (by omega)) ?_
              refine st_if (by omega) ?_
              refine st_bind (ifn_get hlt) ?_
              by_cases hk : kids (nds l) tt q = 0
              · have hc1 : chl (nds l) tt k q = true := by rw [hch, decide_eq_true hd, decide_eq_true hk]; rfl
                rw [hc1, if_neg (show ¬ ((true : Bool) = false) by decide)]
                have e0 : (kiF (nds l) tt q == (0 : Int)) = true := i_eq (by unfold kiF; omega)
                refine st_cF (by rw [e0]; rfl) ?_
                refine st_if (by omega) ?_
                refine st_if ⟨by first | rfl | trivial, by omega⟩ ?_
                rw [gone_set]
                have hup : Up (nds l) (del tt q) := (Live.del hs (Live.all (nds l) k) hn hc1).up
                have fin : ∀ {r : Option D}, some (delD (leftC l (del tt q))) = r → (Z1l [.agg [.list l.length cp (cdsC l)], .list (goI (del tt q) l.length).length none (ints (goI (del tt q) l.length))]) = r := fun e => (Zny h he hup cp).trans e
                by_cases h0 : 0 < q
                · refine st_cT (decide_eq_true (by omega)) ?_
                  have hp := hs.par hn h0
                  rw [nds_getE hlt] at hp
                  have hpt : l[q].n.par.toNat = parN (nds l) q := by omega
                  have hko := kids_one h0 hlt ht
                  have hkl := kids_le (N := nds l) (A := tt) (parN (nds l) q)
                  rw [nds_len] at hkl
                  refine st_if (by omega) ?_
                  refine st_bind (cdsC_par' h.ok hlt) ?_
                  refine st_if (by omega) ?_
                  rw [hpt]
                  refine st_bind (ifn_get (by omega)) ?_
                  refine st_if (by omega) ?_
                  refine st_if ⟨by first | rfl | trivial, by omega⟩ ?_
                  refine Zez (n := l.length) (A := del tt q) hB ?_ M 0 (by unfold M; omega) (by omega)
                  have hil := ints_len (goI (del tt q) l.length)
                  refine st_if (by omega) ?_
                  rw [Nat.mul_one, cutL_all hil]
                  refine st_bind (Zny h he hup cp) ?_
                  refine st_bind rfl ?_
                  refine st_if rfl ?_
                  refine st_bind rfl ?_
                  refine st_bind rfl ?_
                  refine st_if (by omega) ?_
                  refine st_if (by omega) ?_
                  refine st_if rfl ?_
                  refine st_if rfl ?_
                  refine st_if rfl ?_
                  rfl
                · refine st_cF (decide_eq_false (by omega)) ?_
                  refine Zez (n := l.length) (A := del tt q) hB ?_ M 0 (by unfold M; omega) (by omega)
                  have hil := ints_len (goI (del tt q) l.length)
                  refine st_if (by omega) ?_
                  rw [Nat.mul_one, cutL_all hil]
                  refine st_bind (Zny h he hup cp) ?_
                  refine st_bind rfl ?_
                  refine st_if rfl ?_
                  refine st_bind rfl ?_
                  refine st_bind rfl ?_
                  refine st_if (by omega) ?_
                  refine st_if (by omega) ?_
                  refine st_if rfl ?_
                  refine st_if rfl ?_
                  refine st_if rfl ?_
                  rfl
              · have e0 : (kiF (nds l) tt q == (0 : Int)) = false := i_ne (by unfold kiF; omega)
                refine st_cT (by rw [e0]; rfl) ?_
                rw [hch, decide_eq_false hk, Bool.and_false, if_pos rfl]; rfl
            · refine st_cF (decide_eq_false (by omega)) ?_
              rw [hch, decide_eq_false hd, Bool.false_and, if_pos rfl]; rfl
  · refine st_cT (i_bne he) ?_
    refine st_cT (i_bne he) ?_
    rw [planE_tree he, if_pos he]; rfl
end Go.Ev
