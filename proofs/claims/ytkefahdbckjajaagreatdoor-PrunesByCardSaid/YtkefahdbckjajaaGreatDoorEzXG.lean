/-
  The evaluator: EzN4 EzN5 EzN6 EzN7 EzN8 EzN9 EzNA.
-/
import Derived.Test.YtkefahdbckjajaaGreatDoorEzN3
import Derived.Test.YtkefahdbckjajaaGreatDoorEzG4
/-
  Plans started: depths, and numbers of children.
-/
set_option linter.unusedSimpArgs false
set_option linter.unusedVariables false
set_option maxRecDepth 100000
namespace Go.Ev
open Go

def ckF (N : List Nd) (i j : Nat) : Int := (cntK N (fun _ => true) j i : Int)
theorem Z1jb (N : List Nd) (i j : Nat) : ckF N (i + 1) j = if 0 < i ∧ parN N i = j then ckF N i j + 1 else ckF N i j := by
  unfold ckF
  rw [cntK]
  by_cases h : 0 < i ∧ parN N i = j
  · rw [if_pos h, if_pos ⟨h.1, rfl, h.2⟩]; omega
  · rw [if_neg h, if_neg (fun q => h ⟨q.1, q.2.2⟩)]; omega
theorem Z13c (N : List Nd) (n : Nat) : ifn (ckF N 0) n = ifn (ckF N 1) n := Z9m fun j _ => by rw [Z1jb, if_neg (by omega)]
theorem Z1ag {N : List Nd} {i : Nat} (h0 : 0 < i) (n : Nat) : (ifn (ckF N i) n).set (parN N i) (.v (.int .i64 (ckF N i (parN N i) + 1))) = ifn (ckF N (i + 1)) n := by
  rw [Z1ic]
  refine Z9m fun j _ => ?_
  rw [Z1jb]
  by_cases e : j = parN N i
  · subst e; rw [if_pos rfl, if_pos ⟨h0, rfl⟩]
  · rw [if_neg e, if_neg (fun q => e q.2.symm)]
theorem ckF_le (N : List Nd) (i j : Nat) : 0 ≤ ckF N i j ∧ ckF N i j ≤ (i : Int) := by
  unfold ckF
  have := Z1i4 (l := N) (A := fun _ => true) (i := j) i
  omega
theorem Z13d {a : List Int} (hb : a.length < 1000000000) (cp : Option Nat) : Z3y [.list a.length cp (ints a)] = some (.list a.length (some a.length) (ints a)) := by
  show Zlx M a.length cp (ints a) = _
  unfold Zlx
  have hl : (ints a).length = a.length := Zar a
  by_cases h0 : a.length = 0
  · refine st_cT (i_eq (by omega)) ?_
    obtain rfl := List.length_eq_zero_iff.1 h0; rfl
  · refine st_cF (i_ne (by omega)) ?_
    simp only [Int.toNat_natCast, Nat.zero_add, Nat.mul_one]
    refine st_if ⟨by omega, by omega, by constructor <;> omega⟩ ?_
    refine st_if hl ?_
    refine st_if (by omega) ?_
    refine st_if ⟨by omega, hl⟩ ?_
    refine st_if (by omega) ?_
    rw [List.take_zero, List.nil_append, List.drop_eq_nil_of_le (by rw [List.length_flatten, List.map_replicate, List.sum_replicate_nat]; simp), List.append_nil, Z5h hl]

theorem Zkv {m a0_0n : Nat} {a0_0c : Option Nat} {a0_0 : List D} {a1 : Int} {Z5e : List D} {Z6a : Int} {l : List Cd} (h : CdsB l) (hs : Shape (nds l)) {cp : Option Nat} {r : Option D} (hE : (Z14 m m a0_0n a0_0c a0_0 a1 0 (((l.length) : Nat) : Int) (0 : Int) (l.length) cp (cdsC l) (l.length) cp (cdsC l) (l.length * 1) (ints (dps (nds l) l.length l.length)) (ifn (ckF (nds l) l.length) l.length) Z5e Z6a (l.length) 0 []) = r) : ∀ (c i : Nat), l.length - i < c → i ≤ l.length →
    Z2v m c a0_0n a0_0c a0_0 a1 l.length cp (cdsC l) (l.length : Int) (i : Int) l.length cp (cdsC l) (l.length * 1) (ints (dps (nds l) i l.length)) (ifn (ckF (nds l) i) l.length) Z5e Z6a l.length = r
  | 0, i, hc, hi => by omega
  | c + 1, i, hc, hi => by
    have hB := h.len
    have hl := cdsC_len h.ok
    rw [Zhp]
    simp only [Int.toNat_natCast, Nat.zero_add, Nat.mul_one]
    by_cases hlt : i < l.length
    · have hok := h.ok _ (List.getElem_mem hlt)
      have hn : i < (nds l).length := by rw [Zm]; exact hlt
      rw [Zju h.ok hlt]
      refine st_cT (decide_eq_true (by omega)) ?_
      refine st_if (by omega) ?_
      refine st_if (by omega) ?_
      refine st_if (Cd.cells_len hok) ?_
      have := Zkv (a0_0n := a0_0n) (a0_0c := a0_0c) (a0_0 := a0_0) (a1 := a1) h hs hE c (i + 1) (by omega) (by omega)
      rw [Nat.mul_one] at this
      by_cases h0 : 0 < i
      · refine st_cT (decide_eq_true (by omega)) ?_
        have hp := hs.par hn h0
        rw [Z63 hlt] at hp
        have hpt : l[i].n.par.toNat = parN (nds l) i := by omega
        have hck := ckF_le (nds l) i (parN (nds l) i)
        have hdb := Zth (l := nds l) (parN (nds l) i)
        refine Z0 (Z4z (Cd.at0 _)) ?_
        refine st_if (by omega) ?_
        rw [hpt]
        refine Z0 (dps_at (by omega) (by omega)) ?_
        refine st_if (by omega) ?_
        refine st_if ⟨by first | rfl | trivial, by omega⟩ ?_
        refine Z0 (Z4z (Cd.at0 _)) ?_
        refine st_if (by omega) ?_
        rw [hpt]
        refine Z0 (Zed (by omega)) ?_
        refine st_if (by omega) ?_
        refine st_if ⟨by first | rfl | trivial, by omega⟩ ?_
        have hd := Zjt hs hn h0
        rw [Zj (by omega), Zj (by omega), show dep (nds l) (parN (nds l) i) + 1 = dep (nds l) i from hd.symm, Zym, Z153, Z7e (by omega) (by omega), Z1ag h0]
        exact this
      · refine st_cF (decide_eq_false (by omega)) ?_
        obtain rfl : i = 0 := by omega
        rw [Zj (by omega), Zyq, Z13c]
        exact this
    · obtain rfl : i = l.length := by omega
      refine st_cF (decide_eq_false (by omega)) ?_
      simp only [Nat.mul_one] at hE
      exact hE

theorem Zqh {m a0_0n : Nat} {a0_0c : Option Nat} {a0_0 : List D} {a1 a2 : Int} {Z5e : List D} {Z6a : Int} {l : List Cd} (h : CdsB l) (hs : Shape (nds l)) {cp : Option Nat} {r : Option D} (hE : (cond (decide (a2 < (0 : Int)))
 (some (D.tup [(D.agg [(D.list 0 (some 0) [])]), (D.v (.int .i64 (19 : Int)))]))
 (cond (decide (a2 ≥ (((l.length) : Nat) : Int)))
 (some (D.tup [(D.agg [(D.list 0 (some 0) [])]), (D.v (.int .i64 (19 : Int)))]))
 (Zfy m a2 (l.length) cp (cdsC l) (l.length) cp (cdsC l) (l.length * 1) (ints (dps (nds l) l.length l.length)) (l.length * 1) (ifn (ckF (nds l) l.length) l.length) (l.length * 1) Z5e (l.length) cp (cdsC l) Z6a (l.length) (l.length) (l.length) (l.length) (l.length) (l.length)))) = r) : ∀ (c i : Nat), l.length - i < c → i ≤ l.length →
    Z3q m c a0_0n a0_0c a0_0 a1 a2 l.length cp (cdsC l) (l.length : Int) (i : Int) l.length cp (cdsC l) (l.length * 1) (ints (dps (nds l) i l.length)) (ifn (ckF (nds l) i) l.length) Z5e Z6a l.length = r
  | 0, i, hc, hi => by omega
  | c + 1, i, hc, hi => by
    have hB := h.len
    have hl := cdsC_len h.ok
    rw [Zkk]
    simp only [Int.toNat_natCast, Nat.zero_add, Nat.mul_one]
    by_cases hlt : i < l.length
    · have hok := h.ok _ (List.getElem_mem hlt)
      have hn : i < (nds l).length := by rw [Zm]; exact hlt
      rw [Zju h.ok hlt]
      refine st_cT (decide_eq_true (by omega)) ?_
      refine st_if (by omega) ?_
      refine st_if (by omega) ?_
      refine st_if (Cd.cells_len hok) ?_
      have := Zqh (a0_0n := a0_0n) (a0_0c := a0_0c) (a0_0 := a0_0) (a1 := a1) h hs hE c (i + 1) (by omega) (by omega)
      rw [Nat.mul_one] at this
      by_cases h0 : 0 < i
      · refine st_cT (decide_eq_true (by omega)) ?_
        have hp := hs.par hn h0
        rw [Z63 hlt] at hp
        have hpt : l[i].n.par.toNat = parN (nds l) i := by omega
        have hck := ckF_le (nds l) i (parN (nds l) i)
        have hdb := Zth (l := nds l) (parN (nds l) i)
        refine Z0 (Z4z (Cd.at0 _)) ?_
        refine st_if (by omega) ?_
        rw [hpt]
        refine Z0 (dps_at (by omega) (by omega)) ?_
        refine st_if (by omega) ?_
        refine st_if ⟨by first | rfl | trivial, by omega⟩ ?_
        refine Z0 (Z4z (Cd.at0 _)) ?_
        refine st_if (by omega) ?_
        rw [hpt]
        refine Z0 (Zed (by omega)) ?_
        refine st_if (by omega) ?_
        refine st_if ⟨by first | rfl | trivial, by omega⟩ ?_
        have hd := Zjt hs hn h0
        rw [Zj (by omega), Zj (by omega), show dep (nds l) (parN (nds l) i) + 1 = dep (nds l) i from hd.symm, Zym, Z153, Z7e (by omega) (by omega), Z1ag h0]
        exact this
      · refine st_cF (decide_eq_false (by omega)) ?_
        obtain rfl : i = 0 := by omega
        rw [Zj (by omega), Zyq, Z13c]
        exact this
    · obtain rfl : i = l.length := by omega
      refine st_cF (decide_eq_false (by omega)) ?_
      simp only [Nat.mul_one] at hE
      exact hE

theorem Zrt {m a0_0n : Nat} {a0_0c : Option Nat} {a0_0 : List D} {a1 : Int} {Z5e : List D} {Z6a : Int} {l : List Cd} (h : CdsB l) (hs : Shape (nds l)) {cp : Option Nat} {r : Option D} (hE : (Z33 m m a0_0n a0_0c a0_0 a1 (IntKind.wrap .i64 ((((l.length) : Nat) : Int) - (1 : Int))) (l.length) cp (cdsC l) (l.length) cp (cdsC l) (l.length * 1) (ints (dps (nds l) l.length l.length)) (l.length * 1) (ifn (ckF (nds l) l.length) l.length) (l.length * 1) Z5e (l.length) cp (cdsC l) Z6a (l.length) (l.length) (l.length) (l.length) (l.length) (l.length)) = r) : ∀ (c i : Nat), l.length - i < c → i ≤ l.length →
    Z40 m c a0_0n a0_0c a0_0 a1 l.length cp (cdsC l) (l.length : Int) (i : Int) l.length cp (cdsC l) (l.length * 1) (ints (dps (nds l) i l.length)) (ifn (ckF (nds l) i) l.length) Z5e Z6a l.length = r
  | 0, i, hc, hi => by omega
  | c + 1, i, hc, hi => by
    have hB := h.len
    have hl := cdsC_len h.ok
    rw [Zld]
    simp only [Int.toNat_natCast, Nat.zero_add, Nat.mul_one]
    by_cases hlt : i < l.length
    · have hok := h.ok _ (List.getElem_mem hlt)
      have hn : i < (nds l).length := by rw [Zm]; exact hlt
      rw [Zju h.ok hlt]
      refine st_cT (decide_eq_true (by omega)) ?_
      refine st_if (by omega) ?_
      refine st_if (by omega) ?_
      refine st_if (Cd.cells_len hok) ?_
      have := Zrt (a0_0n := a0_0n) (a0_0c := a0_0c) (a0_0 := a0_0) (a1 := a1) h hs hE c (i + 1) (by omega) (by omega)
      rw [Nat.mul_one] at this
      by_cases h0 : 0 < i
      · refine st_cT (decide_eq_true (by omega)) ?_
        have hp := hs.par hn h0
        rw [Z63 hlt] at hp
        have hpt : l[i].n.par.toNat = parN (nds l) i := by omega
        have hck := ckF_le (nds l) i (parN (nds l) i)
        have hdb := Zth (l := nds l) (parN (nds l) i)
        refine Z0 (Z4z (Cd.at0 _)) ?_
        refine st_if (by omega) ?_
        rw [hpt]
        refine Z0 (dps_at (by omega) (by omega)) ?_
        refine st_if (by omega) ?_
        refine st_if ⟨by first | rfl | trivial, by omega⟩ ?_
        refine Z0 (Z4z (Cd.at0 _)) ?_
        refine st_if (by omega) ?_
        rw [hpt]
        refine Z0 (Zed (by omega)) ?_
        refine st_if (by omega) ?_
        refine st_if ⟨by first | rfl | trivial, by omega⟩ ?_
        have hd := Zjt hs hn h0
        rw [Zj (by omega), Zj (by omega), show dep (nds l) (parN (nds l) i) + 1 = dep (nds l) i from hd.symm, Zym, Z153, Z7e (by omega) (by omega), Z1ag h0]
        exact this
      · refine st_cF (decide_eq_false (by omega)) ?_
        obtain rfl : i = 0 := by omega
        rw [Zj (by omega), Zyq, Z13c]
        exact this
    · obtain rfl : i = l.length := by omega
      refine st_cF (decide_eq_false (by omega)) ?_
      simp only [Nat.mul_one] at hE
      exact hE

theorem Zob {m a0_0n : Nat} {a0_0c : Option Nat} {a0_0 : List D} {a1 : Int} {a2n : Nat} {a2c : Option Nat} {a2 Z5e : List D} {Z6a : Int} {l : List Cd} (h : CdsB l) (hs : Shape (nds l)) {cp : Option Nat} {r : Option D} (hE : (Z10 m m a0_0n a0_0c a0_0 a1 a2n a2c a2 0 (((l.length) : Nat) : Int) (0 : Int) (l.length) cp (cdsC l) (l.length) cp (cdsC l) (l.length * 1) (ints (dps (nds l) l.length l.length)) (ifn (ckF (nds l) l.length) l.length) Z5e Z6a (l.length) 0 []) = r) : ∀ (c i : Nat), l.length - i < c → i ≤ l.length →
    Z3h m c a0_0n a0_0c a0_0 a1 a2n a2c a2 l.length cp (cdsC l) (l.length : Int) (i : Int) l.length cp (cdsC l) (l.length * 1) (ints (dps (nds l) i l.length)) (ifn (ckF (nds l) i) l.length) Z5e Z6a l.length = r
  | 0, i, hc, hi => by omega
  | c + 1, i, hc, hi => by
    have hB := h.len
    have hl := cdsC_len h.ok
    rw [Zk1]
    simp only [Int.toNat_natCast, Nat.zero_add, Nat.mul_one]
    by_cases hlt : i < l.length
    · have hok := h.ok _ (List.getElem_mem hlt)
      have hn : i < (nds l).length := by rw [Zm]; exact hlt
      rw [Zju h.ok hlt]
      refine st_cT (decide_eq_true (by omega)) ?_
      refine st_if (by omega) ?_
      refine st_if (by omega) ?_
      refine st_if (Cd.cells_len hok) ?_
      have := Zob (a0_0n := a0_0n) (a0_0c := a0_0c) (a0_0 := a0_0) (a1 := a1) h hs hE c (i + 1) (by omega) (by omega)
      rw [Nat.mul_one] at this
      by_cases h0 : 0 < i
      · refine st_cT (decide_eq_true (by omega)) ?_
        have hp := hs.par hn h0
        rw [Z63 hlt] at hp
        have hpt : l[i].n.par.toNat = parN (nds l) i := by omega
        have hck := ckF_le (nds l) i (parN (nds l) i)
        have hdb := Zth (l := nds l) (parN (nds l) i)
        refine Z0 (Z4z (Cd.at0 _)) ?_
        refine st_if (by omega) ?_
        rw [hpt]
        refine Z0 (dps_at (by omega) (by omega)) ?_
        refine st_if (by omega) ?_
        refine st_if ⟨by first | rfl | trivial, by omega⟩ ?_
        refine Z0 (Z4z (Cd.at0 _)) ?_
        refine st_if (by omega) ?_
        rw [hpt]
        refine Z0 (Zed (by omega)) ?_
        refine st_if (by omega) ?_
        refine st_if ⟨by first | rfl | trivial, by omega⟩ ?_
        have hd := Zjt hs hn h0
        rw [Zj (by omega), Zj (by omega), show dep (nds l) (parN (nds l) i) + 1 = dep (nds l) i from hd.symm, Zym, Z153, Z7e (by omega) (by omega), Z1ag h0]
        exact this
      · refine st_cF (decide_eq_false (by omega)) ?_
        obtain rfl : i = 0 := by omega
        rw [Zj (by omega), Zyq, Z13c]
        exact this
    · obtain rfl : i = l.length := by omega
      refine st_cF (decide_eq_false (by omega)) ?_
      simp only [Nat.mul_one] at hE
      exact hE

theorem Zru {m a0_0n : Nat} {a0_0c : Option Nat} {a0_0 : List D} {a1 : Int} {Z5e : List D} {Z6a : Int} {l : List Cd} (h : CdsB l) (hs : Shape (nds l)) {cp : Option Nat} {r : Option D} (hE : (Z35 m m a0_0n a0_0c a0_0 a1 (IntKind.wrap .i64 ((((l.length) : Nat) : Int) - (1 : Int))) (l.length) cp (cdsC l) (l.length) cp (cdsC l) (l.length * 1) (ints (dps (nds l) l.length l.length)) (l.length * 1) (ifn (ckF (nds l) l.length) l.length) (l.length * 1) Z5e (l.length) cp (cdsC l) Z6a (l.length) (l.length) (l.length) (l.length) (l.length) (l.length)) = r) : ∀ (c i : Nat), l.length - i < c → i ≤ l.length →
    Z42 m c a0_0n a0_0c a0_0 a1 l.length cp (cdsC l) (l.length : Int) (i : Int) l.length cp (cdsC l) (l.length * 1) (ints (dps (nds l) i l.length)) (ifn (ckF (nds l) i) l.length) Z5e Z6a l.length = r
  | 0, i, hc, hi => by omega
  | c + 1, i, hc, hi => by
    have hB := h.len
    have hl := cdsC_len h.ok
    rw [Zlf]
    simp only [Int.toNat_natCast, Nat.zero_add, Nat.mul_one]
    by_cases hlt : i < l.length
    · have hok := h.ok _ (List.getElem_mem hlt)
      have hn : i < (nds l).length := by rw [Zm]; exact hlt
      rw [Zju h.ok hlt]
      refine st_cT (decide_eq_true (by omega)) ?_
      refine st_if (by omega) ?_
      refine st_if (by omega) ?_
      refine st_if (Cd.cells_len hok) ?_
      have := Zru (a0_0n := a0_0n) (a0_0c := a0_0c) (a0_0 := a0_0) (a1 := a1) h hs hE c (i + 1) (by omega) (by omega)
      rw [Nat.mul_one] at this
      by_cases h0 : 0 < i
      · refine st_cT (decide_eq_true (by omega)) ?_
        have hp := hs.par hn h0
        rw [Z63 hlt] at hp
        have hpt : l[i].n.par.toNat = parN (nds l) i := by omega
        have hck := ckF_le (nds l) i (parN (nds l) i)
        have hdb := Zth (l := nds l) (parN (nds l) i)
        refine Z0 (Z4z (Cd.at0 _)) ?_
        refine st_if (by omega) ?_
        rw [hpt]
        refine Z0 (dps_at (by omega) (by omega)) ?_
        refine st_if (by omega) ?_
        refine st_if ⟨by first | rfl | trivial, by omega⟩ ?_
        refine Z0 (Z4z (Cd.at0 _)) ?_
        refine st_if (by omega) ?_
        rw [hpt]
        refine Z0 (Zed (by omega)) ?_
        refine st_if (by omega) ?_
        refine st_if ⟨by first | rfl | trivial, by omega⟩ ?_
        have hd := Zjt hs hn h0
        rw [Zj (by omega), Zj (by omega), show dep (nds l) (parN (nds l) i) + 1 = dep (nds l) i from hd.symm, Zym, Z153, Z7e (by omega) (by omega), Z1ag h0]
        exact this
      · refine st_cF (decide_eq_false (by omega)) ?_
        obtain rfl : i = 0 := by omega
        rw [Zj (by omega), Zyq, Z13c]
        exact this
    · obtain rfl : i = l.length := by omega
      refine st_cF (decide_eq_false (by omega)) ?_
      simp only [Nat.mul_one] at hE
      exact hE
end Go.Ev

/-
  The childless nodes of a plan.
-/
set_option linter.unusedSimpArgs false
set_option linter.unusedVariables false
set_option maxRecDepth 100000
namespace Go.Ev
open Go

def tt : Nat → Bool := fun _ => true
def kiF (N : List Nd) (A : Nat → Bool) (j : Nat) : Int := (kids N A j : Int)
theorem ck_ki (l : List Cd) : ifn (ckF (nds l) l.length) l.length = ifn (kiF (nds l) tt) l.length := Z9m fun j _ => by
  unfold ckF kiF kids
  rw [Zm]; rfl
theorem Z1ah (n : Nat) : (List.replicate n [D.v (.bool false)]).flatten = bfn (fun i => !tt i) n := Z1lu n
def clI (N : List Nd) (A : Nat → Bool) (d i : Nat) : List Int := ((List.range i).filter (chl N A d)).map fun j : Nat => (j : Int)
theorem Z184 (N : List Nd) (A : Nat → Bool) (d i : Nat) : clI N A d (i + 1) = if chl N A d i = true then clI N A d i ++ [(i : Int)] else clI N A d i := by
  unfold clI
  rw [List.range_succ, List.filter_append, List.map_append]
  by_cases h : chl N A d i = true
  · rw [if_pos h, List.filter_cons_of_pos h]; rfl
  · rw [if_neg h, List.filter_cons_of_neg h]; simp
theorem Z119 (N : List Nd) (A : Nat → Bool) (d : Nat) : ∀ i, (clI N A d i).length ≤ i := fun i => by
  unfold clI
  rw [List.length_map]
  exact Nat.le_trans (List.length_filter_le _ _) (by simp)
theorem Zh1 (x : Int) : ints [x] = [.v (.int .i64 x)] := rfl
theorem chl_eq (N : List Nd) (A : Nat → Bool) (d i : Nat) : chl N A d i = (A i && (decide (dep N i < d) && decide (kids N A i = 0))) := by
  unfold chl
  have : decide (kids N A i = 0) = !kid N A i := by
    cases h : kid N A i with
    | true => exact decide_eq_false (fun q => by rw [Z1h2, h] at q; cases q)
    | false => exact decide_eq_true (Z1h2.2 h)
  rw [this, Bool.and_assoc]

theorem Zzy {m a0_0n : Nat} {a0_0c : Option Nat} {a0_0 : List D} {a1 : Int} {Z6f : Nat} {Z5b : Option Nat} {Z62 : List D} {Z4q : Nat} {Z54 : Option Nat} {Z5c : List D} {n : Nat} {N : List Nd} {A : Nat → Bool} {d : Nat} (hn : n < 100000) : ∀ (c i : Nat), n - i < c → i ≤ n →
    Z14 m c a0_0n a0_0c a0_0 a1 ((clI N A d i).length) (n : Int) (i : Int) Z6f Z5b Z62 Z4q Z54 Z5c (n * 1) (ints (dps N n n)) (ifn (kiF N A) n) (bfn (fun j => !A j) n) (d : Int) n ((clI N A d i).length * 1) (ints (clI N A d i)) =
    some (.tup [.list (clI N A d n).length (some (clI N A d n).length) (ints (clI N A d n)), .v (.int .i64 0)])
  | 0, i, hc, hi => by omega
  | c + 1, i, hc, hi => by
    have hcl := Z119 N A d i
    rw [Zee]
    simp only [Int.toNat_natCast, Nat.zero_add, Nat.mul_one]
    by_cases hlt : i < n
    · have ih := Zzy (a0_0n := a0_0n) (a0_0c := a0_0c) (a0_0 := a0_0) (a1 := a1) (Z6f := Z6f) (Z5b := Z5b) (Z62 := Z62) (Z4q := Z4q) (Z54 := Z54) (Z5c := Z5c) (m := m) (N := N) (A := A) (d := d) hn c (i + 1) (by omega) (by omega)
      rw [Z184, chl_eq] at ih
      simp only [Nat.mul_one] at ih
      refine st_cT (decide_eq_true (by omega)) ?_
      refine st_if (by omega) ?_
      refine Z0 (Zl9 hlt) ?_
      rw [Zj (by omega), Bool.not_not]
      cases ha : A i with
      | false =>
        refine st_cF rfl ?_
        rw [ha] at ih
        exact ih
      | true =>
        refine st_cT rfl ?_
        refine st_if (by omega) ?_
        refine Z0 (dps_at hlt hlt) ?_
        by_cases hd : dep N i < d
        · refine st_cT (decide_eq_true (by omega)) ?_
          refine st_if (by omega) ?_
          refine Z0 (Zed hlt) ?_
          by_cases hk : kids N A i = 0
          · refine st_cT (i_eq (by unfold kiF; omega)) ?_
            refine st_if ⟨rfl, by first | rfl | trivial, by constructor <;> omega, by first | rfl | trivial⟩ ?_
            rw [ha, decide_eq_true hd, decide_eq_true hk, if_pos (by decide), List.length_append, List.length_singleton, Z77, Zh1] at ih
            exact ih
          · refine st_cF (i_ne (by unfold kiF; omega)) ?_
            rw [decide_eq_false hk, Bool.and_false, Bool.and_false, if_neg (by decide)] at ih
            exact ih
        · refine st_cF (decide_eq_false (by omega)) ?_
          rw [decide_eq_false hd, Bool.false_and, Bool.and_false, if_neg (by decide)] at ih
          exact ih
    · obtain rfl : i = n := by omega
      have hil := Zar (clI N A d i)
      refine st_cF (decide_eq_false (by omega)) ?_
      refine st_if (by omega) ?_
      rw [Z5h hil]
      refine Z0 (Z13d (by omega) none) ?_
      refine Z0 (rdL_v _ _ _) ?_
      refine st_if (by omega) ?_
      refine st_if (by omega) ?_
      rfl

def planE (N : List Nd) (d : Int) : Int := if treeErr N ≠ 0 then treeErr N else if d < 0 ∨ 64 < d then 1 else 0
theorem Ztk {N : List Nd} {d : Int} (h : treeErr N ≠ 0) : planE N d = treeErr N := if_pos h
theorem Z9o {N : List Nd} {d : Int} (h : treeErr N = 0) (hd : d < 0 ∨ 64 < d) : planE N d = 1 := by unfold planE; rw [if_neg (by simp [h]), if_pos hd]
theorem Zrv {N : List Nd} {d : Int} (h : treeErr N = 0) (hd : ¬ (d < 0 ∨ 64 < d)) : planE N d = 0 := by unfold planE; rw [if_neg (by simp [h]), if_neg hd]
theorem Zf8 {l : List Cd} (h : CdsOk l) (he : treeErr (nds l) = 0) : Shape (nds l) := ((Z1h0 h.nds).1 he).shape
theorem Zp8 {l : List Cd} (h : CdsB l) (cp : Option Nat) (d : Int) : Z1j [.agg [.list l.length cp (cdsC l)], .v (.int .i64 d)] =
    some (if planE (nds l) d ≠ 0 then .tup [.list 0 (some 0) [], .v (.int .i64 (planE (nds l) d))] else .tup [.list (clI (nds l) tt d.toNat l.length).length (some (clI (nds l) tt d.toNat l.length).length) (ints (clI (nds l) tt d.toNat l.length)), .v (.int .i64 0)]) := by
  show Zca M l.length cp (cdsC l) d = _
  unfold Zca
  have hB := h.len
  refine Z0 (Zpe h cp) ?_
  refine Z0 (rdI_v _ _) ?_
  by_cases he : treeErr (nds l) = 0
  · refine st_cF (i_bnf he) ?_
    by_cases h1 : d < 0
    · refine st_cT (decide_eq_true h1) ?_
      rw [Z9o he (.inl h1), if_pos (by decide)]
    · refine st_cF (decide_eq_false h1) ?_
      by_cases h2 : 64 < d
      · refine st_cT (decide_eq_true h2) ?_
        rw [Z9o he (.inr h2), if_pos (by decide)]
      · refine st_cF (decide_eq_false h2) ?_
        rw [Zrv he (by omega), if_neg (by decide)]
        have hs : Shape (nds l) := Zf8 h.ok he
        rw [Zgl]
        simp only [Int.toNat_natCast]
        refine st_if ⟨by omega, by omega, by constructor <;> omega⟩ ?_
        refine st_if ⟨by omega, by omega, by constructor <;> omega⟩ ?_
        refine st_if ⟨by omega, by omega, by constructor <;> omega⟩ ?_
        have e1 : (List.replicate l.length [D.v (.int .i64 0)]).flatten = ints (dps (nds l) 0 l.length) := by rw [Zyn, Zyp]
        have e2 : (List.replicate l.length [D.v (.int .i64 0)]).flatten = ifn (ckF (nds l) 0) l.length := by rw [Z156]; exact Z9m fun j _ => rfl
        rw [Z1ah]
        conv => lhs; arg 16; rw [e1]
        conv => lhs; arg 17; rw [e2]
        refine Zkv h hs ?_ M 0 (by unfold M; omega) (by omega)
        rw [ck_ki]
        obtain ⟨k, rfl⟩ : ∃ k : Nat, d = (k : Int) := ⟨d.toNat, by omega⟩
        rw [Int.toNat_natCast]
        exact Zzy (N := nds l) (A := tt) (d := k) hB M 0 (by unfold M; omega) (by omega)
  · refine st_cT (i_bne he) ?_
    refine st_cT (i_bne he) ?_
    rw [Ztk he, if_pos he]
end Go.Ev

/-
  Plans carried out: all childless nodes removed, one after another.
-/
set_option linter.unusedSimpArgs false
set_option linter.unusedVariables false
set_option maxRecDepth 100000
namespace Go.Ev
open Go

theorem Z13e {A : Nat → Bool} {n k : Nat} : (bfn (fun j => !A j) n).set k (.v (.bool true)) = bfn (fun j => !del A k j) n := by
  rw [Z1ib]
  refine Zxu fun j _ => ?_
  unfold del
  by_cases e : j = k
  · rw [if_pos e]; simp [e]
  · rw [if_neg e]; simp [e]
theorem ki_set {l : List Cd} {A : Nat → Bool} {k : Nat} (h0 : 0 < k) (hk : k < l.length) (ha : A k = true) : (ifn (kiF (nds l) A) l.length).set (parN (nds l) k) (.v (.int .i64 (kiF (nds l) A (parN (nds l) k) - 1))) = ifn (kiF (nds l) (del A k)) l.length := by
  rw [Z1ic]
  refine Z9m fun j _ => ?_
  have := Z1j7 (l := nds l) h0 (by rw [Zm]; exact hk) ha j
  unfold kiF
  by_cases e : j = parN (nds l) k
  · subst e; rw [if_pos rfl] at this ⊢; omega
  · rw [if_neg e]; rw [if_neg (fun q => e q.symm)] at this; omega
theorem Z1f8 {l : List Cd} {A : Nat → Bool} : ifn (kiF (nds l) A) l.length = ifn (kiF (nds l) (del A 0)) l.length := Z9m fun j _ => by
  unfold kiF; rw [Z1ej]
theorem Z1ai {N : List Nd} {A : Nat → Bool} (i : Nat) : kids N A i ≤ N.length := Z1i4 _
theorem Z13f {l : List Cd} {A : Nat → Bool} {k : Nat} (h0 : 0 < k) (hk : k < l.length) (ha : A k = true) : 1 ≤ kids (nds l) A (parN (nds l) k) := by
  have := Z1j7 (l := nds l) h0 (by rw [Zm]; exact hk) ha (parN (nds l) k)
  rw [if_pos rfl] at this; omega
theorem Z67 {l : List Cd} (h : CdsOk l) {i : Nat} (hi : i < l.length) : rdI .i64 (cdsC l)[i * 20 + 0]? = some l[i].n.par := by
  rw [Nat.add_zero, Z1n1 h hi]; exact rdI_v _ _

theorem Zvq {m a0_0n : Nat} {a0_0c : Option Nat} {a0_0 : List D} {a1 : Int} {Z7b : Nat} {Z5a : Option Nat} {Z6f : List D} {Z5b : Nat} {Z62 : Option Nat} {Z4q : List D} {Z60 Z83 Z84 : Nat} {l : List Cd} (h : CdsB l) (hs : Shape (nds l)) {cp : Option Nat} {d : Nat} {r : Option D} : ∀ (c i : Nat) (A : Nat → Bool), i < c → i ≤ l.length →
    (Z28 m m a0_0n a0_0c a0_0 a1 0 (l.length) Z84 (((l.length) : Nat) : Int) (0 : Int) Z7b Z5a Z6f Z5b Z62 Z4q (l.length * 1) (ints (dps (nds l) l.length l.length)) (l.length * 1) (ifn (kiF (nds l) (sweep (nds l) d i A)) l.length) (l.length * 1) (bfn (fun j => !(sweep (nds l) d i A) j) l.length) (l.length) cp (cdsC l) ((d : Int)) (l.length) Z60 (l.length) Z83 0 []) = r →
    Z33 m c a0_0n a0_0c a0_0 a1 ((i : Int) - 1) Z7b Z5a Z6f Z5b Z62 Z4q (l.length * 1) (ints (dps (nds l) l.length l.length)) (l.length * 1) (ifn (kiF (nds l) A) l.length) (l.length * 1) (bfn (fun j => !A j) l.length) l.length cp (cdsC l) (d : Int) l.length Z60 l.length Z83 l.length Z84 = r
  | 0, i, A, hc, hi, hE => by omega
  | c + 1, i, A, hc, hi, hE => by
    have hB := h.len
    have hl := cdsC_len h.ok
    rw [Zig]
    match i, hi, hE with
    | 0, hi, hE =>
      refine st_cF (decide_eq_false (by omega)) ?_
      exact hE
    | k + 1, hi, hE =>
      have hlt : k < l.length := by omega
      have hn : k < (nds l).length := by rw [Zm]; exact hlt
      have e0 : ((k + 1 : Nat) : Int) - 1 = (k : Int) := by omega
      rw [e0]
      simp only [Int.toNat_natCast, Nat.zero_add, Nat.mul_one]
      have j2 : ∀ B, B = (if chl (nds l) A d k = true then del A k else A) → Z1q m c a0_0n a0_0c a0_0 a1 (k : Int) Z7b Z5a Z6f Z5b Z62 Z4q (l.length * 1) (ints (dps (nds l) l.length l.length)) (l.length * 1) (ifn (kiF (nds l) B) l.length) (l.length * 1) (bfn (fun j => !B j) l.length) l.length cp (cdsC l) (d : Int) l.length Z60 l.length Z83 l.length Z84 = r := fun B hB' => by
        subst hB'
        rw [Zhr, Z7e (by omega) (by omega)]
        exact Zvq (a0_0n := a0_0n) (a0_0c := a0_0c) (a0_0 := a0_0) (a1 := a1) h hs c k _ (by omega) (by omega) hE
      have hch := chl_eq (nds l) A d k
      simp only [Nat.mul_one] at j2
      refine st_cT (decide_eq_true (by omega)) ?_
      refine st_if (by omega) ?_
      refine Z0 (Zl9 hlt) ?_
      cases ha : A k with
      | false =>
        refine st_cF rfl ?_
        exact j2 A (by rw [hch, ha]; rfl)
      | true =>
        refine st_cT rfl ?_
        refine st_if (by omega) ?_
        refine Z0 (dps_at hlt hlt) ?_
        by_cases hd : dep (nds l) k < d
        · refine st_cT (decide_eq_true (by omega)) ?_
          refine st_if (by omega) ?_
          refine Z0 (Zed hlt) ?_
          by_cases hk : kids (nds l) A k = 0
          · have hc1 : chl (nds l) A d k = true := by rw [hch, ha, decide_eq_true hd, decide_eq_true hk]; rfl
            refine st_cT (i_eq (by unfold kiF; omega)) ?_
            refine st_if (by omega) ?_
            refine st_if ⟨by first | rfl | trivial, by omega⟩ ?_
            have := j2 (del A k) (by rw [if_pos hc1])
            rw [Z13e]
            by_cases h0 : 0 < k
            · refine st_cT (decide_eq_true (by omega)) ?_
              have hp := hs.par hn h0
              rw [Z63 hlt] at hp
              have hpt : l[k].n.par.toNat = parN (nds l) k := by omega
              have hko := Z13f h0 hlt ha
              have hkl := Z1ai (N := nds l) (A := A) (parN (nds l) k)
              rw [Zm] at hkl
              refine st_if (by omega) ?_
              refine Z0 (Z67 h.ok hlt) ?_
              refine st_if (by omega) ?_
              rw [hpt]
              refine Z0 (Zed (by omega)) ?_
              refine st_if (by omega) ?_
              refine st_if ⟨by first | rfl | trivial, by omega⟩ ?_
              rw [Z7e (by unfold kiF; omega) (by unfold kiF; omega), ki_set h0 hlt ha]
              exact this
            · refine st_cF (decide_eq_false (by omega)) ?_
              obtain rfl : k = 0 := by omega
              rw [← Z1f8] at this
              exact this
          · refine st_cF (i_ne (by unfold kiF; omega)) ?_
            exact j2 A (by rw [hch, decide_eq_false hk, Bool.and_false, Bool.and_false]; rfl)
        · refine st_cF (decide_eq_false (by omega)) ?_
          exact j2 A (by rw [hch, decide_eq_false hd, Bool.false_and, Bool.and_false]; rfl)

theorem Zvr {m a0_0n : Nat} {a0_0c : Option Nat} {a0_0 : List D} {a1 : Int} {Z7b : Nat} {Z5a : Option Nat} {Z6f : List D} {Z5b : Nat} {Z62 : Option Nat} {Z4q : List D} {Z60 Z83 Z84 : Nat} {l : List Cd} (h : CdsB l) (hs : Shape (nds l)) {cp : Option Nat} {d : Nat} {r : Option D} : ∀ (c i : Nat) (A : Nat → Bool), i < c → i ≤ l.length →
    (Z1y m m (l.length) Z84 (((l.length) : Nat) : Int) (0 : Int) Z7b Z5a Z6f Z5b Z62 Z4q (l.length * 1) (ints (dps (nds l) l.length l.length)) (l.length * 1) (ifn (kiF (nds l) (sweep (nds l) d i A)) l.length) (l.length * 1) (bfn (fun j => !(sweep (nds l) d i A) j) l.length) (l.length) cp (cdsC l) ((d : Int)) (l.length) Z60 (l.length) Z83 0 0 []) = r →
    Z35 m c a0_0n a0_0c a0_0 a1 ((i : Int) - 1) Z7b Z5a Z6f Z5b Z62 Z4q (l.length * 1) (ints (dps (nds l) l.length l.length)) (l.length * 1) (ifn (kiF (nds l) A) l.length) (l.length * 1) (bfn (fun j => !A j) l.length) l.length cp (cdsC l) (d : Int) l.length Z60 l.length Z83 l.length Z84 = r
  | 0, i, A, hc, hi, hE => by omega
  | c + 1, i, A, hc, hi, hE => by
    have hB := h.len
    have hl := cdsC_len h.ok
    rw [Zii]
    match i, hi, hE with
    | 0, hi, hE =>
      refine st_cF (decide_eq_false (by omega)) ?_
      exact hE
    | k + 1, hi, hE =>
      have hlt : k < l.length := by omega
      have hn : k < (nds l).length := by rw [Zm]; exact hlt
      have e0 : ((k + 1 : Nat) : Int) - 1 = (k : Int) := by omega
      rw [e0]
      simp only [Int.toNat_natCast, Nat.zero_add, Nat.mul_one]
      have j2 : ∀ B, B = (if chl (nds l) A d k = true then del A k else A) → Z1r m c a0_0n a0_0c a0_0 a1 (k : Int) Z7b Z5a Z6f Z5b Z62 Z4q (l.length * 1) (ints (dps (nds l) l.length l.length)) (l.length * 1) (ifn (kiF (nds l) B) l.length) (l.length * 1) (bfn (fun j => !B j) l.length) l.length cp (cdsC l) (d : Int) l.length Z60 l.length Z83 l.length Z84 = r := fun B hB' => by
        subst hB'
        rw [Zhw, Z7e (by omega) (by omega)]
        exact Zvr (a0_0n := a0_0n) (a0_0c := a0_0c) (a0_0 := a0_0) (a1 := a1) h hs c k _ (by omega) (by omega) hE
      have hch := chl_eq (nds l) A d k
      simp only [Nat.mul_one] at j2
      refine st_cT (decide_eq_true (by omega)) ?_
      refine st_if (by omega) ?_
      refine Z0 (Zl9 hlt) ?_
      cases ha : A k with
      | false =>
        refine st_cF rfl ?_
        exact j2 A (by rw [hch, ha]; rfl)
      | true =>
        refine st_cT rfl ?_
        refine st_if (by omega) ?_
        refine Z0 (dps_at hlt hlt) ?_
        by_cases hd : dep (nds l) k < d
        · refine st_cT (decide_eq_true (by omega)) ?_
          refine st_if (by omega) ?_
          refine Z0 (Zed hlt) ?_
          by_cases hk : kids (nds l) A k = 0
          · have hc1 : chl (nds l) A d k = true := by rw [hch, ha, decide_eq_true hd, decide_eq_true hk]; rfl
            refine st_cT (i_eq (by unfold kiF; omega)) ?_
            refine st_if (by omega) ?_
            refine st_if ⟨by first | rfl | trivial, by omega⟩ ?_
            have := j2 (del A k) (by rw [if_pos hc1])
            rw [Z13e]
            by_cases h0 : 0 < k
            · refine st_cT (decide_eq_true (by omega)) ?_
              have hp := hs.par hn h0
              rw [Z63 hlt] at hp
              have hpt : l[k].n.par.toNat = parN (nds l) k := by omega
              have hko := Z13f h0 hlt ha
              have hkl := Z1ai (N := nds l) (A := A) (parN (nds l) k)
              rw [Zm] at hkl
              refine st_if (by omega) ?_
              refine Z0 (Z67 h.ok hlt) ?_
              refine st_if (by omega) ?_
              rw [hpt]
              refine Z0 (Zed (by omega)) ?_
              refine st_if (by omega) ?_
              refine st_if ⟨by first | rfl | trivial, by omega⟩ ?_
              rw [Z7e (by unfold kiF; omega) (by unfold kiF; omega), ki_set h0 hlt ha]
              exact this
            · refine st_cF (decide_eq_false (by omega)) ?_
              obtain rfl : k = 0 := by omega
              rw [← Z1f8] at this
              exact this
          · refine st_cF (i_ne (by unfold kiF; omega)) ?_
            exact j2 A (by rw [hch, decide_eq_false hk, Bool.and_false, Bool.and_false]; rfl)
        · refine st_cF (decide_eq_false (by omega)) ?_
          exact j2 A (by rw [hch, decide_eq_false hd, Bool.false_and, Bool.and_false]; rfl)
end Go.Ev

/-
  What is left of a plan: the nodes that are gone, deleted.
-/
set_option linter.unusedSimpArgs false
set_option linter.unusedVariables false
set_option maxRecDepth 100000
namespace Go.Ev
open Go

def goI (A : Nat → Bool) (i : Nat) : List Int := ((List.range i).filter fun j => !A j).map fun j : Nat => (j : Int)
theorem Z185 (A : Nat → Bool) (i : Nat) : goI A (i + 1) = if A i = false then goI A i ++ [(i : Int)] else goI A i := by
  unfold goI
  rw [List.range_succ, List.filter_append, List.map_append]
  cases h : A i with
  | false => rw [if_pos rfl, List.filter_cons_of_pos (by rw [h]; rfl)]; rfl
  | true => rw [if_neg (by decide), List.filter_cons_of_neg (by rw [h]; decide)]; simp
theorem Z11a (A : Nat → Bool) (i : Nat) : (goI A i).length ≤ i := by
  unfold goI
  rw [List.length_map]
  exact Nat.le_trans (List.length_filter_le _ _) (by simp)
theorem Z1ie {A : Nat → Bool} {n : Nat} {x : Int} : x ∈ goI A n ↔ ∃ j : Nat, j < n ∧ A j = false ∧ x = (j : Int) := by
  unfold goI
  simp only [List.mem_map, List.mem_filter, List.mem_range, Bool.not_eq_true']
  exact ⟨fun ⟨j, ⟨h1, h2⟩, h3⟩ => ⟨j, h1, h2, h3.symm⟩, fun ⟨j, h1, h2, h3⟩ => ⟨j, ⟨h1, h2⟩, h3.symm⟩⟩
theorem Z1od {A : Nat → Bool} {n i : Nat} (h : i < n) : (goI A n).contains (i : Int) = !A i := by
  cases ha : A i with
  | false =>
    rw [List.contains_iff_mem.2 (Z1ie.2 ⟨i, h, ha, rfl⟩)]; rfl
  | true =>
    cases hc : (goI A n).contains (i : Int) with
    | false => rfl
    | true =>
      obtain ⟨j, _, hj, e⟩ := Z1ie.1 (List.contains_iff_mem.1 hc)
      obtain rfl : i = j := by omega
      rw [ha] at hj; cases hj
theorem Z1jc {l : List Cd} {A B : Nat → Bool} (h : ∀ i, i < l.length → A i = B i) (hp : ∀ n, n ∈ nds l → n.par < (l.length : Int)) : ∀ i, i ≤ l.length → lc l A i = lc l B i
  | 0, _ => rfl
  | i + 1, hi => by
    have hlt : i < l.length := by omega
    rw [Z157 hlt, Z157 hlt, Z1jc h hp i (by omega), h i hlt]
    have hm : mv (nds l) A l[i].n = mv (nds l) B l[i].n := by
      have := hp l[i].n (by unfold nds; exact List.mem_map.2 ⟨_, List.getElem_mem hlt, rfl⟩)
      unfold mv
      split
      · rfl
      · rw [Z17z (A := A) (B := B) (fun j hj => h j (by omega))]
    rw [hm]
theorem Z11b {l : List Cd} {A B : Nat → Bool} (h : ∀ i, i < l.length → A i = B i) (hs : Shape (nds l)) : leftC l A = leftC l B :=
  Z1jc h (fun n hn => by have := hs.par_lt n hn; rw [Zm] at this; exact this) _ (Nat.le_refl _)
theorem Zyr {l : List Cd} (h : CdsB l) (he : treeErr (nds l) = 0) {A : Nat → Bool} (hu : Up (nds l) A) (cp : Option Nat) :
    Z2e [.agg [.list l.length cp (cdsC l)], .list (goI A l.length).length none (ints (goI A l.length))] = some (delD (leftC l A)) := by
  have hB := h.len
  have hs := Zf8 h.ok he
  have hgl := Z11a A l.length
  rw [Z1kb h he hs (by omega) (fun x hx => by obtain ⟨j, hj, _, rfl⟩ := Z1ie.1 hx; omega)]
  rw [Z11b (A := kpF l (goI A l.length)) (B := A) (fun i hi => ?_) hs]
  unfold kpF
  rw [Z1mz hs hu (fun j hj => Z1od (by rw [Zm] at hj; exact hj)) i (by rw [Zm]; exact hi), Bool.not_not]

theorem Zk3 {m : Nat} {Ze6 x17 : Int} {Z5a Z62 : Nat} {Z4q : Option Nat} {Z54 : List D} {Z5c : Nat} {Z5d : Option Nat} {Z3n : List D} {Z3l : Nat} {Z36 : List D} {Z49 : Nat} {Z1i : List D} {Z4e Z6g : Nat} {Z60 : Option Nat} {Z82 : List D} {Z83 : Int} {Z8l Z84 Zw0 Zqo : Nat} {n : Nat} {A : Nat → Bool} (hn : n < 100000) {r : Option D} (hE : (if (0 + (((goI A n).length) * 1)) ≤ ((goI A n).length * 1) then
 (Z2e [(D.agg [(D.list Z6g Z60 Z82)]), (D.list ((goI A n).length) none (cutL ((goI A n).length * 1) (ints (goI A n)) 0 (((goI A n).length) * 1)))]).bind fun d23 =>
 (rdT d23).bind fun r24 =>
 if List.length r24 = 2 then
 (rdA r24[0]?).bind fun c25 =>
 (rdI .i64 r24[1]?).bind fun x26 =>
 if (0 + (((goI A n).length) * 1)) ≤ ((goI A n).length * 1) then
 if (0 + (((goI A n).length) * 1)) ≤ ((goI A n).length * 1) then
 if (List.length c25) = 1 then
 if (List.length c25) = 1 then
 if (List.length c25) = 1 then
 some (D.tup [(D.agg c25), (D.v (.int .i64 (0 : Int)))])
 else none
 else none
 else none
 else none
 else none
 else none
 else none) = r) : ∀ (c i : Nat), n - i < c → i ≤ n →
    Z23 m c Ze6 x17 ((goI A i).length) n Z5a (n : Int) (i : Int) Z62 Z4q Z54 Z5c Z5d Z3n Z3l Z36 Z49 Z1i Z4e (bfn (fun j => !A j) n) Z6g Z60 Z82 Z83 Z8l Z84 Zw0 Zqo ((goI A i).length * 1) (ints (goI A i)) = r
  | 0, i, hc, hi => by omega
  | c + 1, i, hc, hi => by
    have hgl := Z11a A i
    rw [Zgn]
    by_cases hlt : i < n
    · have ih := Zk3 (m := m) (Ze6 := Ze6) (x17 := x17) (Z5a := Z5a) (Z62 := Z62) (Z4q := Z4q) (Z54 := Z54) (Z5c := Z5c) (Z5d := Z5d) (Z3n := Z3n) (Z3l := Z3l) (Z36 := Z36) (Z49 := Z49) (Z1i := Z1i) (Z4e := Z4e) (Z6g := Z6g) (Z60 := Z60) (Z82 := Z82) (Z83 := Z83) (Z8l := Z8l) (Z84 := Z84) (Zw0 := Zw0) (Zqo := Zqo) hn hE c (i + 1) (by omega) (by omega)
      rw [Z185] at ih
      simp only [Int.toNat_natCast, Nat.zero_add, Nat.mul_one]
      simp only [Nat.mul_one] at ih
      refine st_cT (decide_eq_true (by omega)) ?_
      refine st_if (by omega) ?_
      refine Z0 (Zl9 hlt) ?_
      rw [Zj (by omega)]
      cases ha : A i with
      | false =>
        refine st_cT rfl ?_
        refine st_if ⟨rfl, by first | rfl | trivial, by constructor <;> omega, by first | rfl | trivial⟩ ?_
        rw [ha, if_pos rfl, List.length_append, List.length_singleton, Z77, Zh1] at ih
        exact ih
      | true =>
        refine st_cF rfl ?_
        rw [ha, if_neg (by decide)] at ih
        exact ih
    · obtain rfl : i = n := by omega
      refine st_cF (decide_eq_false (by omega)) ?_
      exact hE

theorem Ztl {m a0_0n : Nat} {a0_0c : Option Nat} {a0_0 : List D} {a1 : Int} {Zij Zzt : Nat} {Zzu : Option Nat} {Zzv : List D} {Zzw : Nat} {Zzx : Option Nat} {Znt : List D} {Znu : Nat} {Znv : List D} {Znw : Nat} {Znx : List D} {Zqp Zla : Nat} {Zlb : Option Nat} {Zlc : List D} {Zny : Int} {Zgo Znz Zgp Zo0 : Nat} {n : Nat} {A : Nat → Bool} (hn : n < 100000) {r : Option D} (hE : (if (0 + (((goI A n).length) * 1)) ≤ ((goI A n).length * 1) then
 (Z2e [(D.agg [(D.list Zla Zlb Zlc)]), (D.list ((goI A n).length) none (cutL ((goI A n).length * 1) (ints (goI A n)) 0 (((goI A n).length) * 1)))]).bind fun d33 =>
 (rdT d33).bind fun r34 =>
 if List.length r34 = 2 then
 (rdA r34[0]?).bind fun c35 =>
 (rdI .i64 r34[1]?).bind fun x36 =>
 if (0 + (((goI A n).length) * 1)) ≤ ((goI A n).length * 1) then
 if (0 + (((goI A n).length) * 1)) ≤ ((goI A n).length * 1) then
 if (List.length c35) = 1 then
 if (List.length c35) = 1 then
 if (List.length c35) = 1 then
 some (D.tup [(D.agg c35), (D.v (.int .i64 (0 : Int)))])
 else none
 else none
 else none
 else none
 else none
 else none
 else none) = r) : ∀ (c i : Nat), n - i < c → i ≤ n →
    Z28 m c a0_0n a0_0c a0_0 a1 ((goI A i).length) n Zij (n : Int) (i : Int) Zzt Zzu Zzv Zzw Zzx Znt Znu Znv Znw Znx Zqp (bfn (fun j => !A j) n) Zla Zlb Zlc Zny Zgo Znz Zgp Zo0 ((goI A i).length * 1) (ints (goI A i)) = r
  | 0, i, hc, hi => by omega
  | c + 1, i, hc, hi => by
    have hgl := Z11a A i
    rw [Zhs]
    by_cases hlt : i < n
    · have ih := Ztl (m := m) (a0_0n := a0_0n) (a0_0c := a0_0c) (a0_0 := a0_0) (a1 := a1) (Zij := Zij) (Zzt := Zzt) (Zzu := Zzu) (Zzv := Zzv) (Zzw := Zzw) (Zzx := Zzx) (Znt := Znt) (Znu := Znu) (Znv := Znv) (Znw := Znw) (Znx := Znx) (Zqp := Zqp) (Zla := Zla) (Zlb := Zlb) (Zlc := Zlc) (Zny := Zny) (Zgo := Zgo) (Znz := Znz) (Zgp := Zgp) (Zo0 := Zo0) hn hE c (i + 1) (by omega) (by omega)
      rw [Z185] at ih
      simp only [Int.toNat_natCast, Nat.zero_add, Nat.mul_one]
      simp only [Nat.mul_one] at ih
      refine st_cT (decide_eq_true (by omega)) ?_
      refine st_if (by omega) ?_
      refine Z0 (Zl9 hlt) ?_
      rw [Zj (by omega)]
      cases ha : A i with
      | false =>
        refine st_cT rfl ?_
        refine st_if ⟨rfl, by first | rfl | trivial, by constructor <;> omega, by first | rfl | trivial⟩ ?_
        rw [ha, if_pos rfl, List.length_append, List.length_singleton, Z77, Zh1] at ih
        exact ih
      | true =>
        refine st_cF rfl ?_
        rw [ha, if_neg (by decide)] at ih
        exact ih
    · obtain rfl : i = n := by omega
      refine st_cF (decide_eq_false (by omega)) ?_
      exact hE

theorem Zqi {m n0 Zfz : Nat} {Zg0 : Option Nat} {Zij : List D} {Zfi : Int} {q96 : Sl} {Z1mb Z1na : Nat} {Z1nb : Option Nat} {Z1nc : List D} {Z1nd : Nat} {Z1ne : Option Nat} {Z1es : List D} {Z1et : Nat} {Z1eu : List D} {Z1ev : Nat} {Z1ew : List D} {Z1ex Z1a9 : Nat} {Z1aa : Option Nat} {Z1ab : List D} {Z1ey : Int} {Z1ez Z1f0 Z1f1 Z1f2 : Nat} {n : Nat} {A : Nat → Bool} (hn : n < 100000) {r : Option D} (hE : (if (0 + (((goI A n).length) * 1)) ≤ ((goI A n).length * 1) then
 (Z2e [(D.agg [(D.list Z1a9 Z1aa Z1ab)]), (D.list ((goI A n).length) none (cutL ((goI A n).length * 1) (ints (goI A n)) 0 (((goI A n).length) * 1)))]).bind fun d110 =>
 (rdT d110).bind fun r111 =>
 if List.length r111 = 2 then
 (rdA r111[0]?).bind fun c112 =>
 (rdI .i64 r111[1]?).bind fun x113 =>
 if (0 + (((goI A n).length) * 1)) ≤ ((goI A n).length * 1) then
 if (0 + (((goI A n).length) * 1)) ≤ ((goI A n).length * 1) then
 if (List.length c112) = 1 then
 if (List.length c112) = 1 then
 if (List.length c112) = 1 then
 some (D.tup [(D.agg c112), (D.v (.int .i64 Zfi)), (D.v (.int .i64 (0 : Int)))])
 else none
 else none
 else none
 else none
 else none
 else none
 else none) = r) : ∀ (c i : Nat), n - i < c → i ≤ n →
    Z1x m n0 c Zfz Zg0 Zij Zfi q96 ((goI A i).length) n Z1mb (n : Int) (i : Int) Z1na Z1nb Z1nc Z1nd Z1ne Z1es Z1et Z1eu Z1ev Z1ew Z1ex (bfn (fun j => !A j) n) Z1a9 Z1aa Z1ab Z1ey Z1ez Z1f0 Z1f1 Z1f2 ((goI A i).length * 1) (ints (goI A i)) = r
  | 0, i, hc, hi => by omega
  | c + 1, i, hc, hi => by
    have hgl := Z11a A i
    rw [Zg2]
    by_cases hlt : i < n
    · have ih := Zqi (m := m) (n0 := n0) (Zfz := Zfz) (Zg0 := Zg0) (Zij := Zij) (Zfi := Zfi) (q96 := q96) (Z1mb := Z1mb) (Z1na := Z1na) (Z1nb := Z1nb) (Z1nc := Z1nc) (Z1nd := Z1nd) (Z1ne := Z1ne) (Z1es := Z1es) (Z1et := Z1et) (Z1eu := Z1eu) (Z1ev := Z1ev) (Z1ew := Z1ew) (Z1ex := Z1ex) (Z1a9 := Z1a9) (Z1aa := Z1aa) (Z1ab := Z1ab) (Z1ey := Z1ey) (Z1ez := Z1ez) (Z1f0 := Z1f0) (Z1f1 := Z1f1) (Z1f2 := Z1f2) hn hE c (i + 1) (by omega) (by omega)
      rw [Z185] at ih
      simp only [Int.toNat_natCast, Nat.zero_add, Nat.mul_one]
      simp only [Nat.mul_one] at ih
      refine st_cT (decide_eq_true (by omega)) ?_
      refine st_if (by omega) ?_
      refine Z0 (Zl9 hlt) ?_
      rw [Zj (by omega)]
      cases ha : A i with
      | false =>
        refine st_cT rfl ?_
        refine st_if ⟨rfl, by first | rfl | trivial, by constructor <;> omega, by first | rfl | trivial⟩ ?_
        rw [ha, if_pos rfl, List.length_append, List.length_singleton, Z77, Zh1] at ih
        exact ih
      | true =>
        refine st_cF rfl ?_
        rw [ha, if_neg (by decide)] at ih
        exact ih
    · obtain rfl : i = n := by omega
      refine st_cF (decide_eq_false (by omega)) ?_
      exact hE

theorem Znb {m a0_0n : Nat} {a0_0c : Option Nat} {a0_0 : List D} {a1 : Int} {a2n : Nat} {a2c : Option Nat} {a2 : List D} {q25 : Sl} {Z1nf : Nat} {Z1ng : Option Nat} {Z1nh : List D} {Z1kq : Nat} {Z1kr : Option Nat} {Z1ks : List D} {Z1ac : Nat} {Z1f4 Z1f5 : List D} {Z1f6 : Int} {n : Nat} {A : Nat → Bool} (hn : n < 100000) {r : Option D} (hE : (if (0 + (((goI A n).length) * 1)) ≤ ((goI A n).length * 1) then
 (Z2e [(D.agg [(D.list Z1kq Z1kr Z1ks)]), (D.list ((goI A n).length) none (cutL ((goI A n).length * 1) (ints (goI A n)) 0 (((goI A n).length) * 1)))]).bind fun d403 =>
 (rdT d403).bind fun r404 =>
 if List.length r404 = 2 then
 (rdA r404[0]?).bind fun c405 =>
 (rdI .i64 r404[1]?).bind fun x406 =>
 if (0 + (((goI A n).length) * 1)) ≤ ((goI A n).length * 1) then
 if (0 + (((goI A n).length) * 1)) ≤ ((goI A n).length * 1) then
 if (List.length c405) = 1 then
 if (List.length c405) = 1 then
 if (List.length c405) = 1 then
 some (D.tup [(D.agg c405), (D.v (.int .i64 (0 : Int))), (D.v (.int .i64 (0 : Int)))])
 else none
 else none
 else none
 else none
 else none
 else none
 else none) = r) : ∀ (c i : Nat), n - i < c → i ≤ n →
    Z1s m c a0_0n a0_0c a0_0 a1 a2n a2c a2 q25 ((goI A i).length) n (n : Int) (i : Int) Z1nf Z1ng Z1nh Z1kq Z1kr Z1ks Z1ac Z1f4 Z1f5 (bfn (fun j => !A j) n) Z1f6 ((goI A i).length * 1) (ints (goI A i)) = r
  | 0, i, hc, hi => by omega
  | c + 1, i, hc, hi => by
    have hgl := Z11a A i
    rw [Zeh]
    by_cases hlt : i < n
    · have ih := Znb (m := m) (a0_0n := a0_0n) (a0_0c := a0_0c) (a0_0 := a0_0) (a1 := a1) (a2n := a2n) (a2c := a2c) (a2 := a2) (q25 := q25) (Z1nf := Z1nf) (Z1ng := Z1ng) (Z1nh := Z1nh) (Z1kq := Z1kq) (Z1kr := Z1kr) (Z1ks := Z1ks) (Z1ac := Z1ac) (Z1f4 := Z1f4) (Z1f5 := Z1f5) (Z1f6 := Z1f6) hn hE c (i + 1) (by omega) (by omega)
      rw [Z185] at ih
      simp only [Int.toNat_natCast, Nat.zero_add, Nat.mul_one]
      simp only [Nat.mul_one] at ih
      refine st_cT (decide_eq_true (by omega)) ?_
      refine st_if (by omega) ?_
      refine Z0 (Zl9 hlt) ?_
      rw [Zj (by omega)]
      cases ha : A i with
      | false =>
        refine st_cT rfl ?_
        refine st_if ⟨rfl, by first | rfl | trivial, by constructor <;> omega, by first | rfl | trivial⟩ ?_
        rw [ha, if_pos rfl, List.length_append, List.length_singleton, Z77, Zh1] at ih
        exact ih
      | true =>
        refine st_cF rfl ?_
        rw [ha, if_neg (by decide)] at ih
        exact ih
    · obtain rfl : i = n := by omega
      refine st_cF (decide_eq_false (by omega)) ?_
      exact hE
end Go.Ev

/-
  Trees pruned at a depth.
-/
set_option linter.unusedSimpArgs false
set_option linter.unusedVariables false
set_option maxRecDepth 100000
namespace Go.Ev
open Go

theorem Z1nj {N : List Nd} (hs : Shape N) (d : Nat) : Up N (sweep N d N.length (fun _ => true)) := fun i hi h0 ha => by
  have hp := (hs.par hi h0).2
  rw [Zuj hs d _ hi] at ha
  rw [Zuj hs d _ (by omega)]
  exact Z130 hs d i hi h0 ha
def noT : D := .agg [.list 0 (some 0) []]
theorem Zxy {l : List Cd} (h : CdsB l) (cp : Option Nat) (d : Int) : Zr [.agg [.list l.length cp (cdsC l)], .v (.int .i64 d)] =
    some (if planE (nds l) d ≠ 0 then .tup [noT, .v (.int .i64 (planE (nds l) d))] else delD (leftC l (stays (nds l) d.toNat))) := by
  show Zly M l.length cp (cdsC l) d = _
  unfold Zly
  have hB := h.len
  refine Z0 (Zpe h cp) ?_
  refine Z0 (rdI_v _ _) ?_
  by_cases he : treeErr (nds l) = 0
  · refine st_cF (i_bnf he) ?_
    by_cases h1 : d < 0
    · refine st_cT (decide_eq_true h1) ?_
      rw [Z9o he (.inl h1), if_pos (by decide)]; rfl
    · refine st_cF (decide_eq_false h1) ?_
      by_cases h2 : 64 < d
      · refine st_cT (decide_eq_true h2) ?_
        rw [Z9o he (.inr h2), if_pos (by decide)]; rfl
      · refine st_cF (decide_eq_false h2) ?_
        rw [Zrv he (by omega), if_neg (by decide)]
        have hs : Shape (nds l) := Zf8 h.ok he
        rw [Zkm]
        simp only [Int.toNat_natCast]
        refine st_if ⟨by omega, by omega, by constructor <;> omega⟩ ?_
        refine st_if ⟨by omega, by omega, by constructor <;> omega⟩ ?_
        refine st_if ⟨by omega, by omega, by constructor <;> omega⟩ ?_
        have e1 : (List.replicate l.length [D.v (.int .i64 0)]).flatten = ints (dps (nds l) 0 l.length) := by rw [Zyn, Zyp]
        have e2 : (List.replicate l.length [D.v (.int .i64 0)]).flatten = ifn (ckF (nds l) 0) l.length := by rw [Z156]; exact Z9m fun j _ => rfl
        rw [Z1ah]
        conv => lhs; arg 16; rw [e1]
        conv => lhs; arg 17; rw [e2]
        refine Zrt h hs ?_ M 0 (by unfold M; omega) (by omega)
        rw [ck_ki]
        obtain ⟨k, rfl⟩ : ∃ k : Nat, d = (k : Int) := ⟨d.toNat, by omega⟩
        rw [Int.toNat_natCast, Z7e (by omega) (by omega)]
        refine Zvq (d := k) h hs M l.length tt (by unfold M; omega) (Nat.le_refl _) ?_
        refine Ztl (n := l.length) (A := sweep (nds l) k l.length tt) hB ?_ M 0 (by unfold M; omega) (by omega)
        have hil := Zar (goI (sweep (nds l) k l.length tt) l.length)
        refine st_if (by omega) ?_
        rw [Nat.mul_one, Z5h hil]
        have hup := Z1nj hs k
        rw [Zm] at hup
        refine Z0 (Zyr h he hup cp) ?_
        refine Z0 rfl ?_
        refine st_if rfl ?_
        refine Z0 rfl ?_
        refine Z0 rfl ?_
        refine st_if (by omega) ?_
        refine st_if (by omega) ?_
        refine st_if rfl ?_
        refine st_if rfl ?_
        refine st_if rfl ?_
        have ec : leftC l (sweep (nds l) k l.length tt) = leftC l (stays (nds l) k) := Z11b (fun i hi => by have := Zuj hs k i (by rw [Zm]; exact hi); rw [Zm] at this; exact this) hs
        rw [← ec]
        rfl
  · refine st_cT (i_bne he) ?_
    refine st_cT (i_bne he) ?_
    rw [Ztk he, if_pos he]; rfl
end Go.Ev

/-
  The nodes that stay; a node removed.
-/
set_option linter.unusedSimpArgs false
set_option linter.unusedVariables false
set_option maxRecDepth 100000
namespace Go.Ev
open Go

def inI (A : Nat → Bool) (i : Nat) : List Int := ((List.range i).filter A).map fun j : Nat => (j : Int)
theorem Z186 (A : Nat → Bool) (i : Nat) : inI A (i + 1) = if A i = true then inI A i ++ [(i : Int)] else inI A i := by
  unfold inI
  rw [List.range_succ, List.filter_append, List.map_append]
  by_cases h : A i = true
  · rw [if_pos h, List.filter_cons_of_pos h]; rfl
  · rw [if_neg h, List.filter_cons_of_neg h]; simp
theorem Z15g (A : Nat → Bool) (i : Nat) : (inI A i).length ≤ i := by
  unfold inI
  rw [List.length_map]
  exact Nat.le_trans (List.length_filter_le _ _) (by simp)
theorem Z1lv {A B : Nat → Bool} {n : Nat} (h : ∀ i, i < n → A i = B i) : inI A n = inI B n := by
  unfold inI
  rw [List.filter_congr fun i hi => h i (List.mem_range.1 hi)]
theorem Z1h7 {m Zg0 Zz2 : Nat} {Zzt : Option Nat} {Zzu : List D} {Zzv : Nat} {Zzw : Option Nat} {Zzx : List D} {Znt : Nat} {Znu : List D} {Znv : Nat} {Znw : List D} {Znx Zqq : Nat} {Zla : Option Nat} {Zlb : List D} {Zlc : Int} {Zny Zgo Znz Zgp : Nat} {n : Nat} {A : Nat → Bool} (hn : n < 100000) : ∀ (c i : Nat), n - i < c → i ≤ n →
    Z1y m c n Zg0 (n : Int) (i : Int) Zz2 Zzt Zzu Zzv Zzw Zzx Znt Znu Znv Znw Znx (bfn (fun j => !A j) n) Zqq Zla Zlb Zlc Zny Zgo Znz Zgp ((inI A i).length) ((inI A i).length * 1) (ints (inI A i)) =
    some (.tup [.list (inI A n).length (some (inI A n).length) (ints (inI A n)), .v (.int .i64 0)])
  | 0, i, hc, hi => by omega
  | c + 1, i, hc, hi => by
    have hgl := Z15g A i
    rw [Zg4]
    by_cases hlt : i < n
    · have ih := Z1h7 (m := m) (Zg0 := Zg0) (Zz2 := Zz2) (Zzt := Zzt) (Zzu := Zzu) (Zzv := Zzv) (Zzw := Zzw) (Zzx := Zzx) (Znt := Znt) (Znu := Znu) (Znv := Znv) (Znw := Znw) (Znx := Znx) (Zqq := Zqq) (Zla := Zla) (Zlb := Zlb) (Zlc := Zlc) (Zny := Zny) (Zgo := Zgo) (Znz := Znz) (Zgp := Zgp) (A := A) hn c (i + 1) (by omega) (by omega)
      rw [Z186] at ih
      simp only [Int.toNat_natCast, Nat.zero_add, Nat.mul_one]
      simp only [Nat.mul_one] at ih
      refine st_cT (decide_eq_true (by omega)) ?_
      refine st_if (by omega) ?_
      refine Z0 (Zl9 hlt) ?_
      rw [Zj (by omega), Bool.not_not]
      cases ha : A i with
      | true =>
        refine st_cT rfl ?_
        refine st_if ⟨rfl, by first | rfl | trivial, by constructor <;> omega, by first | rfl | trivial⟩ ?_
        rw [ha, if_pos rfl, List.length_append, List.length_singleton, Z77, Zh1] at ih
        exact ih
      | false =>
        refine st_cF rfl ?_
        rw [ha, if_neg (by decide)] at ih
        exact ih
    · obtain rfl : i = n := by omega
      have hil := Zar (inI A i)
      refine st_cF (decide_eq_false (by omega)) ?_
      rw [Z118]
      refine st_if (by omega) ?_
      simp only [Nat.mul_one]
      rw [Z5h hil]
      refine Z0 (Z13d (by omega) none) ?_
      refine Z0 (rdL_v _ _ _) ?_
      refine st_if (by omega) ?_
      rfl
theorem Z1h8 {l : List Cd} (h : CdsB l) (cp : Option Nat) (d : Int) : Z3i [.agg [.list l.length cp (cdsC l)], .v (.int .i64 d)] =
    some (if planE (nds l) d ≠ 0 then .tup [.list 0 (some 0) [], .v (.int .i64 (planE (nds l) d))] else .tup [.list (inI (stays (nds l) d.toNat) l.length).length (some (inI (stays (nds l) d.toNat) l.length).length) (ints (inI (stays (nds l) d.toNat) l.length)), .v (.int .i64 0)]) := by
  show Zlz M l.length cp (cdsC l) d = _
  unfold Zlz
  have hB := h.len
  refine Z0 (Zpe h cp) ?_
  refine Z0 (rdI_v _ _) ?_
  by_cases he : treeErr (nds l) = 0
  · refine st_cF (i_bnf he) ?_
    by_cases h1 : d < 0
    · refine st_cT (decide_eq_true h1) ?_
      rw [Z9o he (.inl h1), if_pos (by decide)]
    · refine st_cF (decide_eq_false h1) ?_
      by_cases h2 : 64 < d
      · refine st_cT (decide_eq_true h2) ?_
        rw [Z9o he (.inr h2), if_pos (by decide)]
      · refine st_cF (decide_eq_false h2) ?_
        rw [Zrv he (by omega), if_neg (by decide)]
        have hs : Shape (nds l) := Zf8 h.ok he
        rw [Zkn]
        simp only [Int.toNat_natCast]
        refine st_if ⟨by omega, by omega, by constructor <;> omega⟩ ?_
        refine st_if ⟨by omega, by omega, by constructor <;> omega⟩ ?_
        refine st_if ⟨by omega, by omega, by constructor <;> omega⟩ ?_
        have e1 : (List.replicate l.length [D.v (.int .i64 0)]).flatten = ints (dps (nds l) 0 l.length) := by rw [Zyn, Zyp]
        have e2 : (List.replicate l.length [D.v (.int .i64 0)]).flatten = ifn (ckF (nds l) 0) l.length := by rw [Z156]; exact Z9m fun j _ => rfl
        rw [Z1ah]
        conv => lhs; arg 16; rw [e1]
        conv => lhs; arg 17; rw [e2]
        refine Zru h hs ?_ M 0 (by unfold M; omega) (by omega)
        rw [ck_ki]
        obtain ⟨k, rfl⟩ : ∃ k : Nat, d = (k : Int) := ⟨d.toNat, by omega⟩
        rw [Int.toNat_natCast, Z7e (by omega) (by omega)]
        refine Zvr (d := k) h hs M l.length tt (by unfold M; omega) (Nat.le_refl _) ?_
        have ec : inI (sweep (nds l) k l.length tt) l.length = inI (stays (nds l) k) l.length := Z1lv (fun i hi => by have := Zuj hs k i (by rw [Zm]; exact hi); rw [Zm] at this; exact this)
        rw [← ec]
        exact Z1h7 (n := l.length) (A := sweep (nds l) k l.length tt) hB M 0 (by unfold M; omega) (by omega)
  · refine st_cT (i_bne he) ?_
    refine st_cT (i_bne he) ?_
    rw [Ztk he, if_pos he]
end Go.Ev

/-
  A childless node removed.
-/
set_option linter.unusedSimpArgs false
set_option linter.unusedVariables false
set_option maxRecDepth 100000
namespace Go.Ev
open Go

def remD (l : List Cd) (d at_ : Int) : D :=
  if at_ < 0 ∨ (l.length : Int) ≤ at_ then .tup [noT, .v (.int .i64 19)]
  else if chl (nds l) tt d.toNat at_.toNat = false then .tup [noT, .v (.int .i64 21)]
  else delD (leftC l (del tt at_.toNat))
theorem Z15h {l : List Cd} (h : CdsB l) (cp : Option Nat) (d at_ : Int) : Z2i [.agg [.list l.length cp (cdsC l)], .v (.int .i64 d), .v (.int .i64 at_)] =
    some (if planE (nds l) d ≠ 0 then .tup [noT, .v (.int .i64 (planE (nds l) d))] else remD l d at_) := by
  show Zk0 M l.length cp (cdsC l) d at_ = _
  unfold Zk0
  have hB := h.len
  refine Z0 (Zpe h cp) ?_
  refine Z0 (rdI_v _ _) ?_
  by_cases he : treeErr (nds l) = 0
  · refine st_cF (i_bnf he) ?_
    by_cases h1 : d < 0
    · refine st_cT (decide_eq_true h1) ?_
      rw [Z9o he (.inl h1), if_pos (by decide)]; rfl
    · refine st_cF (decide_eq_false h1) ?_
      by_cases h2 : 64 < d
      · refine st_cT (decide_eq_true h2) ?_
        rw [Z9o he (.inr h2), if_pos (by decide)]; rfl
      · refine st_cF (decide_eq_false h2) ?_
        rw [Zrv he (by omega), if_neg (by decide)]
        have hs : Shape (nds l) := Zf8 h.ok he
        rw [Zjz]
        simp only [Int.toNat_natCast]
        refine st_if ⟨by omega, by omega, by constructor <;> omega⟩ ?_
        refine st_if ⟨by omega, by omega, by constructor <;> omega⟩ ?_
        refine st_if ⟨by omega, by omega, by constructor <;> omega⟩ ?_
        have e1 : (List.replicate l.length [D.v (.int .i64 0)]).flatten = ints (dps (nds l) 0 l.length) := by rw [Zyn, Zyp]
        have e2 : (List.replicate l.length [D.v (.int .i64 0)]).flatten = ifn (ckF (nds l) 0) l.length := by rw [Z156]; exact Z9m fun j _ => rfl
        rw [Z1ah]
        conv => lhs; arg 17; rw [e1]
        conv => lhs; arg 18; rw [e2]
        refine Zqh h hs ?_ M 0 (by unfold M; omega) (by omega)
        rw [ck_ki]
        obtain ⟨k, rfl⟩ : ∃ k : Nat, d = (k : Int) := ⟨d.toNat, by omega⟩
        unfold remD
        by_cases h3 : at_ < 0
        · refine st_cT (decide_eq_true h3) ?_
          rw [if_pos (.inl h3)]; rfl
        · refine st_cF (decide_eq_false h3) ?_
          by_cases h4 : (l.length : Int) ≤ at_
          · refine st_cT (decide_eq_true h4) ?_
            rw [if_pos (.inr h4)]; rfl
          · refine st_cF (decide_eq_false h4) ?_
            rw [if_neg (by omega)]
            obtain ⟨q, rfl⟩ : ∃ q : Nat, at_ = (q : Int) := ⟨at_.toNat, by omega⟩
            have hlt : q < l.length := by omega
            have hn : q < (nds l).length := by rw [Zm]; exact hlt
            rw [Int.toNat_natCast, Int.toNat_natCast]
            have hch := chl_eq (nds l) tt k q
            have ht : tt q = true := rfl
            rw [ht, Bool.true_and] at hch
            rw [Zw2]
            simp only [Int.toNat_natCast, Nat.zero_add, Nat.mul_one]
            refine st_if (by omega) ?_
            refine Z0 (Zl9 hlt) ?_
            refine st_cT rfl ?_
            refine st_if (by omega) ?_
            refine Z0 (dps_at hlt hlt) ?_
            by_cases hd : dep (nds l) q < k
            · refine st_cT (decide_eq_true (by omega)) ?_
              refine st_if (by omega) ?_
              refine Z0 (Zed hlt) ?_
              by_cases hk : kids (nds l) tt q = 0
              · have hc1 : chl (nds l) tt k q = true := by rw [hch, decide_eq_true hd, decide_eq_true hk]; rfl
                rw [hc1, if_neg (show ¬ ((true : Bool) = false) by decide)]
                have e0 : (kiF (nds l) tt q == (0 : Int)) = true := i_eq (by unfold kiF; omega)
                refine st_cF (by rw [e0]; rfl) ?_
                refine st_if (by omega) ?_
                refine st_if ⟨by first | rfl | trivial, by omega⟩ ?_
                rw [Z13e]
                have hup : Up (nds l) (del tt q) := (Live.del hs (Live.all (nds l) k) hn hc1).up
                have fin : ∀ {r : Option D}, some (delD (leftC l (del tt q))) = r → (Z2e [.agg [.list l.length cp (cdsC l)], .list (goI (del tt q) l.length).length none (ints (goI (del tt q) l.length))]) = r := fun e => (Zyr h he hup cp).trans e
                by_cases h0 : 0 < q
                · refine st_cT (decide_eq_true (by omega)) ?_
                  have hp := hs.par hn h0
                  rw [Z63 hlt] at hp
                  have hpt : l[q].n.par.toNat = parN (nds l) q := by omega
                  have hko := Z13f h0 hlt ht
                  have hkl := Z1ai (N := nds l) (A := tt) (parN (nds l) q)
                  rw [Zm] at hkl
                  refine st_if (by omega) ?_
                  refine Z0 (Z67 h.ok hlt) ?_
                  refine st_if (by omega) ?_
                  rw [hpt]
                  refine Z0 (Zed (by omega)) ?_
                  refine st_if (by omega) ?_
                  refine st_if ⟨by first | rfl | trivial, by omega⟩ ?_
                  refine Zk3 (n := l.length) (A := del tt q) hB ?_ M 0 (by unfold M; omega) (by omega)
                  have hil := Zar (goI (del tt q) l.length)
                  refine st_if (by omega) ?_
                  rw [Nat.mul_one, Z5h hil]
                  refine Z0 (Zyr h he hup cp) ?_
                  refine Z0 rfl ?_
                  refine st_if rfl ?_
                  refine Z0 rfl ?_
                  refine Z0 rfl ?_
                  refine st_if (by omega) ?_
                  refine st_if (by omega) ?_
                  refine st_if rfl ?_
                  refine st_if rfl ?_
                  refine st_if rfl ?_
                  rfl
                · refine st_cF (decide_eq_false (by omega)) ?_
                  refine Zk3 (n := l.length) (A := del tt q) hB ?_ M 0 (by unfold M; omega) (by omega)
                  have hil := Zar (goI (del tt q) l.length)
                  refine st_if (by omega) ?_
                  rw [Nat.mul_one, Z5h hil]
                  refine Z0 (Zyr h he hup cp) ?_
                  refine Z0 rfl ?_
                  refine st_if rfl ?_
                  refine Z0 rfl ?_
                  refine Z0 rfl ?_
                  refine st_if (by omega) ?_
                  refine st_if (by omega) ?_
                  refine st_if rfl ?_
                  refine st_if rfl ?_
                  refine st_if rfl ?_
                  rfl
              · have e0 : (kiF (nds l) tt q == (0 : Int)) = false := i_ne (by unfold kiF; omega)
                refine st_cT (by rw [e0]; rfl) ?_
                rw [hch, decide_eq_false hk, Bool.and_false, if_pos rfl]; rfl
            · refine st_cF (decide_eq_false (by omega)) ?_
              rw [hch, decide_eq_false hd, Bool.false_and, if_pos rfl]; rfl
  · refine st_cT (i_bne he) ?_
    refine st_cT (i_bne he) ?_
    rw [Ztk he, if_pos he]; rfl
end Go.Ev
