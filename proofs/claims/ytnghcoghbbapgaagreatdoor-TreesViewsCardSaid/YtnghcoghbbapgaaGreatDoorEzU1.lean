/-
 The reference's depths, children, and deletions.
-/
import Derived.Test.YtnghcoghbbapgaaGreatDoorEzU0
import Derived.Test.YtnghcoghbbapgaaGreatDoorEzG5
set_option linter.unusedSimpArgs false
set_option linter.unusedVariables false
set_option maxRecDepth 100000
namespace Go.Ev
open Go
def Pt (l : List Cd) (n : Nat) : Prop := ∀ j (h : j < l.length), 0 < j → j < n → 0 ≤ l[j].n.par ∧ l[j].n.par < (j : Int)
theorem Pt.of {l : List Cd} (h : Shape (nds l)) (n : Nat) : Pt l n := fun j hj h0 _ => by
 have := h.par (i := j) (by rw [Z1r]; exact hj) h0
 rw [Zbf hj] at this; omega
theorem Pt.to {l : List Cd} {n : Nat} (h : Pt l n) : To (nds l) n := fun j h0 hj => by
 by_cases hl : j < l.length
 ·have := h j hl h0 hj
  rw [Z1kv hl]; omega
 ·unfold parN
  rw [List.getElem?_eq_none (by rw [Z1r]; omega)]; exact h0
theorem Pt.parN {l : List Cd} {n : Nat} (h : Pt l n) {j : Nat} (hl : j < l.length) (h0 : 0 < j) (hj : j < n) : l[j].n.par = (parN (nds l) j : Int) ∧ Go.Ev.parN (nds l) j < j := by
 have := h j hl h0 hj
 rw [Z1kv hl]; omega
theorem Z1vc {m n : Nat} {l : List Cd} (h : CdsB l) (hp : Pt l n) (cp : Option Nat) : ∀ (c i d : Nat), i < c → i < n → i < l.length → d + i < 1000000 →
  Zo1 m c (i : Int) (d : Int) l.length cp (cdsC l) = some (.v (.int .i64 ((d + dep (nds l) i : Nat) : Int)))
 | 0, i, d, hc, hn, hi, hd => by omega
 | c + 1, i, d, hc, hn, hi, hd => by
  rw [Z1gt]
  simp only [Int.toNat_natCast]
  by_cases h0 : 0 < i
  ·have hpp := hp.parN hi h0 hn
   refine st_cT (decide_eq_true (by omega)) ?_
   refine st_if (by omega) ?_
   refine Z0 (Z8u h.ok hi) ?_
   refine st_cF (decide_eq_false (by omega)) ?_
   refine st_if (by omega) ?_
   refine Z0 (Z8u h.ok hi) ?_
   refine st_cF (decide_eq_false (by omega)) ?_
   rw [Z1er]
   simp only [Int.toNat_natCast]
   refine st_if (by omega) ?_
   refine Z0 (Z8u h.ok hi) ?_
   rw [hpp.1, Z14 (by omega), Z1vc h hp cp c (parN (nds l) i) (d + 1) (by omega) (by omega) (by omega) (by omega), dep_to hp.to hn h0]
   rw [show d + (dep (nds l) (parN (nds l) i) + 1) = d + 1 + dep (nds l) (parN (nds l) i) by omega]
  ·obtain rfl : i = 0 := by omega
   refine st_cF (decide_eq_false (by omega)) ?_
   rw [Z21p]; rfl
theorem Z1ws {n : Nat} {l : List Cd} (h : CdsB l) (hp : Pt l n) (cp : Option Nat) {i : Nat} (hi : i < l.length) (hn : i < n) : Z2n [.agg [.list l.length cp (cdsC l)], .v (.int .i64 (i : Int))] = some (.v (.int .i64 (dep (nds l) i : Int))) := by
 show Zvg M l.length cp (cdsC l) (i : Int) = _
 unfold Zvg
 have hB := h.len
 have := Z1vc (m := M) h hp cp M i 0 (by unfold M; omega) hn hi (by omega)
 rw [Nat.zero_add] at this
 exact this
theorem Z1a4 {l : List Cd} (h : CdsB l) (hs : Shape (nds l)) (cp : Option Nat) {i : Nat} (hi : i < l.length) : Z2n [.agg [.list l.length cp (cdsC l)], .v (.int .i64 (i : Int))] = some (.v (.int .i64 (dep (nds l) i : Int))) :=
 Z1ws h (Pt.of hs (i + 1)) cp hi (by omega)
def parI (N : List Nd) (i : Nat) : Int := match N[i]? with
 | none => -1
 | some n => n.par
theorem Z1kz {l : List Cd} {i : Nat} (h : i < l.length) : parI (nds l) i = l[i].n.par := by unfold parI; rw [Z142 h]
def chF (N : List Nd) (p : Int) (j : Nat) : Bool := decide (parI N j = p)
theorem Z1n4 {m : Nat} {l : List Cd} (h : CdsB l) (cp : Option Nat) (p : Int) : ∀ (c i : Nat), l.length - i < c → i ≤ l.length →
  Z8r m c p ((inI (chF (nds l) p) i).length) (i : Int) l.length cp (cdsC l) ((inI (chF (nds l) p) i).length * 1) (ints (inI (chF (nds l) p) i)) =
  some (.list (inI (chF (nds l) p) l.length).length none (ints (inI (chF (nds l) p) l.length)))
 | 0, i, hc, hi => by omega
 | c + 1, i, hc, hi => by
  have hB := h.len
  have hil := Z1hb (chF (nds l) p) i
  rw [Z1ab]
  simp only [Int.toNat_natCast, Nat.mul_one]
  by_cases hlt : i < l.length
  ·have ih := Z1n4 (m := m) h cp p c (i + 1) (by omega) (by omega)
   rw [Z1kx] at ih
   simp only [Nat.mul_one] at ih
   refine st_cT (decide_eq_true (by omega)) ?_
   refine st_if (by omega) ?_
   refine Z0 (Z8u h.ok hlt) ?_
   by_cases hp : l[i].n.par = p
   ·have hc : chF (nds l) p i = true := by unfold chF; rw [Z1kz hlt]; exact decide_eq_true hp
    refine st_cT (i_eq hp) ?_
    refine st_if ⟨rfl, by first | rfl | trivial, by constructor <;> omega, by first | rfl | trivial⟩ ?_
    rw [Z17y, Z14 (by omega)]
    rw [if_pos hc, List.length_append, List.length_singleton, Zx8, Z1kw] at ih
    exact ih
   ·have hc : ¬ chF (nds l) p i = true := by unfold chF; rw [Z1kz hlt, decide_eq_false hp]; decide
    refine st_cF (i_ne hp) ?_
    rw [Z13w, Z14 (by omega)]
    rw [if_neg hc] at ih
    exact ih
  ·obtain rfl : i = l.length := by omega
   refine st_cF (decide_eq_false (by omega)) ?_
   refine st_if (by omega) ?_
   rw [Z71 (Z13z _)]
theorem Z1fa {l : List Cd} (h : CdsB l) (cp : Option Nat) (p : Int) : Z2h [.agg [.list l.length cp (cdsC l)], .v (.int .i64 p)] = some (.list (inI (chF (nds l) p) l.length).length none (ints (inI (chF (nds l) p) l.length))) := by
 show Zk2 M l.length cp (cdsC l) p = _
 unfold Zk2
 have hB := h.len
 exact Z1n4 h cp p M 0 (by unfold M; omega) (by omega)
def b01 (b : Bool) : Int := cond b 1 0
section
variable {l : List Cd} {at_ : List Int}
theorem und_in {m n0 : Nat} (h : CdsB l) (hb : at_.length < 1000000000) (cp ac : Option Nat) {i : Nat} (hi : i < l.length) {r : Option D}
  (hE : Zad m n0 (l[i].n.par) at_.length ac (ints at_) l.length cp (cdsC l) = r) : ∀ (c k : Nat), at_.length - k < c → k ≤ at_.length →
  Zof m n0 c (i : Int) at_.length ac (ints at_) (k : Int) l.length cp (cdsC l) = if (at_.drop k).contains (i : Int) then some (.v (.int .i64 1)) else r
 | 0, k, hc, hk => by omega
 | c + 1, k, hc, hk => by
  rw [Z1hc]
  simp only [Int.toNat_natCast, Nat.mul_one]
  by_cases hlt : k < at_.length
  ·have hg : at_.getD k 0 = at_[k] := by simp [hlt]
   rw [List.drop_eq_getElem_cons hlt, List.contains_cons]
   refine st_cT (decide_eq_true (by omega)) ?_
   refine st_if (by omega) ?_
   refine Z0 ((Z1et hlt).trans (by rw [hg])) ?_
   by_cases he : at_[k] = (i : Int)
   ·refine st_cT (i_eq he) ?_
    rw [he]; simp
   ·refine st_cF (i_ne he) ?_
    rw [Z14 (by omega), und_in h hb cp ac hi hE c (k + 1) (by omega) (by omega)]
    rw [i_ne (a := (i : Int)) (b := at_[k]) (by omega), Bool.false_or]
  ·obtain rfl : k = at_.length := by omega
   rw [List.drop_length, List.contains_nil]
   refine st_cF (decide_eq_false (by omega)) ?_
   refine st_if (by omega) ?_
   refine Z0 (Z8u h.ok hi) ?_
   exact hE
theorem Z20m {m : Nat} (hm : 1000000000 < m) (h : CdsB l) (hs : Shape (nds l)) (hb : at_.length < 1000000000) (cp ac : Option Nat) : ∀ (c i : Nat), i + 1 < c → i < l.length →
  Zad m c (i : Int) at_.length ac (ints at_) l.length cp (cdsC l) = some (.v (.int .i64 (b01 (und (nds l) at_ i))))
 | 0, i, hc, hi => by omega
 | c + 1, i, hc, hi => by
  have hn : i < (nds l).length := by rw [Z1r]; exact hi
  rw [Z124]
  refine st_cT (decide_eq_true (by omega)) ?_
  rw [Zk3 hs at_ hn]
  by_cases h0 : 0 < i
  ·have hp := (Pt.of hs (i + 1)).parN hi h0 (by omega)
   have ih := Z20m (m := m) hm h hs hb cp ac c (parN (nds l) i) (by omega) (by omega)
   rw [← hp.1] at ih
   refine (und_in (m := m) h hb cp ac hi ih m 0 (by omega) (by omega)).trans ?_
   rw [List.drop_zero, decide_eq_true h0, Bool.true_and]
   cases at_.contains (i : Int) with
   | true => rfl
   | false => rfl
  ·obtain rfl : i = 0 := by omega
   have hr := hs.root _ (Z142 hi)
   have e : Zad m c (l[0].n.par) at_.length ac (ints at_) l.length cp (cdsC l) = some (.v (.int .i64 0)) := by
    rw [hr]
    obtain ⟨c', rfl⟩ : ∃ c', c = c' + 1 := ⟨c - 1, by omega⟩
    rw [Z124]
    refine st_cF (decide_eq_false (by omega)) ?_
    rfl
   refine (und_in (m := m) h hb cp ac hi e m 0 (by omega) (by omega)).trans ?_
   rw [List.drop_zero]
   cases at_.contains ((0 : Nat) : Int) with
   | true => rfl
   | false => rfl
theorem Z1vd (h : CdsB l) (hs : Shape (nds l)) (hb : at_.length < 1000000000) (cp ac : Option Nat) {i : Nat} (hi : i < l.length) :
  Zcf [.agg [.list l.length cp (cdsC l)], .v (.int .i64 (i : Int)), .list at_.length ac (ints at_)] = some (.v (.int .i64 (b01 (und (nds l) at_ i)))) := by
 show Zvl M l.length cp (cdsC l) (i : Int) at_.length ac (ints at_) = _
 unfold Zvl
 have hB := h.len
 exact Z20m (by unfold M; omega) h hs hb cp ac M i (by unfold M; omega) hi
theorem Z20n {m n0 : Nat} (h : CdsB l) (hs : Shape (nds l)) (hb : at_.length < 1000000000) (cp ac : Option Nat) {i : Nat} (hi : i < l.length) (hk : kpF l at_ i = true) {r : Option D}
  (hE : Z8i m n0 at_.length ac (ints at_) ((i + 1 : Nat) : Int) l.length cp (cdsC l) ((sbC l (kpF l at_) (i + 1)).length) ((sbC l (kpF l at_) (i + 1)).length * 20) (cdsC (sbC l (kpF l at_) (i + 1))) = r) : ∀ (c k : Nat), i + 2 - k < c → k ≤ l[i].n.par.toNat →
  Zk7 m n0 c at_.length ac (ints at_) (i : Int) ((k : Int) - (rk (kpF l at_) k : Int)) (k : Int) l.length cp (cdsC l) ((sbC l (kpF l at_) i).length) ((sbC l (kpF l at_) i).length * 20) (cdsC (sbC l (kpF l at_) i)) (l[i].cells) = r
 | 0, k, hc, hkl => by
  by_cases h0 : 0 < i
  ·have hp := (Pt.of hs (i + 1)).parN hi h0 (by omega)
   omega
  ·obtain rfl : i = 0 := by omega
   have hr := hs.root _ (Z142 hi)
   omega
 | c + 1, k, hc, hkl => by
  have hB := h.len
  have hn : i < (nds l).length := by rw [Z1r]; exact hi
  have hok := h.ok _ (List.getElem_mem hi)
  have hrk := rk_le (kpF l at_) k
  have hsl := Z20g (l := l) (A := kpF l at_) (i := i) (by omega)
  have hrki := rk_le (kpF l at_) i
  have hpb : l[i].n.par < (i : Int) ∧ -1 ≤ l[i].n.par := by
   by_cases h0 : 0 < i
   ·have hp := (Pt.of hs (i + 1)).parN hi h0 (by omega)
    omega
   ·obtain rfl : i = 0 := by omega
    have hr := hs.root _ (Z142 hi)
    omega
  rw [Z1f4]
  refine Z0 (Z3g (Cd.at0 _)) ?_
  by_cases hlt : (k : Int) < l[i].n.par
  ·refine st_cT (decide_eq_true hlt) ?_
   refine Z0 (Z1vd h hs hb cp ac (i := k) (by omega)) ?_
   refine Z0 (rdI_v _ _) ?_
   have ih := Z20n (m := m) h hs hb cp ac hi hk hE c (k + 1) (by omega) (by omega)
   have hs1 : (k : Int) - (rk (kpF l at_) k : Int) + b01 (und (nds l) at_ k) = ((k + 1 : Nat) : Int) - (rk (kpF l at_) (k + 1) : Int) := by
    rw [rk]
    unfold kpF
    cases und (nds l) at_ k with
    | true => simp [b01]; omega
    | false => simp [b01]; omega
   have hb1 : 0 ≤ b01 (und (nds l) at_ k) ∧ b01 (und (nds l) at_ k) ≤ 1 := by cases und (nds l) at_ k <;> simp [b01]
   rw [Z10i (by omega) (by omega), hs1, Z14 (by omega)]
   exact ih
  ·refine st_cF (decide_eq_false hlt) ?_
   refine Z0 (Z3g (Cd.at0 _)) ?_
   have hres : IntKind.wrap .i64 (l[i].n.par - ((k : Int) - (rk (kpF l at_) k : Int))) = (mvC l (kpF l at_) l[i]).n.par := by
    rw [Z10i (by omega) (by omega)]
    unfold mvC mv
    by_cases hneg : l[i].n.par < 0
    ·have hk0 : k = 0 := by omega
     subst hk0
     rw [if_pos hneg]
     simp [rk]
    ·rw [if_neg hneg]
     have : l[i].n.par.toNat = k := by omega
     rw [this]; dsimp only; omega
   have hcl : (mvC l (kpF l at_) l[i]).cells.length = 20 := Cd.cells_len ⟨hok.pol, hok.ex⟩
   have hset : List.set l[i].cells 0 (.v (.int .i64 (mvC l (kpF l at_) l[i]).n.par)) = (mvC l (kpF l at_) l[i]).cells := by
    have e1 : (mvC l (kpF l at_) l[i]).n.pol = l[i].n.pol := rfl
    rfl
   rw [hres, hset]
   refine st_if hcl ?_
   refine st_if ⟨rfl, by first | rfl | trivial, by constructor <;> omega, hcl⟩ ?_
   rw [Z18e, Z14 (by omega)]
   rw [Z1ky hi, if_pos hk, List.length_append, List.length_singleton, Z92, Z144] at hE
   exact hE
theorem Z1xx {m : Nat} (hm : 1000000000 < m) (h : CdsB l) (hs : Shape (nds l)) (hb : at_.length < 1000000000) (cp ac : Option Nat) : ∀ (c i : Nat), l.length - i < c → i ≤ l.length →
  Z8i m c at_.length ac (ints at_) (i : Int) l.length cp (cdsC l) ((sbC l (kpF l at_) i).length) ((sbC l (kpF l at_) i).length * 20) (cdsC (sbC l (kpF l at_) i)) =
  some (.agg [.list (leftR l (kpF l at_)).length none (cdsC (leftR l (kpF l at_)))])
 | 0, i, hc, hi => by omega
 | c + 1, i, hc, hi => by
  have hB := h.len
  have hl := cdsC_len h.ok
  rw [Z1f5]
  simp only [Int.toNat_natCast]
  by_cases hlt : i < l.length
  ·have hok := h.ok _ (List.getElem_mem hlt)
   have ih := Z1xx (m := m) hm h hs hb cp ac c (i + 1) (by omega) (by omega)
   refine st_cT (decide_eq_true (by omega)) ?_
   refine Z0 (Z1vd h hs hb cp ac hlt) ?_
   refine Z0 (rdI_v _ _) ?_
   cases hu : und (nds l) at_ i with
   | true =>
    have hk : kpF l at_ i = false := by unfold kpF; rw [hu]; rfl
    refine st_cT rfl ?_
    rw [Z1ct, Z14 (by omega)]
    rw [Z1ky hlt, if_neg (by rw [hk]; decide)] at ih
    exact ih
   | false =>
    have hk : kpF l at_ i = true := by unfold kpF; rw [hu]; rfl
    refine st_cF rfl ?_
    rw [Zd8 h.ok hlt]
    refine st_if (by omega) ?_
    refine st_if (by omega) ?_
    refine st_if (Cd.cells_len hok) ?_
    have := Z20n (m := m) h hs hb cp ac hlt hk ih m 0 (by omega) (by omega)
    simpa [rk] using this
  ·obtain rfl : i = l.length := by omega
   have hcl := cdsC_len (Z20i h (kpF l at_)).ok
   refine st_cF (decide_eq_false (by omega)) ?_
   refine st_if (by omega) ?_
   rw [Z71 (show (cdsC (sbC l (kpF l at_) l.length)).length = (sbC l (kpF l at_) l.length).length * 20 from hcl)]; rfl
theorem Z1wt (h : CdsB l) (hs : Shape (nds l)) (hb : at_.length < 1000000000) (cp ac : Option Nat) :
  Z4w [.agg [.list l.length cp (cdsC l)], .list at_.length ac (ints at_)] = some (.agg [.list (leftR l (kpF l at_)).length none (cdsC (leftR l (kpF l at_)))]) := by
 show Zrn M l.length cp (cdsC l) at_.length ac (ints at_) = _
 unfold Zrn
 have hB := h.len
 exact Z1xx (by unfold M; omega) h hs hb cp ac M 0 (by unfold M; omega) (by omega)
end
end Go.Ev