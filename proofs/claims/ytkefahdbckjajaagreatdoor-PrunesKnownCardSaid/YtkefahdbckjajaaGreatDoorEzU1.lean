/-
 The reference's depths, children, and deletions.
-/
import Derived.Test.YtkefahdbckjajaaGreatDoorEzU0
import Derived.Test.YtkefahdbckjajaaGreatDoorEzG5
set_option linter.unusedSimpArgs false
set_option linter.unusedVariables false
set_option maxRecDepth 100000
namespace Go.Ev
open Go
def Pt (l : List Cd) (n : Nat) : Prop := ∀ j (h : j < l.length), 0 < j → j < n → 0 ≤ l[j].n.par ∧ l[j].n.par < (j : Int)
theorem Pt.of {l : List Cd} (h : Shape (nds l)) (n : Nat) : Pt l n := fun j hj h0 _ => by
 have := h.par (i := j) (by rw [Zy]; exact hj) h0
 rw [Z6g hj] at this; omega
theorem Pt.to {l : List Cd} {n : Nat} (h : Pt l n) : To (nds l) n := fun j h0 hj => by
 by_cases hl : j < l.length
 ·have := h j hl h0 hj
  rw [Z18t hl]; omega
 ·unfold parN
  rw [List.getElem?_eq_none (by rw [Zy]; omega)]; exact h0
theorem Pt.parN {l : List Cd} {n : Nat} (h : Pt l n) {j : Nat} (hl : j < l.length) (h0 : 0 < j) (hj : j < n) : l[j].n.par = (parN (nds l) j : Int) ∧ Go.Ev.parN (nds l) j < j := by
 have := h j hl h0 hj
 rw [Z18t hl]; omega
theorem Z1ia {m n : Nat} {l : List Cd} (h : CdsB l) (hp : Pt l n) (cp : Option Nat) : ∀ (c i d : Nat), i < c → i < n → i < l.length → d + i < 1000000 →
  Zjx m c (i : Int) (d : Int) l.length cp (cdsC l) = some (.v (.int .i64 ((d + dep (nds l) i : Nat) : Int)))
 | 0, i, d, hc, hn, hi, hd => by omega
 | c + 1, i, d, hc, hn, hi, hd => by
  rw [Z15m]
  simp only [Int.toNat_natCast]
  by_cases h0 : 0 < i
  ·have hpp := hp.parN hi h0 hn
   refine st_cT (decide_eq_true (by omega)) ?_
   refine st_if (by omega) ?_
   refine Z0 (Z6l h.ok hi) ?_
   refine st_cF (decide_eq_false (by omega)) ?_
   refine st_if (by omega) ?_
   refine Z0 (Z6l h.ok hi) ?_
   refine st_cF (decide_eq_false (by omega)) ?_
   rw [Z13t]
   simp only [Int.toNat_natCast]
   refine st_if (by omega) ?_
   refine Z0 (Z6l h.ok hi) ?_
   rw [hpp.1, Zu (by omega), Z1ia h hp cp c (parN (nds l) i) (d + 1) (by omega) (by omega) (by omega) (by omega), dep_to hp.to hn h0]
   rw [show d + (dep (nds l) (parN (nds l) i) + 1) = d + 1 + dep (nds l) (parN (nds l) i) by omega]
  ·obtain rfl : i = 0 := by omega
   refine st_cF (decide_eq_false (by omega)) ?_
   rw [Z1k6]; rfl
theorem Z1jf {n : Nat} {l : List Cd} (h : CdsB l) (hp : Pt l n) (cp : Option Nat) {i : Nat} (hi : i < l.length) (hn : i < n) : Z2m [.agg [.list l.length cp (cdsC l)], .v (.int .i64 (i : Int))] = some (.v (.int .i64 (dep (nds l) i : Int))) := by
 show Zpe M l.length cp (cdsC l) (i : Int) = _
 unfold Zpe
 have hB := h.len
 have := Z1ia (m := M) h hp cp M i 0 (by unfold M; omega) hn hi (by omega)
 rw [Nat.zero_add] at this
 exact this
theorem Zu7 {l : List Cd} (h : CdsB l) (hs : Shape (nds l)) (cp : Option Nat) {i : Nat} (hi : i < l.length) : Z2m [.agg [.list l.length cp (cdsC l)], .v (.int .i64 (i : Int))] = some (.v (.int .i64 (dep (nds l) i : Int))) :=
 Z1jf h (Pt.of hs (i + 1)) cp hi (by omega)
def parI (N : List Nd) (i : Nat) : Int := match N[i]? with
 | none => -1
 | some n => n.par
theorem Z18y {l : List Cd} {i : Nat} (h : i < l.length) : parI (nds l) i = l[i].n.par := by unfold parI; rw [Zv9 h]
def chF (N : List Nd) (p : Int) (j : Nat) : Bool := decide (parI N j = p)
theorem Z1bi {m : Nat} {l : List Cd} (h : CdsB l) (cp : Option Nat) (p : Int) : ∀ (c i : Nat), l.length - i < c → i ≤ l.length →
  Z8w m c p ((inI (chF (nds l) p) i).length) (i : Int) l.length cp (cdsC l) ((inI (chF (nds l) p) i).length * 1) (ints (inI (chF (nds l) p) i)) =
  some (.list (inI (chF (nds l) p) l.length).length none (ints (inI (chF (nds l) p) l.length)))
 | 0, i, hc, hi => by omega
 | c + 1, i, hc, hi => by
  have hB := h.len
  have hil := Z128 (chF (nds l) p) i
  rw [Zzo]
  simp only [Int.toNat_natCast, Nat.mul_one]
  by_cases hlt : i < l.length
  ·have ih := Z1bi (m := m) h cp p c (i + 1) (by omega) (by omega)
   rw [Z18w] at ih
   simp only [Nat.mul_one] at ih
   refine st_cT (decide_eq_true (by omega)) ?_
   refine st_if (by omega) ?_
   refine Z0 (Z6l h.ok hlt) ?_
   by_cases hp : l[i].n.par = p
   ·have hc : chF (nds l) p i = true := by unfold chF; rw [Z18y hlt]; exact decide_eq_true hp
    refine st_cT (i_eq hp) ?_
    refine st_if ⟨rfl, by first | rfl | trivial, by constructor <;> omega, by first | rfl | trivial⟩ ?_
    rw [Zyh, Zu (by omega)]
    rw [if_pos hc, List.length_append, List.length_singleton, Z7l, Zhg] at ih
    exact ih
   ·have hc : ¬ chF (nds l) p i = true := by unfold chF; rw [Z18y hlt, decide_eq_false hp]; decide
    refine st_cF (i_ne hp) ?_
    rw [Zv3, Zu (by omega)]
    rw [if_neg hc] at ih
    exact ih
  ·obtain rfl : i = l.length := by omega
   refine st_cF (decide_eq_false (by omega)) ?_
   refine st_if (by omega) ?_
   rw [Z5k (Zb5 _)]
theorem Z14m {l : List Cd} (h : CdsB l) (cp : Option Nat) (p : Int) : Z6n [.agg [.list l.length cp (cdsC l)], .v (.int .i64 p)] = some (.list (inI (chF (nds l) p) l.length).length none (ints (inI (chF (nds l) p) l.length))) := by
 show Zhb M l.length cp (cdsC l) p = _
 unfold Zhb
 have hB := h.len
 exact Z1bi h cp p M 0 (by unfold M; omega) (by omega)
theorem Z1pr {A : Nat → Bool} {n : Nat} : (inI A n).length = 0 ↔ ∀ i, i < n → A i = false := by
 unfold inI
 rw [List.length_map, List.length_eq_zero_iff, List.filter_eq_nil_iff]
 constructor
 ·intro h i hi
  have := h i (List.mem_range.2 hi)
  cases ha : A i with
  | false => rfl
  | true => exact absurd ha this
 ·intro h i hi
  rw [h i (List.mem_range.1 hi)]; decide
theorem Z1ps {N : List Nd} (hs : Shape N) {q : Nat} (hq : q < N.length) : ((inI (chF N (q : Int)) N.length).length = 0) ↔ kid N tt q = false := by
 rw [Z1pr]
 constructor
 ·intro h
  cases hk : kid N tt q with
  | false => rfl
  | true =>
   obtain ⟨k, h1, h2, _, h4⟩ := Zk6.1 hk
   have := h k h1
   unfold chF parI at this
   rw [List.getElem?_eq_getElem h1] at this
   have hp := hs.par h1 h2
   exact absurd (of_decide_eq_false this) (by simp; omega)
 ·intro h k hk
  unfold chF parI
  rw [List.getElem?_eq_getElem hk]
  refine decide_eq_false fun e => ?_
  dsimp only at e
  by_cases h0 : 0 < k
  ·have hp := hs.par hk h0
   rw [Zk6.2 ⟨k, hk, h0, rfl, by omega⟩] at h; cases h
  ·obtain rfl : k = 0 := by omega
   have := hs.root _ (List.getElem?_eq_getElem hk)
   omega
theorem Z1ds {m : Nat} {l : List Cd} (h : CdsB l) (hs : Shape (nds l)) (cp : Option Nat) (d : Nat) : ∀ (c i : Nat), l.length - i < c → i ≤ l.length →
  Z88 m c (d : Int) ((clI (nds l) tt d i).length) (i : Int) l.length cp (cdsC l) ((clI (nds l) tt d i).length * 1) (ints (clI (nds l) tt d i)) =
  some (.list (clI (nds l) tt d l.length).length none (ints (clI (nds l) tt d l.length)))
 | 0, i, hc, hi => by omega
 | c + 1, i, hc, hi => by
  have hB := h.len
  have hil := Zyv (nds l) tt d i
  rw [Zyz]
  simp only [Int.toNat_natCast, Nat.mul_one]
  by_cases hlt : i < l.length
  ·have hn : i < (nds l).length := by rw [Zy]; exact hlt
   have hck := Z1ps hs hn
   rw [Zy] at hck
   have ih := Z1ds (m := m) h hs cp d c (i + 1) (by omega) (by omega)
   rw [Z18u] at ih
   simp only [Nat.mul_one] at ih
   refine st_cT (decide_eq_true (by omega)) ?_
   refine Z0 (Zu7 h hs cp hlt) ?_
   refine Z0 (rdI_v _ _) ?_
   by_cases hd : dep (nds l) i < d
   ·refine st_cT (decide_eq_true (by omega)) ?_
    refine Z0 (Z14m h cp _) ?_
    refine Z0 (rdL_v _ _ _) ?_
    by_cases hk : kid (nds l) tt i = false
    ·have hc : chl (nds l) tt d i = true := by unfold chl; rw [hk, decide_eq_true hd]; rfl
     refine st_cT (i_eq (by have := hck.2 hk; dsimp only; omega)) ?_
     refine st_if ⟨rfl, by first | rfl | trivial, by constructor <;> omega, by first | rfl | trivial⟩ ?_
     rw [Zwy, Zu (by omega)]
     rw [if_pos hc, List.length_append, List.length_singleton, Z7l, Zhg] at ih
     exact ih
    ·have hc : ¬ chl (nds l) tt d i = true := by
      unfold chl
      cases hq : kid (nds l) tt i with
      | false => exact absurd hq hk
      | true => simp
     refine st_cF (i_ne (fun e => hk (hck.1 (by dsimp only at e; omega)))) ?_
     rw [Zij, Zu (by omega)]
     rw [if_neg hc] at ih
     exact ih
   ·have hc : ¬ chl (nds l) tt d i = true := by unfold chl; rw [decide_eq_false hd]; simp
    refine st_cF (decide_eq_false (by omega)) ?_
    rw [Zij, Zu (by omega)]
    rw [if_neg hc] at ih
    exact ih
  ·obtain rfl : i = l.length := by omega
   refine st_cF (decide_eq_false (by omega)) ?_
   refine st_if (by omega) ?_
   rw [Z5k (Zb5 _)]
theorem Zt1 {l : List Cd} (h : CdsB l) (hs : Shape (nds l)) (cp : Option Nat) (d : Nat) : Z39 [.agg [.list l.length cp (cdsC l)], .v (.int .i64 (d : Int))] = some (.list (clI (nds l) tt d l.length).length none (ints (clI (nds l) tt d l.length))) := by
 show Zfq M l.length cp (cdsC l) (d : Int) = _
 unfold Zfq
 have hB := h.len
 exact Z1ds h hs cp d M 0 (by unfold M; omega) (by omega)
def b01 (b : Bool) : Int := cond b 1 0
section
variable {l : List Cd} {at_ : List Int}
theorem und_in {m n0 : Nat} (h : CdsB l) (hb : at_.length < 1000000000) (cp ac : Option Nat) {i : Nat} (hi : i < l.length) {r : Option D}
  (hE : Za6 m n0 (l[i].n.par) at_.length ac (ints at_) l.length cp (cdsC l) = r) : ∀ (c k : Nat), at_.length - k < c → k ≤ at_.length →
  Zkk m n0 c (i : Int) at_.length ac (ints at_) (k : Int) l.length cp (cdsC l) = if (at_.drop k).contains (i : Int) then some (.v (.int .i64 1)) else r
 | 0, k, hc, hk => by omega
 | c + 1, k, hc, hk => by
  rw [Z16f]
  simp only [Int.toNat_natCast, Nat.mul_one]
  by_cases hlt : k < at_.length
  ·have hg : at_.getD k 0 = at_[k] := by simp [hlt]
   rw [List.drop_eq_getElem_cons hlt, List.contains_cons]
   refine st_cT (decide_eq_true (by omega)) ?_
   refine st_if (by omega) ?_
   refine Z0 ((Zk5 hlt).trans (by rw [hg])) ?_
   by_cases he : at_[k] = (i : Int)
   ·refine st_cT (i_eq he) ?_
    rw [he]; simp
   ·refine st_cF (i_ne he) ?_
    rw [Zu (by omega), und_in h hb cp ac hi hE c (k + 1) (by omega) (by omega)]
    rw [i_ne (a := (i : Int)) (b := at_[k]) (by omega), Bool.false_or]
  ·obtain rfl : k = at_.length := by omega
   rw [List.drop_length, List.contains_nil]
   refine st_cF (decide_eq_false (by omega)) ?_
   refine st_if (by omega) ?_
   refine Z0 (Z6l h.ok hi) ?_
   exact hE
theorem Z1n2 {m : Nat} (hm : 1000000000 < m) (h : CdsB l) (hs : Shape (nds l)) (hb : at_.length < 1000000000) (cp ac : Option Nat) : ∀ (c i : Nat), i + 1 < c → i < l.length →
  Za6 m c (i : Int) at_.length ac (ints at_) l.length cp (cdsC l) = some (.v (.int .i64 (b01 (und (nds l) at_ i))))
 | 0, i, hc, hi => by omega
 | c + 1, i, hc, hi => by
  have hn : i < (nds l).length := by rw [Zy]; exact hi
  rw [Zu4]
  refine st_cT (decide_eq_true (by omega)) ?_
  rw [Z18r hs at_ hn]
  by_cases h0 : 0 < i
  ·have hp := (Pt.of hs (i + 1)).parN hi h0 (by omega)
   have ih := Z1n2 (m := m) hm h hs hb cp ac c (parN (nds l) i) (by omega) (by omega)
   rw [← hp.1] at ih
   refine (und_in (m := m) h hb cp ac hi ih m 0 (by omega) (by omega)).trans ?_
   rw [List.drop_zero, decide_eq_true h0, Bool.true_and]
   cases at_.contains (i : Int) with
   | true => rfl
   | false => rfl
  ·obtain rfl : i = 0 := by omega
   have hr := hs.root _ (Zv9 hi)
   have e : Za6 m c (l[0].n.par) at_.length ac (ints at_) l.length cp (cdsC l) = some (.v (.int .i64 0)) := by
    rw [hr]
    obtain ⟨c', rfl⟩ : ∃ c', c = c' + 1 := ⟨c - 1, by omega⟩
    rw [Zu4]
    refine st_cF (decide_eq_false (by omega)) ?_
    rfl
   refine (und_in (m := m) h hb cp ac hi e m 0 (by omega) (by omega)).trans ?_
   rw [List.drop_zero]
   cases at_.contains ((0 : Nat) : Int) with
   | true => rfl
   | false => rfl
theorem Z1ib (h : CdsB l) (hs : Shape (nds l)) (hb : at_.length < 1000000000) (cp ac : Option Nat) {i : Nat} (hi : i < l.length) :
  Zc4 [.agg [.list l.length cp (cdsC l)], .v (.int .i64 (i : Int)), .list at_.length ac (ints at_)] = some (.v (.int .i64 (b01 (und (nds l) at_ i)))) := by
 show Zpk M l.length cp (cdsC l) (i : Int) at_.length ac (ints at_) = _
 unfold Zpk
 have hB := h.len
 exact Z1n2 (by unfold M; omega) h hs hb cp ac M i (by unfold M; omega) hi
theorem Z1n3 {m n0 : Nat} (h : CdsB l) (hs : Shape (nds l)) (hb : at_.length < 1000000000) (cp ac : Option Nat) {i : Nat} (hi : i < l.length) (hk : kpF l at_ i = true) {r : Option D}
  (hE : Z8m m n0 at_.length ac (ints at_) ((i + 1 : Nat) : Int) l.length cp (cdsC l) ((sbC l (kpF l at_) (i + 1)).length) ((sbC l (kpF l at_) (i + 1)).length * 20) (cdsC (sbC l (kpF l at_) (i + 1))) = r) : ∀ (c k : Nat), i + 2 - k < c → k ≤ l[i].n.par.toNat →
  Zhh m n0 c at_.length ac (ints at_) (i : Int) ((k : Int) - (rk (kpF l at_) k : Int)) (k : Int) l.length cp (cdsC l) ((sbC l (kpF l at_) i).length) ((sbC l (kpF l at_) i).length * 20) (cdsC (sbC l (kpF l at_) i)) (l[i].cells) = r
 | 0, k, hc, hkl => by
  by_cases h0 : 0 < i
  ·have hp := (Pt.of hs (i + 1)).parN hi h0 (by omega)
   omega
  ·obtain rfl : i = 0 := by omega
   have hr := hs.root _ (Zv9 hi)
   omega
 | c + 1, k, hc, hkl => by
  have hB := h.len
  have hn : i < (nds l).length := by rw [Zy]; exact hi
  have hok := h.ok _ (List.getElem_mem hi)
  have hrk := rk_le (kpF l at_) k
  have hsl := Z1mx (l := l) (A := kpF l at_) (i := i) (by omega)
  have hrki := rk_le (kpF l at_) i
  have hpb : l[i].n.par < (i : Int) ∧ -1 ≤ l[i].n.par := by
   by_cases h0 : 0 < i
   ·have hp := (Pt.of hs (i + 1)).parN hi h0 (by omega)
    omega
   ·obtain rfl : i = 0 := by omega
    have hr := hs.root _ (Zv9 hi)
    omega
  rw [Z14e]
  refine Z0 (Z5h (Cd.at0 _)) ?_
  by_cases hlt : (k : Int) < l[i].n.par
  ·refine st_cT (decide_eq_true hlt) ?_
   refine Z0 (Z1ib h hs hb cp ac (i := k) (by omega)) ?_
   refine Z0 (rdI_v _ _) ?_
   have ih := Z1n3 (m := m) h hs hb cp ac hi hk hE c (k + 1) (by omega) (by omega)
   have hs1 : (k : Int) - (rk (kpF l at_) k : Int) + b01 (und (nds l) at_ k) = ((k + 1 : Nat) : Int) - (rk (kpF l at_) (k + 1) : Int) := by
    rw [rk]
    unfold kpF
    cases und (nds l) at_ k with
    | true => simp [b01]; omega
    | false => simp [b01]; omega
   have hb1 : 0 ≤ b01 (und (nds l) at_ k) ∧ b01 (und (nds l) at_ k) ≤ 1 := by cases und (nds l) at_ k <;> simp [b01]
   rw [Z77 (by omega) (by omega), hs1, Zu (by omega)]
   exact ih
  ·refine st_cF (decide_eq_false hlt) ?_
   refine Z0 (Z5h (Cd.at0 _)) ?_
   have hres : IntKind.wrap .i64 (l[i].n.par - ((k : Int) - (rk (kpF l at_) k : Int))) = (mvC l (kpF l at_) l[i]).n.par := by
    rw [Z77 (by omega) (by omega)]
    unfold mvC mv
    by_cases hneg : l[i].n.par < 0
    ·have hk0 : k = 0 := by omega
     subst hk0
     rw [if_pos hneg]
     simp [rk]
    ·rw [if_neg hneg]
     have : l[i].n.par.toNat = k := by omega
     rw [this]; dsimp only; omega
   have hcl : (mvC l (kpF l at_) l[i]).cells.length = 20 := Cd.cells_len ⟨hok.pol, hok.ex⟩
   have hset : List.set l[i].cells 0 (.v (.int .i64 (mvC l (kpF l at_) l[i]).n.par)) = (mvC l (kpF l at_) l[i]).cells := by
    have e1 : (mvC l (kpF l at_) l[i]).n.pol = l[i].n.pol := rfl
    rfl
   rw [hres, hset]
   refine st_if hcl ?_
   refine st_if ⟨rfl, by first | rfl | trivial, by constructor <;> omega, hcl⟩ ?_
   rw [Zyw, Zu (by omega)]
   rw [Z18x hi, if_pos hk, List.length_append, List.length_singleton, Z92, Zva] at hE
   exact hE
theorem Z1kg {m : Nat} (hm : 1000000000 < m) (h : CdsB l) (hs : Shape (nds l)) (hb : at_.length < 1000000000) (cp ac : Option Nat) : ∀ (c i : Nat), l.length - i < c → i ≤ l.length →
  Z8m m c at_.length ac (ints at_) (i : Int) l.length cp (cdsC l) ((sbC l (kpF l at_) i).length) ((sbC l (kpF l at_) i).length * 20) (cdsC (sbC l (kpF l at_) i)) =
  some (.agg [.list (leftR l (kpF l at_)).length none (cdsC (leftR l (kpF l at_)))])
 | 0, i, hc, hi => by omega
 | c + 1, i, hc, hi => by
  have hB := h.len
  have hl := cdsC_len h.ok
  rw [Z14f]
  simp only [Int.toNat_natCast]
  by_cases hlt : i < l.length
  ·have hok := h.ok _ (List.getElem_mem hlt)
   have ih := Z1kg (m := m) hm h hs hb cp ac c (i + 1) (by omega) (by omega)
   refine st_cT (decide_eq_true (by omega)) ?_
   refine Z0 (Z1ib h hs hb cp ac hlt) ?_
   refine Z0 (rdI_v _ _) ?_
   cases hu : und (nds l) at_ i with
   | true =>
    have hk : kpF l at_ i = false := by unfold kpF; rw [hu]; rfl
    refine st_cT rfl ?_
    rw [Z129, Zu (by omega)]
    rw [Z18x hlt, if_neg (by rw [hk]; decide)] at ih
    exact ih
   | false =>
    have hk : kpF l at_ i = true := by unfold kpF; rw [hu]; rfl
    refine st_cF rfl ?_
    rw [Zk7 h.ok hlt]
    refine st_if (by omega) ?_
    refine st_if (by omega) ?_
    refine st_if (Cd.cells_len hok) ?_
    have := Z1n3 (m := m) h hs hb cp ac hlt hk ih m 0 (by omega) (by omega)
    simpa [rk] using this
  ·obtain rfl : i = l.length := by omega
   have hcl := cdsC_len (Z1je h (kpF l at_)).ok
   refine st_cF (decide_eq_false (by omega)) ?_
   refine st_if (by omega) ?_
   rw [Z5k (show (cdsC (sbC l (kpF l at_) l.length)).length = (sbC l (kpF l at_) l.length).length * 20 from hcl)]; rfl
theorem Z1bj (h : CdsB l) (hs : Shape (nds l)) (hb : at_.length < 1000000000) (cp ac : Option Nat) :
  Z50 [.agg [.list l.length cp (cdsC l)], .list at_.length ac (ints at_)] = some (.agg [.list (leftR l (kpF l at_)).length none (cdsC (leftR l (kpF l at_)))]) := by
 show Zmg M l.length cp (cdsC l) at_.length ac (ints at_) = _
 unfold Zmg
 have hB := h.len
 exact Z1kg (by unfold M; omega) h hs hb cp ac M 0 (by unfold M; omega) (by omega)
theorem nds_rDelete : nds (leftR l (kpF l at_)) = delR (nds l) at_ := Z1my _ _
end
end Go.Ev