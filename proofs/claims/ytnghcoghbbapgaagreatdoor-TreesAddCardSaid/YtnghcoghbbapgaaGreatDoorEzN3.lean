/-
 Nodes deleted: what is left of a tree.
-/
import Derived.Test.YtnghcoghbbapgaaGreatDoorEzN2
set_option linter.unusedSimpArgs false
set_option linter.unusedVariables false
set_option maxRecDepth 100000
namespace Go.Ev
open Go
def bfn (f : Nat → Bool) (n : Nat) : List D := (List.range n).map fun i => .v (.bool (f i))
def ifn (f : Nat → Int) (n : Nat) : List D := (List.range n).map fun i => .v (.int .i64 (f i))
theorem Z20e {f : Nat → Bool} {n i : Nat} (h : i < n) : rdB (bfn f n)[i]? = some (f i) := by simp [bfn, h, rdB]
theorem Z23d {f : Nat → Int} {n i : Nat} (h : i < n) : rdI .i64 (ifn f n)[i]? = some (f i) := by simp [ifn, h, rdI]
theorem Z1f2 {f g : Nat → Bool} {n : Nat} (h : ∀ i, i < n → f i = g i) : bfn f n = bfn g n := List.map_congr_left fun i hi => by rw [h i (List.mem_range.1 hi)]
theorem Z1mv {f g : Nat → Int} {n : Nat} (h : ∀ i, i < n → f i = g i) : ifn f n = ifn g n := List.map_congr_left fun i hi => by rw [h i (List.mem_range.1 hi)]
theorem Z22v {α : Type} (f : Nat → α) (n j : Nat) (v : α) : ((List.range n).map f).set j v = (List.range n).map fun i => if i = j then v else f i := by
 refine Z6r (by simp) fun i hi => ?_
 have hi' : i < n := by simpa using hi
 by_cases e : j = i
 ·subst e
  rw [List.getElem?_set_self (by simpa using hi')]
  simp [hi']
 ·rw [List.getElem?_set_ne e]
  have e' : ¬ i = j := fun h => e h.symm
  simp [hi', e']
theorem Z20f (f : Nat → Bool) (n j : Nat) (b : Bool) : (bfn f n).set j (.v (.bool b)) = bfn (fun i => if i = j then b else f i) n := by
 unfold bfn
 rw [Z22v]
 exact List.map_congr_left fun i _ => by by_cases e : i = j <;> simp [e]
theorem Z23e (f : Nat → Int) (n j : Nat) (x : Int) : (ifn f n).set j (.v (.int .i64 x)) = ifn (fun i => if i = j then x else f i) n := by
 unfold ifn
 rw [Z22v]
 exact List.map_congr_left fun i _ => by by_cases e : i = j <;> simp [e]
theorem Z23f (n : Nat) : (List.replicate n [D.v (.bool false)]).flatten = bfn (fun _ => false) n := by
 induction n with
 | zero => rfl
 | succ n ih =>
  rw [List.replicate_succ', List.flatten_append, ih]
  simp [bfn, List.range_succ]
theorem Z23g (n : Nat) : (List.replicate n [D.v (.int .i64 0)]).flatten = ifn (fun _ => 0) n := by
 induction n with
 | zero => rfl
 | succ n ih =>
  rw [List.replicate_succ', List.flatten_append, ih]
  simp [ifn, List.range_succ]
def lc (l : List Cd) (A : Nat → Bool) : Nat → List Cd
 | 0 => []
 | i + 1 => match l[i]? with
  | none => lc l A i
  | some x => if A i then lc l A i ++ [⟨mv (nds l) A x.n, some x.n.ex.length, some x.n.q.length⟩] else lc l A i
theorem Z1sp {l : List Cd} {A : Nat → Bool} {i : Nat} (h : i < l.length) : lc l A (i + 1) = if A i then lc l A i ++ [⟨mv (nds l) A l[i].n, some l[i].n.ex.length, some l[i].n.q.length⟩] else lc l A i := by
 rw [lc, List.getElem?_eq_getElem h]
theorem nds_lc {l : List Cd} {A : Nat → Bool} : ∀ {i : Nat}, i ≤ l.length → nds (lc l A i) = sub (nds l) A i
 | 0, _ => rfl
 | i + 1, h => by
  rw [Z1sp (by omega), Z1a1 (by rw [Z1r]; omega), Zbf (by omega), ← nds_lc (i := i) (by omega)]
  split
  ·simp [nds]
  ·rfl
theorem lc_len {l : List Cd} {A : Nat → Bool} {i : Nat} (h : i ≤ l.length) : (lc l A i).length = rk A i := by
 rw [← Z1r, nds_lc h, Z1ck (by rw [Z1r]; exact h)]
def leftC (l : List Cd) (A : Nat → Bool) : List Cd := lc l A l.length
theorem Z1f3 (l : List Cd) (A : Nat → Bool) : nds (leftC l A) = left (nds l) A := by
 unfold leftC left
 rw [nds_lc (Nat.le_refl _), Z1r]
theorem lc_mem {l : List Cd} {A : Nat → Bool} : ∀ {i : Nat}, i ≤ l.length → ∀ x, x ∈ lc l A i → ∃ y, y ∈ l ∧ x.n.pol = y.n.pol ∧ x.n.ex = y.n.ex ∧ x.n.q = y.n.q
 | 0, _, x, hx => nomatch hx
 | i + 1, h, x, hx => by
  rw [Z1sp (by omega)] at hx
  split at hx
  ·rcases List.mem_append.1 hx with hx | hx
   ·exact lc_mem (by omega) x hx
   ·simp at hx; subst hx; exact ⟨_, List.getElem_mem (by omega), rfl, rfl, rfl⟩
  ·exact lc_mem (by omega) x hx
theorem lc_b {l : List Cd} (h : CdsB l) {A : Nat → Bool} {i : Nat} (hi : i ≤ l.length) : CdsB (lc l A i) := by
 refine ⟨fun x hx => ?_, ?_, fun x hx => ?_, fun x hx => ?_⟩
 ·obtain ⟨y, hy, e1, e2, e3⟩ := lc_mem hi x hx
  exact ⟨e1 ▸ (h.ok y hy).pol, e2 ▸ (h.ok y hy).ex⟩
 ·have := h.len; rw [lc_len hi]; have := rk_le A i; omega
 ·obtain ⟨y, hy, e1, e2, e3⟩ := lc_mem hi x hx
  rw [e2]; exact h.ex y hy
 ·obtain ⟨y, hy, e1, e2, e3⟩ := lc_mem hi x hx
  rw [e3]; exact h.q y hy
theorem Z1pe {l : List Cd} (h : CdsB l) (cp : Option Nat) : Z4v [.list l.length cp (cdsC l)] = some (.list l.length (some l.length) (cdsC l)) := by
 show Z79 M l.length cp (cdsC l) = _
 unfold Z79
 have hl := cdsC_len h.ok
 have hB := h.len
 by_cases h0 : l.length = 0
 ·refine st_cT (i_eq (by omega)) ?_
  rw [Z1h8 hl h0, h0]
 ·refine st_cF (i_ne (by omega)) ?_
  simp only [Int.toNat_natCast]
  refine st_if ⟨by omega, by omega, by constructor <;> omega⟩ ?_
  refine st_if hl ?_
  refine st_if ⟨by omega, hl⟩ ?_
  refine st_if (by omega) ?_
  rw [Z1mp hl (Z18b _ _ rfl)]
section
variable {l : List Cd} {at_ : List Int}
def goF (l : List Cd) (at_ : List Int) (i j : Nat) : Bool := if j < i then und (nds l) at_ j else at_.contains (j : Int)
def kpF (l : List Cd) (at_ : List Int) (i : Nat) : Bool := !und (nds l) at_ i
def ixF (l : List Cd) (at_ : List Int) (i j : Nat) : Int := if j < i ∧ kpF l at_ j = true then (rk (kpF l at_) j : Int) else 0
def delD (o : List Cd) : D := .tup [.agg [.list o.length (some o.length) (cdsC o)], .v (.int .i64 0)]
theorem Z1sq {m : Nat} (h : CdsB l) (hs : Shape (nds l)) (cp : Option Nat) : ∀ (c i : Nat), l.length - i < c → i ≤ l.length →
  Z67 m c l.length l.length l.length l.length ((lc l (kpF l at_) i).length) l.length cp (cdsC l) (l.length : Int) (i : Int) l.length cp (cdsC l) (l.length * 1) (bfn (goF l at_ i) l.length) (l.length * 1) (ifn (ixF l at_ i) l.length) ((lc l (kpF l at_) i).length * 20) (cdsC (lc l (kpF l at_) i)) =
  some (delD (leftC l (kpF l at_)))
 | 0, i, hc, hi => by omega
 | c + 1, i, hc, hi => by
  have hB := h.len
  have hl := cdsC_len h.ok
  have hlb := lc_b (A := kpF l at_) h hi
  have hll := lc_len (A := kpF l at_) hi
  have hrk := rk_le (kpF l at_) i
  have hcl := cdsC_len hlb.ok
  rw [Z1cs]
  simp only [Int.toNat_natCast, Nat.zero_add, Nat.mul_one]
  by_cases hlt : i < l.length
  ·have hok := h.ok _ (List.getElem_mem hlt)
   have hn : i < (nds l).length := by rw [Z1r]; exact hlt
   have hus := Zk3 hs at_ hn
   rw [Zd8 h.ok hlt]
   refine st_cT (decide_eq_true (by omega)) ?_
   refine st_if (by omega) ?_
   refine st_if (by omega) ?_
   refine st_if (Cd.cells_len hok) ?_
   refine st_if (by omega) ?_
   refine Z0 (Z20e hlt) ?_
   have gi : goF l at_ i i = at_.contains (i : Int) := if_neg (by omega)
   have gone : und (nds l) at_ i = true → (if 0 ≤ (i : Int) ∧ (i : Int) < (l.length : Int) then if True ∧ i < l.length then
     Z67 m c l.length l.length l.length l.length ((lc l (kpF l at_) i).length) l.length cp (cdsC l) (l.length : Int) (IntKind.wrap .i64 ((i : Int) + 1)) l.length cp (cdsC l) l.length ((bfn (goF l at_ i) l.length).set i (.v (.bool true))) l.length (ifn (ixF l at_ i) l.length) ((lc l (kpF l at_) i).length * 20) (cdsC (lc l (kpF l at_) i))
     else none else none) = some (delD (leftC l (kpF l at_))) := fun hu => by
    refine st_if (by omega) ?_
    refine st_if ⟨trivial, hlt⟩ ?_
    have hk : kpF l at_ i = false := by unfold kpF; rw [hu]; rfl
    have := Z1sq (m := m) h hs cp c (i + 1) (by omega) (by omega)
    rw [Z1sp hlt, if_neg (by rw [hk]; decide), Nat.mul_one] at this
    rw [Z20f, Z14 (by omega), Z1f2 (g := goF l at_ (i + 1)) (fun j _ => ?_), Z1mv (g := ixF l at_ (i + 1)) (fun j _ => ?_)]
    ·exact this
    ·unfold ixF
     by_cases e : j = i
     ·subst e; rw [if_neg (by omega), if_neg (by rw [hk]; simp)]
     ·by_cases e2 : j < i
      ·by_cases e3 : kpF l at_ j = true
       ·rw [if_pos ⟨e2, e3⟩, if_pos ⟨by omega, e3⟩]
       ·rw [if_neg (fun q => e3 q.2), if_neg (fun q => e3 q.2)]
      ·rw [if_neg (fun q => e2 q.1), if_neg (fun q => absurd q.1 (by omega))]
    ·by_cases e : j = i
     ·subst e; rw [if_pos rfl]; unfold goF; rw [if_pos (by omega), hu]
     ·rw [if_neg e]; unfold goF
      by_cases e2 : j < i
      ·rw [if_pos e2, if_pos (by omega)]
      ·rw [if_neg e2, if_neg (by omega)]
   have stay : und (nds l) at_ i = false →
     Zda m c l.length l.length l.length l.length ((lc l (kpF l at_) i).length) (i : Int) l.length cp (cdsC l) (l.length : Int) (i : Int) l.length cp (cdsC l) l.length (bfn (goF l at_ i) l.length) l.length (ifn (ixF l at_ i) l.length) ((lc l (kpF l at_) i).length * 20) (cdsC (lc l (kpF l at_) i)) (l[i].cells) =
     some (delD (leftC l (kpF l at_))) := fun hu => by
    have hk : kpF l at_ i = true := by unfold kpF; rw [hu]; rfl
    have j23 : ∀ n : Nd, n = mv (nds l) (kpF l at_) l[i].n →
      Zdb m c l.length l.length l.length l.length ((lc l (kpF l at_) i).length) l.length cp (cdsC l) (l.length : Int) (i : Int) l.length cp (cdsC l) l.length (bfn (goF l at_ i) l.length) l.length (ifn (ixF l at_ (i + 1)) l.length) ((lc l (kpF l at_) i).length * 20) (cdsC (lc l (kpF l at_) i)) (Cd.cells ⟨n, some l[i].n.ex.length, some l[i].n.q.length⟩) =
      some (delD (leftC l (kpF l at_))) := fun n en => by
     subst en
     rw [Z1ah]
     have hcl' : (Cd.cells ⟨mv (nds l) (kpF l at_) l[i].n, some l[i].n.ex.length, some l[i].n.q.length⟩).length = 20 := Cd.cells_len ⟨hok.pol, hok.ex⟩
     refine st_if hcl' ?_
     refine st_if ⟨rfl, by first | rfl | trivial, by constructor <;> omega, hcl'⟩ ?_
     have := Z1sq (m := m) h hs cp c (i + 1) (by omega) (by omega)
     rw [Z1sp hlt, if_pos hk, List.length_append, List.length_singleton, Z92, Z144, Nat.mul_one] at this
     rw [Z14 (by omega), Z1f2 (f := goF l at_ i) (g := goF l at_ (i + 1)) (fun j _ => ?_)]
     ·exact this
     ·unfold goF
      by_cases e : j = i
      ·subst e
       have hc0 : at_.contains (j : Int) = false := by
        rw [hus] at hu
        cases hq : at_.contains (j : Int) with
        | false => rfl
        | true => rw [hq] at hu; simp at hu
       rw [if_neg (by omega), if_pos (by omega), hc0, hu]
      ·by_cases e2 : j < i
       ·rw [if_pos e2, if_pos (by omega)]
       ·rw [if_neg e2, if_neg (by omega)]
    rw [Z1ai]
    simp only [Int.toNat_natCast, Nat.zero_add, Nat.mul_one]
    refine st_if (by omega) ?_
    refine st_if ⟨by first | rfl | trivial, by omega⟩ ?_
    refine Z0 (Z1a2 hok (h.ex _ (List.getElem_mem hlt)) (h.q _ (List.getElem_mem hlt))) ?_
    refine Z0 (rdA_v _) ?_
    refine st_if (Cd.cells_len (x := l[i].cp) hok) ?_
    have hix : (ifn (ixF l at_ i) l.length).set i (.v (.int .i64 ((lc l (kpF l at_) i).length : Int))) = ifn (ixF l at_ (i + 1)) l.length := by
     rw [Z23e]
     refine Z1mv fun j _ => ?_
     unfold ixF
     by_cases e : j = i
     ·subst e; rw [if_pos rfl, if_pos ⟨by omega, hk⟩, hll]
     ·rw [if_neg e]
      by_cases e2 : j < i
      ·by_cases e3 : kpF l at_ j = true
       ·rw [if_pos ⟨e2, e3⟩, if_pos ⟨by omega, e3⟩]
       ·rw [if_neg (fun q => e3 q.2), if_neg (fun q => e3 q.2)]
      ·rw [if_neg (fun q => e2 q.1), if_neg (fun q => absurd q.1 (by omega))]
    rw [hix]
    by_cases h0 : 0 < i
    ·refine st_cT (decide_eq_true (by omega)) ?_
     refine Z0 (Z3g (Cd.at0 _)) ?_
     have hp := hs.par hn h0
     rw [Zbf hlt] at hp
     have hpt : l[i].n.par.toNat = parN (nds l) i := by omega
     have hkp : kpF l at_ (parN (nds l) i) = true := by
      unfold kpF
      rw [hus] at hu
      cases hq : und (nds l) at_ (parN (nds l) i) with
      | false => rfl
      | true => rw [hq] at hu; simp [h0] at hu
     have e0 : l[i].cp.n.par = l[i].n.par := rfl
     rw [e0]
     refine st_if (by omega) ?_
     rw [hpt]
     refine Z0 (Z23d (by omega)) ?_
     have := j23 _ rfl
     rw [show ixF l at_ (i + 1) (parN (nds l) i) = (rk (kpF l at_) (parN (nds l) i) : Int) from if_pos ⟨by omega, hkp⟩]
     rw [show l[i].cp.cells.set 0 (.v (.int .i64 (rk (kpF l at_) (parN (nds l) i) : Int))) = Cd.cells ⟨mv (nds l) (kpF l at_) l[i].n, some l[i].n.ex.length, some l[i].n.q.length⟩ by
      unfold mv
      rw [if_neg (by omega), hpt]; rfl]
     exact this
    ·refine st_cF (decide_eq_false (by omega)) ?_
     have := j23 l[i].n (by
      have h00 : i = 0 := by omega
      subst h00
      have hr := hs.root _ (Z142 hlt)
      unfold mv
      rw [if_pos (by omega)])
     exact this
   rw [gi]
   cases hcn : at_.contains (i : Int) with
   | true =>
    refine st_cT rfl ?_
    exact gone (by rw [hus, hcn]; rfl)
   | false =>
    refine st_cF rfl ?_
    by_cases h0 : 0 < i
    ·refine st_cT (decide_eq_true (by omega)) ?_
     have hp := hs.par hn h0
     rw [Zbf hlt] at hp
     have hpt : l[i].n.par.toNat = parN (nds l) i := by omega
     refine Z0 (Z3g (Cd.at0 _)) ?_
     refine st_if (by omega) ?_
     rw [hpt]
     refine Z0 (Z20e (by omega)) ?_
     rw [show goF l at_ i (parN (nds l) i) = und (nds l) at_ (parN (nds l) i) from if_pos (by omega)]
     rw [hcn, Bool.false_or, decide_eq_true h0, Bool.true_and] at hus
     cases hq : und (nds l) at_ (parN (nds l) i) with
     | true => exact st_cT rfl (gone (by rw [hus, hq]))
     | false => exact st_cF rfl (stay (by rw [hus, hq]))
    ·refine st_cF (decide_eq_false (by omega)) ?_
     rw [hcn, decide_eq_false h0] at hus
     exact stay hus
  ·obtain rfl : i = l.length := by omega
   refine st_cF (decide_eq_false (by omega)) ?_
   refine st_if (by omega) ?_
   rw [Z71 hcl]
   refine Z0 (Z1pe hlb none) ?_
   refine Z0 (rdL_v _ _ _) ?_
   refine st_if (by omega) ?_
   refine st_if (by omega) ?_
   rfl
theorem Z1va {m : Nat} (hm : l.length < m) (h : CdsB l) (hs : Shape (nds l)) (hb : at_.length < 1000000000) (hat : ∀ x, x ∈ at_ → 0 ≤ x ∧ x < (l.length : Int)) (cp ac : Option Nat) : ∀ (c k : Nat), at_.length - k < c → k ≤ at_.length →
  Zk6 m c l.length l.length at_.length ac (ints at_) (at_.length : Int) (k : Int) l.length cp (cdsC l) (l.length * 1) (bfn (fun i => (at_.take k).contains (i : Int)) l.length) =
  some (delD (leftC l (kpF l at_)))
 | 0, k, hc, hk => by omega
 | c + 1, k, hc, hk => by
  have hB := h.len
  rw [Z1f1]
  simp only [Int.toNat_natCast, Nat.zero_add, Nat.mul_one]
  by_cases hlt : k < at_.length
  ·have hx := hat _ (List.getElem_mem hlt)
   refine st_cT (decide_eq_true (by omega)) ?_
   refine st_if (by omega) ?_
   have hg : at_.getD k 0 = at_[k] := by simp [hlt]
   refine Z0 ((Z1et hlt).trans (by rw [hg])) ?_
   refine st_cF (decide_eq_false (by omega)) ?_
   refine st_cF (decide_eq_false (by omega)) ?_
   rw [Z1ag]
   simp only [Nat.zero_add, Nat.mul_one]
   refine st_if (by omega) ?_
   refine st_if ⟨by first | rfl | trivial, by omega⟩ ?_
   have := Z1va (m := m) hm h hs hb hat cp ac c (k + 1) (by omega) (by omega)
   rw [Nat.mul_one] at this
   rw [Z20f, Z14 (by omega), Z1f2 (g := fun i => (at_.take (k + 1)).contains (i : Int)) (fun i _ => ?_)]
   ·exact this
   ·rw [List.take_succ_eq_append_getElem hlt, List.contains_append]
    by_cases e : i = at_[k].toNat
    ·rw [if_pos e]
     have : (i : Int) = at_[k] := by omega
     simp [this]
    ·rw [if_neg e]
     have : ¬ (i : Int) = at_[k] := by omega
     simp [this]
  ·obtain rfl : k = at_.length := by omega
   refine st_cF (decide_eq_false (by omega)) ?_
   refine st_if ⟨by omega, by omega, by constructor <;> omega⟩ ?_
   have := Z1sq (m := m) (at_ := at_) h hs cp m 0 (by omega) (by omega)
   rw [Nat.mul_one] at this
   rw [Z23g, List.take_length]
   rw [Z1mv (g := ixF l at_ 0) (fun j _ => by unfold ixF; rw [if_neg (by omega)]), Z1f2 (g := goF l at_ 0) (fun j _ => by unfold goF; rw [if_neg (by omega)])]
   exact this
theorem Z1ha (h : CdsB l) (he : Z182 (nds l) = 0) (hs : Shape (nds l)) (hb : at_.length < 1000000000) (hat : ∀ x, x ∈ at_ → 0 ≤ x ∧ x < (l.length : Int)) (cp ac : Option Nat) :
  Z21 [.agg [.list l.length cp (cdsC l)], .list at_.length ac (ints at_)] = some (delD (leftC l (kpF l at_))) := by
 show Zrm M l.length cp (cdsC l) at_.length ac (ints at_) = _
 unfold Zrm
 have hB := h.len
 refine Z0 (Z1qs h cp) ?_
 refine Z0 (rdI_v _ _) ?_
 refine st_cF (i_bnf he) ?_
 simp only [Int.toNat_natCast]
 refine st_if ⟨by omega, by omega, by constructor <;> omega⟩ ?_
 rw [Z23f]
 have := Z1va (m := M) (by unfold M; omega) h hs hb hat cp ac M 0 (by unfold M; omega) (by omega)
 rw [List.take_zero] at this
 exact this
end
end Go.Ev