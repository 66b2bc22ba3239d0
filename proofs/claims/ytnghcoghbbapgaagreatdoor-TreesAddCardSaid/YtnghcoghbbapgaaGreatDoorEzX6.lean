/-
 A node is added.
-/
import Derived.Test.YtnghcoghbbapgaaGreatDoorEzX4
import Derived.Test.YtnghcoghbbapgaaGreatDoorEzH3
import Derived.Test.YtnghcoghbbapgaaGreatDoorEzXH
set_option linter.unusedSimpArgs false
set_option linter.unusedVariables false
set_option maxRecDepth 100000
namespace Go.Ev
open Go Go.Proofs
theorem Z217 {N : List Nd} {p : Int} {o : Oid} : Zh3 N p o = (kidO N p o).isSome := by
 cases hk : kidO N p o with
 | some j =>
  obtain ⟨h1, h2, h3⟩ := Z1n9 hk
  rw [Zvm h1] at h2
  rw [Z1l1 h1] at h3
  exact List.any_eq_true.2 ⟨N[j], List.getElem_mem h1, by rw [h2, h3]; simp⟩
 | none =>
  cases hh : Zh3 N p o with
  | false => rfl
  | true =>
   obtain ⟨x, hx, he⟩ := List.any_eq_true.1 hh
   obtain ⟨j, hj, rfl⟩ := List.getElem_of_mem hx
   simp only [Bool.and_eq_true, decide_eq_true_eq] at he
   have := Z1n8 hk j (by omega) (by omega)
   rw [Zvm hj, Z1l1 hj] at this
   exact absurd he this
section
variable {l : List Nd} {n : Nd} (hv : Valid l) (hok : ∀ m, m ∈ l → m.ok) (hn : n.ok) (he : addE l n = 0)
include hv hok hn he
theorem Z218 {i : Nat} (hi : i < l.length) (h0 : 0 < i) (ha : i < insAt l n) : l[i].par < n.par ∨ (l[i].par = n.par ∧ l[i].pol.cmp n.pol < 0) := by
 obtain ⟨p1, p2, p3, p4, p5, p6⟩ := addE_parts hv he
 have hb := Z184 (l := l) (n := n) ha h0 hi
 unfold behind at hb
 simp only [Bool.or_eq_false_iff, Bool.and_eq_false_iff, decide_eq_false_iff_not] at hb
 by_cases he2 : l[i].par = n.par
 ·right
  refine ⟨he2, ?_⟩
  have h3 : ¬ 0 < l[i].pol.cmp n.pol := by rcases hb.2 with h | h; exact absurd he2 h; exact h
  have h4 : l[i].pol.cmp n.pol ≠ 0 := fun e => by
   have a1 := hok _ (List.getElem_mem hi)
   have g1 := (Z140.1 (hv.nd _ (List.getElem_mem hi))).1
   have e2 := Oid.cmp_zero a1.pol hn.pol g1 (Z140.1 p6).1 e
   have : Zh3 l n.par n.pol = true := List.any_eq_true.2 ⟨l[i], List.getElem_mem hi, by rw [he2, e2]; simp⟩
   rw [p3] at this; cases this
  omega
 ·left; omega
omit hok hn he in
theorem Z219 {i : Nat} (hi : i < l.length) (ha : insAt l n ≤ i) : ¬ (l[i].par < n.par) ∧ (l[i].par = n.par → 0 < l[i].pol.cmp n.pol) := by
 obtain ⟨h0, hb⟩ := Z1ku (l := l) (n := n) (by omega)
 unfold behind at hb
 simp only [Bool.or_eq_true, Bool.and_eq_true, decide_eq_true_eq] at hb
 by_cases hia : insAt l n = i
 ·have e3 : l[insAt l n]'(by omega) = l[i] := by congr 1
  rw [e3] at hb
  exact ⟨by omega, fun e => by omega⟩
 ·have hk := hv.keys h0 i hi (by omega)
  unfold keyLt at hk
  refine ⟨by omega, fun e => ?_⟩
  rcases hk with hk | ⟨hk, hc⟩
  ·omega
  ·rcases hb with hb | ⟨hb, hd⟩
   ·omega
   ·have s1 := Oid.cmp_swap (l[insAt l n]'(by omega)).pol n.pol
    have s2 := Oid.cmp_swap l[i].pol n.pol
    have t := Oid.cmp_lt_trans (a := n.pol) (b := (l[insAt l n]'(by omega)).pol) (c := l[i].pol) (by omega) hc
    omega
end
def adC (l : List Cd) (x : Cd) : List Cd := (addC l x).map Cd.cp
theorem Z1x4 (l : List Cd) (x : Cd) : (adC l x).length = l.length + 1 := by unfold adC; rw [List.length_map, Z1a3]
theorem nds_cp (l : List Cd) : nds (l.map Cd.cp) = nds l := by simp [nds, Cd.cp]
theorem Z1to (l : List Cd) (x : Cd) : nds (adC l x) = addN (nds l) x.n := by unfold adC; rw [nds_cp, Z1ss]
theorem cp_b {l : List Cd} (h : CdsB l) : CdsB (l.map Cd.cp) :=
 ⟨fun y hy => by obtain ⟨x, hx, rfl⟩ := List.mem_map.1 hy; exact h.ok x hx, by rw [List.length_map]; exact h.len, fun y hy => by obtain ⟨x, hx, rfl⟩ := List.mem_map.1 hy; exact h.ex x hx, fun y hy => by obtain ⟨x, hx, rfl⟩ := List.mem_map.1 hy; exact h.q x hx⟩
theorem adC_b {l : List Cd} (h : CdsB l) {x : Cd} (hx : XOk x) (hl : l.length < 90000) : CdsB (adC l x) := cp_b (addC_b h hx.ok hx.ex hx.q hl)
theorem adC_lt {l : List Cd} {x : Cd} {j : Nat} (hj : j < atC l x) (hl : j < l.length) : (adC l x)[j]? = some (shC (atC l x) l[j]).cp := by
 unfold adC addC
 rw [List.getElem?_map, List.getElem?_append_left (by simp; omega), List.getElem?_map, List.getElem?_take_of_lt hj, List.getElem?_eq_getElem hl]
 rfl
theorem adC_at {l : List Cd} {x : Cd} : (adC l x)[atC l x]? = some x.cp := by
 have := atC_le l x
 unfold adC addC
 rw [List.getElem?_map, List.getElem?_append_right (by simp; omega), List.length_map, List.length_take, show atC l x - min (atC l x) l.length = 0 by omega]
 rfl
theorem adC_gt {l : List Cd} {x : Cd} {j : Nat} (hj : atC l x ≤ j) (hl : j < l.length) : (adC l x)[j + 1]? = some (shC (atC l x) l[j]).cp := by
 have := atC_le l x
 unfold adC addC
 rw [List.getElem?_map, List.getElem?_append_right (by simp; omega), List.length_map, List.length_take, show j + 1 - min (atC l x) l.length = (j - atC l x) + 1 by omega, List.getElem?_cons_succ, List.getElem?_map, List.getElem?_drop, show atC l x + (j - atC l x) = j by omega, List.getElem?_eq_getElem hl]
 rfl
theorem Z1vw (a : Nat) (y : Cd) : ((shC a y).cp).cells = if (a : Int) ≤ y.n.par then y.cp.cells.set 0 (.v (.int .i64 (y.n.par + 1))) else y.cp.cells := by
 by_cases h : (a : Int) ≤ y.n.par
 ·rw [if_pos h]
  show Cd.cells ⟨sh a y.n, _, _⟩ = _
  unfold sh Cd.cells
  rw [if_pos h]
  rfl
 ·rw [if_neg h]
  show Cd.cells ⟨sh a y.n, _, _⟩ = _
  unfold sh Cd.cells
  rw [if_neg h]
  rfl
structure Blk20 (F : List Cd) (B : List D) (k : Nat) : Prop where
 len : B.length = F.length * 20
 pre : B.take (k * 20) = cdsC (F.take k)
theorem Blk20.all {F : List Cd} {B : List D} {k : Nat} (h : Blk20 F B k) (hk : k = F.length) : B = cdsC F := by
 subst hk
 have e := h.pre
 rw [List.take_length, List.take_of_length_le (by rw [h.len]; omega)] at e
 exact e
theorem Blk20.grow {F : List Cd} (hF : CdsOk F) {B : List D} {k : Nat} (h : Blk20 F B k) {y : Cd} (hy : F[k]? = some y) : Blk20 F (List.take (0 + k * 20) B ++ (y.cells ++ List.drop (0 + (k + 1) * 20) B)) (k + 1) := by
 obtain ⟨hk, rfl⟩ := List.getElem?_eq_some_iff.1 hy
 have hyl := Cd.cells_len (hF _ (List.getElem_mem hk))
 have hB := h.len
 constructor
 ·simp only [List.length_append, List.length_take, List.length_drop, hyl, hB]
  omega
 ·have e1 : (List.take (k * 20) B).length = k * 20 := by rw [List.length_take, hB]; omega
  rw [Nat.zero_add, Nat.zero_add, List.take_append, e1, show (k + 1) * 20 - k * 20 = 20 by omega, List.take_append, hyl, Nat.sub_self, List.take_zero, List.append_nil, List.take_of_length_le (l := List.take (k * 20) B) (by omega), List.take_of_length_le (l := F[k].cells) (by omega), h.pre, List.take_succ_eq_append_getElem hk, Z92, Z144]
section
variable {m : Nat} {l : List Cd} {x : Cd} (h : CdsB l) (hx : XOk x) (hv : Valid (nds l)) (he : addE (nds l) x.n = 0) (cp : Option Nat)
include h hx hv he
theorem add_at {R : Option D} (k : Zcj m m (atC l x : Int) 0 (l.length + 1) l.length cp (cdsC l) ((l.length : Nat) : Int) (0 : Int) l.length cp (cdsC l) x.cells ((l.length + 1) * 20) (List.flatten (List.replicate (l.length + 1) (D.v (.int .i64 0) :: D.v (.int .u8 0) :: (List.replicate 16 (D.v (.int .u32 0)) ++ [D.list 0 (some 0) [], D.list 0 (some 0) []])))) = R) :
  ∀ (c i : Nat), l.length - i < c → i ≤ l.length → Z5b m c ((min i (atC l x) : Nat) : Int) l.length cp (cdsC l) ((l.length : Nat) : Int) (i : Int) x.cells = R
 | 0, i, hc, hi => by omega
 | c + 1, i, hc, hi => by
  have hB := h.len
  have ha := atC_le l x
  rw [Z1kn]
  simp only [Int.toNat_natCast]
  by_cases hlt : i < l.length
  ·have hxi : l[i].n.ok := h.ok _ (List.getElem_mem hlt)
   have hcl := Cd.cells_len hxi
   have hN : i < (nds l).length := by rw [Z1r]; exact hlt
   have ih := add_at k c (i + 1) (by omega) (by omega)
   refine st_cT (decide_eq_true (by omega)) ?_
   refine st_if ⟨by omega, by omega⟩ ?_
   refine st_if (by rw [cdsC_len h.ok]; omega) ?_
   rw [Zd8 h.ok hlt]
   refine st_if hcl ?_
   have up : i < atC l x → Z5b m c ((i + 1 : Nat) : Int) l.length cp (cdsC l) ((l.length : Nat) : Int) ((i + 1 : Nat) : Int) x.cells = R := fun q => by
    rw [Nat.min_eq_left (by omega)] at ih; exact ih
   have stay : atC l x ≤ i → Z5b m c ((min i (atC l x) : Nat) : Int) l.length cp (cdsC l) ((l.length : Nat) : Int) ((i + 1 : Nat) : Int) x.cells = R := fun q => by
    rw [Nat.min_eq_right (by omega)] at ih ⊢; exact ih
   rw [Z14 (by omega)]
   by_cases h0 : i = 0
   ·refine st_cT (i_eq (by omega)) ?_
    have := at_pos hv h.ok.nds hx.ok he (by rw [Z1r]; omega)
    exact up (by show i < insAt _ _; omega)
   ·refine st_cF (i_ne (by omega)) ?_
    refine Z0 (Z3g (Cd.at0 l[i])) ?_
    refine Z0 (Z3g (Cd.at0 x)) ?_
    have r2 := Ztw hxi.pol hx.ok.pol
    by_cases hia : i < atC l x
    ·have hb := Z218 hv h.ok.nds hx.ok he hN (by omega) hia
     rw [Zbf hlt] at hb
     by_cases hp : l[i].n.par < x.n.par
     ·exact st_cT (decide_eq_true hp) (up hia)
     ·refine st_cF (decide_eq_false hp) ?_
      obtain ⟨h1, h2⟩ := hb.resolve_left hp
      refine Z0 (Z3g (Cd.at0 l[i])) ?_
      refine Z0 (Z3g (Cd.at0 x)) ?_
      refine st_cT (i_eq h1) ?_
      rw [Cd.pol_at hxi, Cd.pol_at hx.ok]
      refine Z0 r2 ?_
      refine Z0 (rdI_v _ _) ?_
      exact st_cT (decide_eq_true h2) (up hia)
    ·obtain ⟨h1, h2⟩ := Z219 (n := x.n) hv hN (by show insAt _ _ ≤ i; unfold atC at hia; omega)
     rw [Zbf hlt] at h1 h2
     refine st_cF (decide_eq_false h1) ?_
     refine Z0 (Z3g (Cd.at0 l[i])) ?_
     refine Z0 (Z3g (Cd.at0 x)) ?_
     by_cases hp : l[i].n.par = x.n.par
     ·refine st_cT (i_eq hp) ?_
      rw [Cd.pol_at hxi, Cd.pol_at hx.ok]
      refine Z0 r2 ?_
      refine Z0 (rdI_v _ _) ?_
      have := h2 hp
      exact st_cF (decide_eq_false (by omega)) (stay (by omega))
     ·exact st_cF (i_ne hp) (stay (by omega))
  ·obtain rfl : i = l.length := by omega
   refine st_cF (decide_eq_false (by omega)) ?_
   rw [Z14 (by omega)]
   simp only [Int.toNat_natCast]
   refine st_if ⟨by omega, by omega, by constructor <;> omega⟩ ?_
   rw [Nat.min_eq_right ha]
   exact k
omit he in
theorem Z1tp (hl : l.length < 90000) : ∀ (c i : Nat) (B : List D), l.length - i < c → i ≤ l.length → Blk20 (adC l x) B (if i ≤ atC l x then i else i + 1) →
  Zcj m c (atC l x : Int) (if i ≤ atC l x then i else i + 1) (l.length + 1) l.length cp (cdsC l) ((l.length : Nat) : Int) (i : Int) l.length cp (cdsC l) x.cells ((l.length + 1) * 20) B =
  some (.tup [.agg [.list (l.length + 1) (some (l.length + 1)) (cdsC (adC l x))], .v (.int .i64 (atC l x : Int)), .v (.int .i64 0)])
 | 0, i, B, hc, hi, hb => by omega
 | c + 1, i, B, hc, hi, hb => by
  have hB := h.len
  have ha := atC_le l x
  have hal := Z1x4 l x
  have hF := (adC_b h hx hl).ok
  have hbl := hb.len
  have hxc : Z2k [.agg x.cells] = some (.agg x.cp.cells) := Z1a2 hx.ok hx.ex hx.q
  have hxl : x.cp.cells.length = 20 := Cd.cells_len (x := x.cp) hx.ok
  rw [Z1km]
  simp only [Int.toNat_natCast]
  by_cases hlt : i < l.length
  ·have hxi : l[i].n.ok := h.ok _ (List.getElem_mem hlt)
   have hcl := Cd.cells_len hxi
   have hcc : Z2k [.agg l[i].cells] = some (.agg l[i].cp.cells) := Z1a2 hxi (h.ex _ (List.getElem_mem hlt)) (h.q _ (List.getElem_mem hlt))
   have hccl : l[i].cp.cells.length = 20 := Cd.cells_len (x := l[i].cp) hxi
   have hsl : (shC (atC l x) l[i]).cp.cells.length = 20 := Cd.cells_len (x := (shC (atC l x) l[i]).cp) ⟨hxi.pol, hxi.ex⟩
   refine st_cT (decide_eq_true (by omega)) ?_
   refine st_if ⟨by omega, by omega⟩ ?_
   refine st_if (by rw [cdsC_len h.ok]; omega) ?_
   rw [Zd8 h.ok hlt]
   refine st_if hcl ?_
   have hpar : IntKind.wrap .i64 (l[i].n.par + 1) = l[i].n.par + 1 := by
    by_cases h0 : 0 < i
    ·have := (Pt.of hv.shape (i + 1)).parN hlt h0 (by omega)
     exact Z10i (by omega) (by omega)
    ·obtain rfl : i = 0 := by omega
     have := hv.shape.root _ (Z142 hlt)
     rw [this]; rfl
   by_cases hia : i = atC l x
   ·refine st_cT (i_eq (by omega)) ?_
    refine Z0 hxc ?_
    refine Z0 rfl ?_
    refine st_if hxl ?_
    rw [if_pos (show i ≤ atC l x by omega)] at hb ⊢
    refine st_if (show i + 1 ≤ l.length + 1 by omega) ?_
    refine st_if ⟨by omega, hxl⟩ ?_
    have hb1 := hb.grow hF (y := x.cp) (by rw [hia]; exact adC_at)
    have hb2 := hb1.grow hF (y := (shC (atC l x) l[i]).cp) (adC_gt (by omega) hlt)
    rw [Z1i2]
    refine Z0 hcc ?_
    refine Z0 rfl ?_
    refine st_if hccl ?_
    refine Z0 (Z3g (Cd.at0 l[i].cp)) ?_
    have ih := fun B' q => Z1tp hl c (i + 1) B' (by omega) (by omega) q
    rw [if_neg (show ¬ i + 1 ≤ atC l x by omega)] at ih
    have hse := Z1vw (atC l x) l[i]
    have nx : Zgg m c (atC l x : Int) (i + 1) (l.length + 1) l.length cp (cdsC l) ((l.length : Nat) : Int) (i : Int) l.length cp (cdsC l) x.cells ((l.length + 1) * 20) (List.take (0 + i * 20) B ++ (x.cp.cells ++ List.drop (0 + (i + 1) * 20) B)) (shC (atC l x) l[i]).cp.cells x.cp.cells =
      some (.tup [.agg [.list (l.length + 1) (some (l.length + 1)) (cdsC (adC l x))], .v (.int .i64 (atC l x : Int)), .v (.int .i64 0)]) := by
     rw [Z1i1]
     refine st_if hsl ?_
     refine st_if (show i + 1 + 1 ≤ l.length + 1 by omega) ?_
     refine st_if ⟨by omega, hsl⟩ ?_
     rw [Z14 (by omega)]
     exact ih _ hb2
    by_cases hp : (atC l x : Int) ≤ l[i].n.par
    ·refine st_cT (decide_eq_true hp) ?_
     refine Z0 (Z3g (Cd.at0 l[i].cp)) ?_
     rw [if_pos hp] at hse
     show Zgg _ _ _ _ _ _ _ _ _ _ _ _ _ _ _ _ (l[i].cp.cells.set 0 (.v (.int .i64 (IntKind.wrap .i64 (l[i].n.par + 1))))) _ = _
     rw [hpar, ← hse]
     exact nx
    ·refine st_cF (decide_eq_false hp) ?_
     rw [if_neg hp] at hse
     rw [← hse]
     exact nx
   ·refine st_cF (i_ne (by omega)) ?_
    have hk1 : (if i ≤ atC l x then i else i + 1) + 1 = if i + 1 ≤ atC l x then i + 1 else i + 1 + 1 := by
     by_cases q : i ≤ atC l x
     ·rw [if_pos q, if_pos (by omega)]
     ·rw [if_neg q, if_neg (by omega)]
    have hkl : (if i ≤ atC l x then i else i + 1) < l.length + 1 := by split <;> omega
    have hget : (adC l x)[if i ≤ atC l x then i else i + 1]? = some (shC (atC l x) l[i]).cp := by
     by_cases q : i ≤ atC l x
     ·rw [if_pos q]; exact adC_lt (by omega) hlt
     ·rw [if_neg q]; exact adC_gt (by omega) hlt
    have hb1 := hb.grow hF hget
    have ih := fun B' q => Z1tp hl c (i + 1) B' (by omega) (by omega) q
    rw [← hk1] at ih
    generalize (if i ≤ atC l x then i else i + 1) = k at hb hb1 ih hkl ⊢
    have hse := Z1vw (atC l x) l[i]
    have nx : Zaf m c (atC l x : Int) k (l.length + 1) l.length cp (cdsC l) ((l.length : Nat) : Int) (i : Int) l.length cp (cdsC l) x.cells ((l.length + 1) * 20) B (shC (atC l x) l[i]).cp.cells =
      some (.tup [.agg [.list (l.length + 1) (some (l.length + 1)) (cdsC (adC l x))], .v (.int .i64 (atC l x : Int)), .v (.int .i64 0)]) := by
     rw [Z1d9]
     refine st_if hsl ?_
     refine st_if (show k + 1 ≤ l.length + 1 by omega) ?_
     refine st_if ⟨by omega, hsl⟩ ?_
     rw [Z14 (by omega)]
     exact ih _ hb1
    rw [Z1da]
    refine Z0 hcc ?_
    refine Z0 rfl ?_
    refine st_if hccl ?_
    refine Z0 (Z3g (Cd.at0 l[i].cp)) ?_
    by_cases hp : (atC l x : Int) ≤ l[i].n.par
    ·refine st_cT (decide_eq_true hp) ?_
     refine Z0 (Z3g (Cd.at0 l[i].cp)) ?_
     rw [if_pos hp] at hse
     show Zaf _ _ _ _ _ _ _ _ _ _ _ _ _ _ _ _ (l[i].cp.cells.set 0 (.v (.int .i64 (IntKind.wrap .i64 (l[i].n.par + 1))))) = _
     rw [hpar, ← hse]
     exact nx
    ·refine st_cF (decide_eq_false hp) ?_
     rw [if_neg hp] at hse
     rw [← hse]
     exact nx
  ·obtain rfl : i = l.length := by omega
   refine st_cF (decide_eq_false (by omega)) ?_
   by_cases hae : atC l x = l.length
   ·refine st_cT (i_eq (by omega)) ?_
    refine Z0 hxc ?_
    refine Z0 rfl ?_
    refine st_if hxl ?_
    rw [if_pos (show l.length ≤ atC l x by omega)] at hb ⊢
    have hb1 := hb.grow hF (y := x.cp) (by rw [← hae]; exact adC_at)
    refine st_if (by omega) ?_
    refine st_if ⟨by omega, hxl⟩ ?_
    rw [Z1i4]
    refine st_if (by omega) ?_
    have e := hb1.all hal.symm
    rw [Z71 (by rw [hb1.len, hal]), e, hae]
   ·refine st_cF (i_ne (by omega)) ?_
    rw [if_neg (show ¬ l.length ≤ atC l x by omega)] at hb ⊢
    rw [Z1at]
    refine st_if (by omega) ?_
    have e := hb.all hal.symm
    rw [Z71 (by rw [hbl, hal]), e]
theorem Z22s (hl : l.length < 90000) : Z6z [.agg [.list l.length cp (cdsC l)], .agg x.cells] = some (.tup [.agg [.list (l.length + 1) (some (l.length + 1)) (cdsC (adC l x))], .v (.int .i64 (atC l x : Int)), .v (.int .i64 0)]) := by
 show Zr5 M l.length cp (cdsC l) x.cells = _
 unfold Zr5
 obtain ⟨p1, p2, p3, p4, p5, p6⟩ := addE_parts hv he
 rw [Z1r] at p1 p2
 have hB := h.len
 have r0 := Z3g (Cd.at0 x)
 refine st_if (Cd.cells_len hx.ok) ?_
 refine Z0 (Z1l3 h hv cp) ?_
 refine Z0 rfl ?_
 refine st_if rfl ?_
 refine Z0 rfl ?_
 refine Z0 (rdI_v _ _) ?_
 refine st_cF rfl ?_
 refine Z0 r0 ?_
 have hpar : (l.length = 0 ∧ x.n.par = -1) ∨ (0 < l.length ∧ 0 ≤ x.n.par ∧ x.n.par < l.length) := by
  by_cases q : l.length = 0
  ·exact .inl ⟨q, p1 q⟩
  ·exact .inr ⟨by omega, p2 (by omega)⟩
 refine st_cF (by
  rcases hpar with ⟨a, b⟩ | ⟨a, b, c⟩
  ·rw [i_eq (by omega), i_eq b]; rfl
  ·rw [i_ne (by omega), i_ne (by omega)]; rfl) ?_
 refine Z0 r0 ?_
 refine st_cF (decide_eq_false (by omega)) ?_
 refine Z0 r0 ?_
 refine st_cF (decide_eq_false (by unfold mm; simp only [Bool.false_eq_true, if_false]; split <;> omega)) ?_
 rw [Z16b]
 refine Z0 (Z1nc h hv cp) ?_
 refine Z0 rfl ?_
 refine Z0 r0 ?_
 have hpl := Oid.cells_len hx.ok.pol
 rw [Cd.pol_at hx.ok]
 refine st_if hpl ?_
 rw [Z1tc _ hpl]
 refine st_if (key_ok _ hx.ok.pol) ?_
 have hk : kidO (nds l) x.n.par x.n.pol = none := by
  rw [Z217] at p3
  cases hk : kidO (nds l) x.n.par x.n.pol with
  | none => rfl
  | some j => rw [hk] at p3; cases p3
 have hlk := Z1te h.ok x.n.par hx.ok.pol
 rw [hk] at hlk
 refine Z0 hlk ?_
 refine Z0 (rdI_v _ _) ?_
 refine st_cF rfl ?_
 rw [Z1r] at p4
 refine st_cF (i_ne (by omega)) ?_
 have fin : Zgf M l.length cp (cdsC l) x.cells = some (.tup [.agg [.list (l.length + 1) (some (l.length + 1)) (cdsC (adC l x))], .v (.int .i64 (atC l x : Int)), .v (.int .i64 0)]) := by
  rw [Z135]
  refine Z0 (Z1mt hx.ok hx.q) ?_
  refine Z0 (rdI_v _ _) ?_
  refine st_cF (i_bnf p6) ?_
  have := add_at (m := M) h hx hv he cp (R := some (.tup [.agg [.list (l.length + 1) (some (l.length + 1)) (cdsC (adC l x))], .v (.int .i64 (atC l x : Int)), .v (.int .i64 0)])) (by
   have t := Z1tp (m := M) h hx hv cp hl M 0 (List.flatten (List.replicate (l.length + 1) (D.v (.int .i64 0) :: D.v (.int .u8 0) :: (List.replicate 16 (D.v (.int .u32 0)) ++ [D.list 0 (some 0) [], D.list 0 (some 0) []])))) (by unfold M; omega) (by omega)
   rw [if_pos (Nat.zero_le _)] at t
   exact t ⟨by rw [Z1x4]; exact Z18b _ 20 rfl, by rw [Nat.zero_mul, List.take_zero, List.take_zero]; rfl⟩) M 0 (by unfold M; omega) (by omega)
  rw [Nat.zero_min] at this
  exact this
 rcases hpar with ⟨a, b⟩ | ⟨a, b, c⟩
 ·refine st_cF (by rw [i_eq (by omega)]; rfl) ?_
  exact fin
 ·refine st_cT (by rw [i_ne (by omega)]; rfl) ?_
  refine Z0 r0 ?_
  refine st_if ⟨b, c⟩ ?_
  have hd := p5 b
  rw [Nat.mul_one]
  refine Z0 (dps_at (N := nds l) (i := l.length) (n := l.length) (j := x.n.par.toNat) (by omega) (by omega)) ?_
  refine st_cF (i_ne (by omega)) ?_
  exact fin
end
theorem Z1x5 {l : List Cd} {x : Cd} (h : CdsB l) (hx : XOk x) (hv : Valid (nds l)) (he : addE (nds l) x.n ≠ 0) (cp : Option Nat) :
  Z6z [.agg [.list l.length cp (cdsC l)], .agg x.cells] = some (.tup [.agg [.list 0 (some 0) []], .v (.int .i64 0), .v (.int .i64 (addE (nds l) x.n))]) := by
 show Zr5 M l.length cp (cdsC l) x.cells = _
 unfold Zr5
 have hB := h.len
 have r0 := Z3g (Cd.at0 x)
 refine st_if (Cd.cells_len hx.ok) ?_
 refine Z0 (Z1l3 h hv cp) ?_
 refine Z0 rfl ?_
 refine st_if rfl ?_
 refine Z0 rfl ?_
 refine Z0 (rdI_v _ _) ?_
 refine st_cF rfl ?_
 refine Z0 r0 ?_
 unfold addE at he ⊢
 rw [Z1r] at he ⊢
 by_cases c1 : (l.length = 0 ∧ x.n.par ≠ -1) ∨ (0 < l.length ∧ (x.n.par < 0 ∨ (l.length : Int) ≤ x.n.par))
 ·rw [if_pos c1]
  by_cases q1 : (l.length = 0) = (x.n.par = -1)
  ·refine st_cF (by
    by_cases q2 : l.length = 0
    ·rw [i_eq (by omega), i_eq (q1 ▸ q2)]; rfl
    ·rw [i_ne (by omega), i_ne (fun e => q2 (q1 ▸ e))]; rfl) ?_
   refine Z0 r0 ?_
   by_cases q3 : x.n.par < -1
   ·exact st_cT (decide_eq_true q3) rfl
   ·refine st_cF (decide_eq_false q3) ?_
    refine Z0 r0 ?_
    refine st_cT (decide_eq_true (by
     have : ¬ (l.length = 0) := fun e => by
      have := q1 ▸ e
      omega
     have : ¬ (x.n.par = -1) := fun e => this (q1 ▸ e)
     unfold mm; simp only [Bool.false_eq_true, if_false]; split <;> omega)) rfl
  ·refine st_cT (by
    by_cases q2 : l.length = 0
    ·rw [i_eq (by omega), i_ne (fun e => q1 (propext ⟨fun _ => e, fun _ => q2⟩))]; rfl
    ·have : x.n.par = -1 := Decidable.byContradiction fun e => q1 (propext ⟨fun a => absurd a q2, fun a => absurd a e⟩)
     rw [i_ne (by omega), i_eq this]; rfl) rfl
 ·rw [if_neg c1] at he ⊢
  have hpar : (l.length = 0 ∧ x.n.par = -1) ∨ (0 < l.length ∧ 0 ≤ x.n.par ∧ x.n.par < l.length) := by omega
  refine st_cF (by
   rcases hpar with ⟨a, b⟩ | ⟨a, b, c⟩
   ·rw [i_eq (by omega), i_eq b]; rfl
   ·rw [i_ne (by omega), i_ne (by omega)]; rfl) ?_
  refine Z0 r0 ?_
  refine st_cF (decide_eq_false (by omega)) ?_
  refine Z0 r0 ?_
  refine st_cF (decide_eq_false (by unfold mm; simp only [Bool.false_eq_true, if_false]; split <;> omega)) ?_
  rw [Z16b]
  refine Z0 (Z1nc h hv cp) ?_
  refine Z0 rfl ?_
  refine Z0 r0 ?_
  have hpl := Oid.cells_len hx.ok.pol
  rw [Cd.pol_at hx.ok]
  refine st_if hpl ?_
  rw [Z1tc _ hpl]
  refine st_if (key_ok _ hx.ok.pol) ?_
  have hlk := Z1te h.ok x.n.par hx.ok.pol
  refine Z0 hlk ?_
  rw [Z217] at he ⊢
  cases hk : kidO (nds l) x.n.par x.n.pol with
  | some j =>
   dsimp only
   refine Z0 (rdI_v _ _) ?_
   exact st_cT rfl rfl
  | none =>
   rw [hk] at he
   rw [if_neg (by simp)] at he ⊢
   dsimp only
   refine Z0 (rdI_v _ _) ?_
   refine st_cF rfl ?_
   by_cases c3 : l.length = 65536
   ·rw [if_pos c3]
    exact st_cT (i_eq (by omega)) rfl
   ·rw [if_neg c3] at he ⊢
    refine st_cF (i_ne (by omega)) ?_
    have fin : ndE x.n ≠ 0 → Zgf M l.length cp (cdsC l) x.cells = some (.tup [.agg [.list 0 (some 0) []], .v (.int .i64 0), .v (.int .i64 (ndE x.n))]) := fun q => by
     rw [Z135]
     refine Z0 (Z1mt hx.ok hx.q) ?_
     refine Z0 (rdI_v _ _) ?_
     exact st_cT (i_bne q) rfl
    rcases hpar with ⟨a, b⟩ | ⟨a, b, c⟩
    ·refine st_cF (by rw [i_eq (by omega)]; rfl) ?_
     rw [if_neg (by omega)] at he ⊢
     exact fin he
    ·refine st_cT (by rw [i_ne (by omega)]; rfl) ?_
     refine Z0 r0 ?_
     refine st_if ⟨b, c⟩ ?_
     rw [Nat.mul_one]
     refine Z0 (dps_at (N := nds l) (i := l.length) (n := l.length) (j := x.n.par.toNat) (by omega) (by omega)) ?_
     by_cases c4 : dep (nds l) x.n.par.toNat = 64
     ·rw [if_pos ⟨b, c4⟩]
      exact st_cT (i_eq (by omega)) rfl
     ·rw [if_neg (fun q => c4 q.2)] at he ⊢
      refine st_cF (i_ne (by omega)) ?_
      exact fin he
end Go.Ev