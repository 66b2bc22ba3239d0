/-
 Trees examined: what the checks of a node and of a tree return.
-/
import Derived.Test.YtnghcoghbbapgaaGreatDoorEzN1
import Derived.Test.YtnghcoghbbapgaaGreatDoorEzG3
set_option linter.unusedSimpArgs false
set_option linter.unusedVariables false
set_option maxRecDepth 100000
namespace Go.Ev
open Go
theorem chk_q : ∀ b : Bool, Z4l [.agg (qC b)] = some (.v (.int .i64 0))
 | true => by kernel_rfl
 | false => by kernel_rfl
theorem rchk_q : ∀ b : Bool, Ze8 [.agg (qC b)] = some (.v (.int .i64 0))
 | true => by kernel_rfl
 | false => by kernel_rfl
theorem Z1e2 {m : Nat} {q : List Bool} (hb : q.length < 1000000000) (cp : Option Nat) : ∀ (c i : Nat), q.length - i < c → i ≤ q.length →
  Zf5 m c q.length cp (qsC q) (q.length : Int) (i : Int) = some (.v (.int .i64 0))
 | 0, i, hc, hi => by omega
 | c + 1, i, hc, hi => by
  have hq := Z1la q
  rw [Z150]
  simp only [Int.toNat_natCast]
  by_cases hlt : i < q.length
  ·refine st_cT (decide_eq_true (by omega)) ?_
   refine st_if (by omega) ?_
   refine st_if (by omega) ?_
   rw [Z1lb hlt]
   refine st_if (qC_len _) ?_
   refine Z1 (chk_q _) ?_
   refine Z1 (rdI_v _ _) ?_
   refine st_cF rfl ?_
   rw [Z2i (by omega)]
   exact Z1e2 hb cp c (i + 1) (by omega) (by omega)
  ·exact st_cF (decide_eq_false (by omega)) rfl
theorem Cd.pol_at {x : Cd} (h : x.n.ok) : (x.cells.drop 1).take 17 = x.n.pol.cells := by
 unfold Cd.cells
 rw [List.drop_succ_cons, List.drop_zero, List.take_left' (Oid.cells_len h.pol)]
theorem Cd.at0 (x : Cd) : x.cells[0]? = some (.v (.int .i64 x.n.par)) := rfl
theorem Cd.at18 {x : Cd} (h : x.n.ok) : x.cells[18]? = some (.list x.n.ex.length x.ec (oidsC x.n.ex)) := by
 have hok := Oid.cells_len h.pol
 unfold Cd.cells
 rw [List.getElem?_cons_succ, List.getElem?_append_right (by omega), hok]; rfl
theorem Cd.at19 {x : Cd} (h : x.n.ok) : x.cells[19]? = some (.list x.n.q.length x.qc (qsC x.n.q)) := by
 have hok := Oid.cells_len h.pol
 unfold Cd.cells
 rw [List.getElem?_cons_succ, List.getElem?_append_right (by omega), hok]; rfl
theorem Z1lh {x : Cd} (h : x.n.ok) (hq : x.n.q.length < 1000000000) : Zec [.agg x.cells] = some (.v (.int .i64 (ndE x.n))) := by
 show Zpd M x.cells = _
 unfold Zpd ndE
 refine st_if (Cd.cells_len h) ?_
 rw [Cd.pol_at h]
 refine Z1 (Z122 h.pol) ?_
 refine Z1 (rdI_v _ _) ?_
 rw [Oid.err_bne]
 cases hg : x.n.pol.good with
 | false =>
  refine st_cT rfl ?_
  rw [if_pos rfl, Oid.err_bad hg]
 | true =>
  refine st_cF rfl ?_
  rw [if_neg (by simp)]
  refine Z1 (Z12z (Cd.at18 h)) ?_
  refine Z1 (Z16a h.ex _) ?_
  refine Z1 (rdI_v _ _) ?_
  by_cases hs : setErr x.n.ex = 0
  ·rw [if_neg (by simp [hs])]
   refine st_cF (i_bnf hs) ?_
   refine Z1 (Z12z (Cd.at19 h)) ?_
   by_cases h8 : 8 < x.n.q.length
   ·rw [if_pos h8]
    exact st_cT (decide_eq_true (by dsimp only; omega)) rfl
   ·rw [if_neg h8]
    refine st_cF (decide_eq_false (by dsimp only; omega)) ?_
    refine Z1 (Z12z (Cd.at19 h)) ?_
    exact Z1e2 hq _ M 0 (by unfold M; omega) (by omega)
  ·rw [if_pos hs]
   exact st_cT (i_bne hs) rfl
def exRes (l : List Cd) (e : Int) : D := if e = 0 then .tup [.list l.length (some l.length) (ints (dps (nds l) l.length l.length)), .v (.int .i64 0)] else .tup [.list 0 (some 0) [], .v (.int .i64 e)]
theorem Z1mq (l : List Cd) {e : Int} (h : e ≠ 0) : exRes l e = .tup [.list 0 (some 0) [], .v (.int .i64 e)] := if_neg h
theorem Z1li {l : List Cd} {i : Nat} (h : i - 1 < l.length) : prevN (nds l) i = l[i - 1].n := by
 unfold prevN
 rw [List.getD_eq_getElem?_getD, Z1iq h]; rfl
theorem Z19j {l : List Cd} {i : Nat} (h : i < l.length) : parN (nds l) i = l[i].n.par.toNat := by
 rw [Z1ng (by rw [Z3a]; exact h), Zwf h]
structure CdsB (l : List Cd) : Prop where
 ok : CdsOk l
 len : l.length < 100000
 ex : ∀ x, x ∈ l → x.n.ex.length < 1000000000
 q : ∀ x, x ∈ l → x.n.q.length < 1000000000
theorem dps_at {N : List Nd} {i n j : Nat} (hj : j < n) (h : j < i) : rdI .i64 (ints (dps N i n))[j]? = some (dep N j : Int) := by
 have : j < (dps N i n).length := by rw [Z1ir]; exact hj
 rw [show (ints (dps N i n))[j]? = some (.v (.int .i64 (dep N j : Int))) by
  simp [ints, dps, hj, h]]
 exact rdI_v _ _
theorem Z1lj {m : Nat} {l : List Cd} (h : CdsB l) (cp : Option Nat) : ∀ (c i : Nat), l.length - i < c → i ≤ l.length → To (nds l) i →
  Zck m c l.length l.length cp (cdsC l) (l.length : Int) (i : Int) l.length cp (cdsC l) (l.length * 1) (ints (dps (nds l) i l.length)) =
  some (exRes l (Zl5 (nds l) (l.length - i) i))
 | 0, i, hc, hi, hto => by omega
 | c + 1, i, hc, hi, hto => by
  have hB := h.len
  have hl := cdsC_len h.ok
  have hil : (ints (dps (nds l) i l.length)).length = l.length := by rw [Z1mf, Z1ir]
  rw [Z134]
  simp only [Int.toNat_natCast]
  by_cases hlt : i < l.length
  ·have hok := h.ok _ (List.getElem_mem hlt)
   have hn : i < (nds l).length := by rw [Z3a]; exact hlt
   have he := Z1hk hn
   rw [Z3a] at he
   have ho := Z1nf hn
   rw [Zwf hlt] at ho
   have hop : ∀ e : Int, plE (nds l) i l[i].n = e → e ≠ 0 → oneE (nds l) i = e := fun e h1 h2 => by rw [ho, if_pos (by rw [h1]; exact h2), h1]
   have err : ∀ e : Int, e ≠ 0 → oneE (nds l) i = e → exRes l (Zl5 (nds l) (l.length - i) i) = .tup [.list 0 (some 0) [], .v (.int .i64 e)] := fun e h0 h1 => by
    rw [he, if_neg (by rw [h1]; exact h0), h1, Z1mq l h0]
   have j12 : ¬ (i = 0 ∧ l[i].n.par ≠ -1 ∨ 0 < i ∧ (l[i].n.par < 0 ∨ (i : Int) ≤ l[i].n.par)) → ¬ (1 < i ∧ (l[i].n.par < (prevN (nds l) i).par ∨ (prevN (nds l) i).par = l[i].n.par ∧ 0 < (prevN (nds l) i).pol.cmp l[i].n.pol)) →
     ¬ (1 < i ∧ (prevN (nds l) i).par = l[i].n.par ∧ (prevN (nds l) i).pol = l[i].n.pol) →
     Z26 m c l.length (i : Int) l.length cp (cdsC l) (l.length : Int) l.length cp (cdsC l) (i : Int) l.length l.length l.length cp (cdsC l) (l.length * 1) (ints (dps (nds l) (i + 1) l.length)) (l[i].cells) =
     some (exRes l (Zl5 (nds l) (l.length - i) i)) := fun c1 c2 c3 => by
    rw [Zj0]
    simp only [Int.toNat_natCast, Nat.zero_add, Nat.mul_one]
    refine st_if (by omega) ?_
    refine Z1 (dps_at hlt (by omega)) ?_
    by_cases hd : 64 < dep (nds l) i
    ·refine st_cT (decide_eq_true (by omega)) ?_
     rw [err 12 (by decide) (hop _ (by unfold plE; rw [if_neg c1, if_neg c2, if_neg c3, if_pos hd]) (by decide))]
    ·refine st_cF (decide_eq_false (by omega)) ?_
     have hp : plE (nds l) i l[i].n = 0 := by unfold plE; rw [if_neg c1, if_neg c2, if_neg c3, if_neg hd]
     rw [if_neg (by simp [hp])] at ho
     refine Z1 (Z1lh hok (h.q _ (List.getElem_mem hlt))) ?_
     refine Z1 (rdI_v _ _) ?_
     by_cases h0 : ndE l[i].n = 0
     ·refine st_cF (i_bnf h0) ?_
      rw [Z2i (by omega), he, if_pos (by rw [ho]; exact h0)]
      have := Z1lj (m := m) h cp c (i + 1) (by omega) (by omega) (hto.succ fun h0 => by
       rw [Z19j hlt]
       omega)
      rw [Nat.mul_one] at this
      exact this
     ·refine st_cT (i_bne h0) ?_
      rw [err _ h0 ho]
   have j10 : ¬ (i = 0 ∧ l[i].n.par ≠ -1 ∨ 0 < i ∧ (l[i].n.par < 0 ∨ (i : Int) ≤ l[i].n.par)) → ¬ (1 < i ∧ (l[i].n.par < (prevN (nds l) i).par ∨ (prevN (nds l) i).par = l[i].n.par ∧ 0 < (prevN (nds l) i).pol.cmp l[i].n.pol)) →
     ¬ (1 < i ∧ (prevN (nds l) i).par = l[i].n.par ∧ (prevN (nds l) i).pol = l[i].n.pol) →
     Z1b m c l.length (i : Int) l.length cp (cdsC l) (l.length : Int) l.length cp (cdsC l) (i : Int) l.length l.length l.length cp (cdsC l) (l.length * 1) (ints (dps (nds l) i l.length)) (l[i].cells) (l[i].cells) =
     some (exRes l (Zl5 (nds l) (l.length - i) i)) := fun c1 c2 c3 => by
    rw [Zj1]
    by_cases h0 : 0 < i
    ·refine st_cT (decide_eq_true (by omega)) ?_
     refine Z1 (Z7l (Cd.at0 _)) ?_
     have hpn := Z19j hlt
     refine st_if (by omega) ?_
     simp only [Int.toNat_natCast, Nat.zero_add, Nat.mul_one]
     refine Z1 (dps_at (by omega) (by omega)) ?_
     refine st_if (by omega) ?_
     refine st_if ⟨by first | rfl | trivial, by omega⟩ ?_
     have hto' : To (nds l) (i + 1) := hto.succ fun _ => by rw [hpn]; omega
     have hdp := dep_to hto' (by omega : i < i + 1) h0
     have hdb := Z1le (l := nds l) (parN (nds l) i)
     rw [← hpn, Z2i (by omega), show dep (nds l) (parN (nds l) i) + 1 = dep (nds l) i from hdp.symm, Z1ml, Z1nh]
     have := j12 c1 c2 c3
     rw [Nat.mul_one] at this
     exact this
    ·refine st_cF (decide_eq_false (by omega)) ?_
     have := j12 c1 c2 c3
     obtain rfl : i = 0 := by omega
     rw [← Z1mp] at this
     exact this
   have j4 : ¬ (i = 0 ∧ l[i].n.par ≠ -1 ∨ 0 < i ∧ (l[i].n.par < 0 ∨ (i : Int) ≤ l[i].n.par)) →
     Zx m c l.length (i : Int) l.length cp (cdsC l) (l.length : Int) l.length cp (cdsC l) l.length cp (cdsC l) (i : Int) l.length l.length l.length cp (cdsC l) (l.length * 1) (ints (dps (nds l) i l.length)) (l[i].cells) (l[i].cells) =
     some (exRes l (Zl5 (nds l) (l.length - i) i)) := fun c1 => by
    rw [Zk3]
    by_cases h1 : 1 < i
    ·refine st_cT (decide_eq_true (by omega)) ?_
     have hw : IntKind.wrap .i64 ((i : Int) - 1) = ((i - 1 : Nat) : Int) := by rw [Z1ip (by omega) (by omega)]; omega
     have hlt' : i - 1 < l.length := by omega
     have hok' := h.ok _ (List.getElem_mem hlt')
     have hpv := Z1li hlt'
     rw [hw]
     simp only [Int.toNat_natCast]
     rw [Z14z h.ok hlt']
     refine st_if (by omega) ?_
     refine st_if (by omega) ?_
     refine st_if (Cd.cells_len hok') ?_
     refine Z1 (Z7l (Cd.at0 _)) ?_
     refine Z1 (Z7l (Cd.at0 _)) ?_
     by_cases c2 : l[i].n.par < l[i - 1].n.par
     ·refine st_cT (decide_eq_true c2) ?_
      rw [err 13 (by decide) (hop _ (by unfold plE; rw [if_neg c1, hpv, if_pos ⟨h1, .inl c2⟩]) (by decide))]
     ·refine st_cF (decide_eq_false c2) ?_
      refine Z1 (Z7l (Cd.at0 _)) ?_
      refine Z1 (Z7l (Cd.at0 _)) ?_
      rw [Cd.pol_at hok, Cd.pol_at hok']
      by_cases c3 : l[i - 1].n.par = l[i].n.par
      ·refine st_cT (i_eq c3) ?_
       refine Z1 (Zxh hok'.pol hok.pol) ?_
       refine Z1 (rdI_v _ _) ?_
       by_cases c4 : 0 < l[i - 1].n.pol.cmp l[i].n.pol
       ·refine st_cT (decide_eq_true c4) ?_
        rw [err 13 (by decide) (hop _ (by unfold plE; rw [if_neg c1, hpv, if_pos ⟨h1, .inr ⟨c3, c4⟩⟩]) (by decide))]
       ·refine st_cF (decide_eq_false c4) ?_
        rw [Z5n]
        refine Z1 (Z7l (Cd.at0 _)) ?_
        refine Z1 (Z7l (Cd.at0 _)) ?_
        refine st_cT (i_eq c3) ?_
        rw [Cd.pol_at hok, Cd.pol_at hok']
        refine Z1 (oid_eq hok'.pol hok.pol) ?_
        by_cases c5 : l[i - 1].n.pol = l[i].n.pol
        ·refine st_cT (decide_eq_true c5) ?_
         rw [err 14 (by decide) (hop _ (by unfold plE; rw [if_neg c1, hpv, if_neg (fun h2 => h2.2.elim c2 fun h3 => c4 h3.2), if_pos ⟨h1, c3, c5⟩]) (by decide))]
        ·refine st_cF (decide_eq_false c5) ?_
         exact j10 c1 (by rw [hpv]; exact fun h2 => h2.2.elim c2 fun h3 => c4 h3.2) (by rw [hpv]; exact fun h2 => c5 h2.2.2)
      ·refine st_cF (i_ne c3) ?_
       rw [Z5n]
       refine Z1 (Z7l (Cd.at0 _)) ?_
       refine Z1 (Z7l (Cd.at0 _)) ?_
       refine st_cF (i_ne c3) ?_
       exact j10 c1 (by rw [hpv]; exact fun h2 => h2.2.elim c2 fun h3 => c3 h3.1) (by rw [hpv]; exact fun h2 => c3 h2.2.1)
    ·refine st_cF (decide_eq_false (by omega)) ?_
     exact j10 c1 (fun h2 => h1 h2.1) (fun h2 => h1 h2.1)
   rw [Z14z h.ok hlt]
   refine st_cT (decide_eq_true (by omega)) ?_
   refine st_if (by omega) ?_
   refine st_if (by omega) ?_
   refine st_if (Cd.cells_len hok) ?_
   refine st_if (by omega) ?_
   refine st_if (by omega) ?_
   refine st_if (Cd.cells_len hok) ?_
   by_cases h0 : i = 0
   ·refine st_cT (i_eq (by omega)) ?_
    refine Z1 (Z7l (Cd.at0 _)) ?_
    by_cases hp : l[i].n.par = -1
    ·refine st_cF (i_bnf hp) ?_
     refine st_cF (decide_eq_false (by omega)) ?_
     exact j4 (fun h2 => h2.elim (fun h3 => h3.2 hp) fun h3 => absurd h3.1 (by omega))
    ·refine st_cT (i_bne hp) ?_
     rw [err 1 (by decide) (hop _ (by unfold plE; rw [if_pos (.inl ⟨h0, hp⟩)]) (by decide))]
   ·refine st_cF (i_ne (by omega)) ?_
    refine st_cT (decide_eq_true (by omega)) ?_
    refine Z1 (Z7l (Cd.at0 _)) ?_
    by_cases hp : l[i].n.par < 0
    ·refine st_cT (decide_eq_true hp) ?_
     rw [err 1 (by decide) (hop _ (by unfold plE; rw [if_pos (.inr ⟨by omega, .inl hp⟩)]) (by decide))]
    ·refine st_cF (decide_eq_false hp) ?_
     refine Z1 (Z7l (Cd.at0 _)) ?_
     by_cases hp2 : (i : Int) ≤ l[i].n.par
     ·refine st_cT (decide_eq_true hp2) ?_
      rw [err 1 (by decide) (hop _ (by unfold plE; rw [if_pos (.inr ⟨by omega, .inr hp2⟩)]) (by decide))]
     ·refine st_cF (decide_eq_false hp2) ?_
      exact j4 (fun h2 => h2.elim (fun h3 => h0 h3.1) fun h3 => h3.2.elim hp hp2)
  ·obtain rfl : i = l.length := by omega
   refine st_cF (decide_eq_false (by omega)) ?_
   refine st_if (by omega) ?_
   rw [Nat.sub_self, show Zl5 (nds l) 0 l.length = 0 from rfl, Nat.mul_one, Z118 hil]
   rfl
theorem Z1is {l : List Cd} (h : CdsB l) (cp : Option Nat) : Z8f [.agg [.list l.length cp (cdsC l)]] = some (exRes l (Z132 (nds l))) := by
 show Zj2 M l.length cp (cdsC l) = _
 unfold Zj2 Z132
 have hB := h.len
 rw [Z3a]
 by_cases h1 : 65536 < l.length
 ·refine st_cT (decide_eq_true (by omega)) ?_
  rw [if_pos h1]; rfl
 ·refine st_cF (decide_eq_false (by omega)) ?_
  rw [if_neg h1]
  simp only [Int.toNat_natCast]
  refine st_if ⟨by omega, by omega, by constructor <;> omega⟩ ?_
  rw [Z1mm, ← Z1mo (nds l)]
  exact Z1lj h cp M 0 (by unfold M; omega) (by omega) (fun j _ hj => by omega)
theorem Z1k9 {l : List Cd} (h : CdsB l) (cp : Option Nat) : Zed [.agg [.list l.length cp (cdsC l)]] = some (.v (.int .i64 (Z132 (nds l)))) := by
 show Zpe M l.length cp (cdsC l) = _
 unfold Zpe
 refine Z1 (Z1is h cp) ?_
 unfold exRes
 by_cases h0 : Z132 (nds l) = 0
 ·rw [if_pos h0, h0]; rfl
 ·rw [if_neg h0]; rfl
end Go.Ev