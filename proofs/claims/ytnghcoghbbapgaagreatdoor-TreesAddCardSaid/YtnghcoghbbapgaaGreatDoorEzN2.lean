/-
 Trees examined: what the checks of a node and of a tree return.
-/
import Derived.Test.YtnghcoghbbapgaaGreatDoorEzN1
import Derived.Test.YtnghcoghbbapgaaGreatDoorEzG3
set_option linter.unusedSimpArgs false
set_option linter.unusedVariables false
set_option maxRecDepth 100000
namespace Go.Ev
open Go
theorem chk_q : ∀ b : Bool, Z7u [.agg (qC b)] = some (.v (.int .i64 0))
 | true => by kernel_rfl
 | false => by kernel_rfl
theorem rchk_q : ∀ b : Bool, Zj2 [.agg (qC b)] = some (.v (.int .i64 0))
 | true => by kernel_rfl
 | false => by kernel_rfl
theorem Z1qr {m : Nat} {q : List Bool} (hb : q.length < 1000000000) (cp : Option Nat) : ∀ (c i : Nat), q.length - i < c → i ≤ q.length →
  Zk4 m c q.length cp (qsC q) (q.length : Int) (i : Int) = some (.v (.int .i64 0))
 | 0, i, hc, hi => by omega
 | c + 1, i, hc, hi => by
  have hq := Z185 q
  rw [Z1ey]
  simp only [Int.toNat_natCast]
  by_cases hlt : i < q.length
  ·refine st_cT (decide_eq_true (by omega)) ?_
   refine st_if (by omega) ?_
   refine st_if (by omega) ?_
   rw [Z1cm hlt]
   refine st_if (qC_len _) ?_
   refine Z0 (chk_q _) ?_
   refine Z0 (rdI_v _ _) ?_
   refine st_cF rfl ?_
   rw [Z14 (by omega)]
   exact Z1qr hb cp c (i + 1) (by omega) (by omega)
  ·exact st_cF (decide_eq_false (by omega)) rfl
theorem Cd.pol_at {x : Cd} (h : x.n.ok) : (x.cells.drop 1).take 17 = x.n.pol.cells := by
 unfold Cd.cells
 rw [List.drop_succ_cons, List.drop_zero, List.take_left' (Oid.cells_len h.pol)]
theorem Cd.at0 (x : Cd) : x.cells[0]? = some (.v (.int .i64 x.n.par)) := rfl
theorem Cd.at18 {x : Cd} (h : x.n.ok) : x.cells[18]? = some (.list x.n.ex.length x.ec (oidsC x.n.ex)) := by
 have hok := Oid.cells_len h.pol
 unfold Cd.cells
 rw [List.getElem?_cons_succ, List.getElem?_append_right (by omega), hok]; rfl
theorem Cd.at19 {x : Cd} (h : x.n.ok) : x.cells[19]? = some (.list x.n.q.length x.qc (qsC x.n.q)) := by
 have hok := Oid.cells_len h.pol
 unfold Cd.cells
 rw [List.getElem?_cons_succ, List.getElem?_append_right (by omega), hok]; rfl
theorem Z1mt {x : Cd} (h : x.n.ok) (hq : x.n.q.length < 1000000000) : Z93 [.agg x.cells] = some (.v (.int .i64 (ndE x.n))) := by
 show Zvj M x.cells = _
 unfold Zvj ndE
 refine st_if (Cd.cells_len h) ?_
 rw [Cd.pol_at h]
 refine Z0 (Z1be h.pol) ?_
 refine Z0 (rdI_v _ _) ?_
 rw [Oid.err_bne]
 cases hg : x.n.pol.good with
 | false =>
  refine st_cT rfl ?_
  rw [if_pos rfl, Oid.err_bad hg]
 | true =>
  refine st_cF rfl ?_
  rw [if_neg (by simp)]
  refine Z0 (Zcx (Cd.at18 h)) ?_
  refine Z0 (Z11w h.ex _) ?_
  refine Z0 (rdI_v _ _) ?_
  by_cases hs : setErr x.n.ex = 0
  ·rw [if_neg (by simp [hs])]
   refine st_cF (i_bnf hs) ?_
   refine Z0 (Zcx (Cd.at19 h)) ?_
   by_cases h8 : 8 < x.n.q.length
   ·rw [if_pos h8]
    exact st_cT (decide_eq_true (by dsimp only; omega)) rfl
   ·rw [if_neg h8]
    refine st_cF (decide_eq_false (by dsimp only; omega)) ?_
    refine Z0 (Zcx (Cd.at19 h)) ?_
    exact Z1qr hq _ M 0 (by unfold M; omega) (by omega)
  ·rw [if_pos hs]
   exact st_cT (i_bne hs) rfl
def exRes (l : List Cd) (e : Int) : D := if e = 0 then .tup [.list l.length (some l.length) (ints (dps (nds l) l.length l.length)), .v (.int .i64 0)] else .tup [.list 0 (some 0) [], .v (.int .i64 e)]
theorem Z22a (l : List Cd) {e : Int} (h : e ≠ 0) : exRes l e = .tup [.list 0 (some 0) [], .v (.int .i64 e)] := if_neg h
theorem Z20c {l : List Cd} {i : Nat} (h : i - 1 < l.length) : prevN (nds l) i = l[i - 1].n := by
 unfold prevN
 rw [List.getD_eq_getElem?_getD, Z142 h]; rfl
theorem Z1kv {l : List Cd} {i : Nat} (h : i < l.length) : parN (nds l) i = l[i].n.par.toNat := by
 rw [Z23a (by rw [Z1r]; exact h), Zbf h]
structure CdsB (l : List Cd) : Prop where
 ok : CdsOk l
 len : l.length < 100000
 ex : ∀ x, x ∈ l → x.n.ex.length < 1000000000
 q : ∀ x, x ∈ l → x.n.q.length < 1000000000
theorem dps_at {N : List Nd} {i n j : Nat} (hj : j < n) (h : j < i) : rdI .i64 (ints (dps N i n))[j]? = some (dep N j : Int) := by
 have : j < (dps N i n).length := by rw [Z1wq]; exact hj
 rw [show (ints (dps N i n))[j]? = some (.v (.int .i64 (dep N j : Int))) by
  simp [ints, dps, hj, h]]
 exact rdI_v _ _
theorem Z20d {m : Nat} {l : List Cd} (h : CdsB l) (cp : Option Nat) : ∀ (c i : Nat), l.length - i < c → i ≤ l.length → To (nds l) i →
  Zh5 m c l.length l.length cp (cdsC l) (l.length : Int) (i : Int) l.length cp (cdsC l) (l.length * 1) (ints (dps (nds l) i l.length)) =
  some (exRes l (Zqn (nds l) (l.length - i) i))
 | 0, i, hc, hi, hto => by omega
 | c + 1, i, hc, hi, hto => by
  have hB := h.len
  have hl := cdsC_len h.ok
  have hil : (ints (dps (nds l) i l.length)).length = l.length := by rw [Z13z, Z1wq]
  rw [Z1cr]
  simp only [Int.toNat_natCast]
  by_cases hlt : i < l.length
  ·have hok := h.ok _ (List.getElem_mem hlt)
   have hn : i < (nds l).length := by rw [Z1r]; exact hlt
   have he := Z1v3 hn
   rw [Z1r] at he
   have ho := Z239 hn
   rw [Zbf hlt] at ho
   have hop : ∀ e : Int, plE (nds l) i l[i].n = e → e ≠ 0 → oneE (nds l) i = e := fun e h1 h2 => by rw [ho, if_pos (by rw [h1]; exact h2), h1]
   have err : ∀ e : Int, e ≠ 0 → oneE (nds l) i = e → exRes l (Zqn (nds l) (l.length - i) i) = .tup [.list 0 (some 0) [], .v (.int .i64 e)] := fun e h0 h1 => by
    rw [he, if_neg (by rw [h1]; exact h0), h1, Z22a l h0]
   have j12 : ¬ (i = 0 ∧ l[i].n.par ≠ -1 ∨ 0 < i ∧ (l[i].n.par < 0 ∨ (i : Int) ≤ l[i].n.par)) → ¬ (1 < i ∧ (l[i].n.par < (prevN (nds l) i).par ∨ (prevN (nds l) i).par = l[i].n.par ∧ 0 < (prevN (nds l) i).pol.cmp l[i].n.pol)) →
     ¬ (1 < i ∧ (prevN (nds l) i).par = l[i].n.par ∧ (prevN (nds l) i).pol = l[i].n.pol) →
     Z4d m c l.length (i : Int) l.length cp (cdsC l) (l.length : Int) l.length cp (cdsC l) (i : Int) l.length l.length l.length cp (cdsC l) (l.length * 1) (ints (dps (nds l) (i + 1) l.length)) (l[i].cells) =
     some (exRes l (Zqn (nds l) (l.length - i) i)) := fun c1 c2 c3 => by
    rw [Zoa]
    simp only [Int.toNat_natCast, Nat.zero_add, Nat.mul_one]
    refine st_if (by omega) ?_
    refine Z0 (dps_at hlt (by omega)) ?_
    by_cases hd : 64 < dep (nds l) i
    ·refine st_cT (decide_eq_true (by omega)) ?_
     rw [err 12 (by decide) (hop _ (by unfold plE; rw [if_neg c1, if_neg c2, if_neg c3, if_pos hd]) (by decide))]
    ·refine st_cF (decide_eq_false (by omega)) ?_
     have hp : plE (nds l) i l[i].n = 0 := by unfold plE; rw [if_neg c1, if_neg c2, if_neg c3, if_neg hd]
     rw [if_neg (by simp [hp])] at ho
     refine Z0 (Z1mt hok (h.q _ (List.getElem_mem hlt))) ?_
     refine Z0 (rdI_v _ _) ?_
     by_cases h0 : ndE l[i].n = 0
     ·refine st_cF (i_bnf h0) ?_
      rw [Z14 (by omega), he, if_pos (by rw [ho]; exact h0)]
      have := Z20d (m := m) h cp c (i + 1) (by omega) (by omega) (hto.succ fun h0 => by
       rw [Z1kv hlt]
       omega)
      rw [Nat.mul_one] at this
      exact this
     ·refine st_cT (i_bne h0) ?_
      rw [err _ h0 ho]
   have j10 : ¬ (i = 0 ∧ l[i].n.par ≠ -1 ∨ 0 < i ∧ (l[i].n.par < 0 ∨ (i : Int) ≤ l[i].n.par)) → ¬ (1 < i ∧ (l[i].n.par < (prevN (nds l) i).par ∨ (prevN (nds l) i).par = l[i].n.par ∧ 0 < (prevN (nds l) i).pol.cmp l[i].n.pol)) →
     ¬ (1 < i ∧ (prevN (nds l) i).par = l[i].n.par ∧ (prevN (nds l) i).pol = l[i].n.pol) →
     Z35 m c l.length (i : Int) l.length cp (cdsC l) (l.length : Int) l.length cp (cdsC l) (i : Int) l.length l.length l.length cp (cdsC l) (l.length * 1) (ints (dps (nds l) i l.length)) (l[i].cells) (l[i].cells) =
     some (exRes l (Zqn (nds l) (l.length - i) i)) := fun c1 c2 c3 => by
    rw [Zob]
    by_cases h0 : 0 < i
    ·refine st_cT (decide_eq_true (by omega)) ?_
     refine Z0 (Z3g (Cd.at0 _)) ?_
     have hpn := Z1kv hlt
     refine st_if (by omega) ?_
     simp only [Int.toNat_natCast, Nat.zero_add, Nat.mul_one]
     refine Z0 (dps_at (by omega) (by omega)) ?_
     refine st_if (by omega) ?_
     refine st_if ⟨by first | rfl | trivial, by omega⟩ ?_
     have hto' : To (nds l) (i + 1) := hto.succ fun _ => by rw [hpn]; omega
     have hdp := dep_to hto' (by omega : i < i + 1) h0
     have hdb := Z202 (l := nds l) (parN (nds l) i)
     rw [← hpn, Z14 (by omega), show dep (nds l) (parN (nds l) i) + 1 = dep (nds l) i from hdp.symm, Z21s, Z23b]
     have := j12 c1 c2 c3
     rw [Nat.mul_one] at this
     exact this
    ·refine st_cF (decide_eq_false (by omega)) ?_
     have := j12 c1 c2 c3
     obtain rfl : i = 0 := by omega
     rw [← Z21w] at this
     exact this
   have j4 : ¬ (i = 0 ∧ l[i].n.par ≠ -1 ∨ 0 < i ∧ (l[i].n.par < 0 ∨ (i : Int) ≤ l[i].n.par)) →
     Z2l m c l.length (i : Int) l.length cp (cdsC l) (l.length : Int) l.length cp (cdsC l) l.length cp (cdsC l) (i : Int) l.length l.length l.length cp (cdsC l) (l.length * 1) (ints (dps (nds l) i l.length)) (l[i].cells) (l[i].cells) =
     some (exRes l (Zqn (nds l) (l.length - i) i)) := fun c1 => by
    rw [Zpj]
    by_cases h1 : 1 < i
    ·refine st_cT (decide_eq_true (by omega)) ?_
     have hw : IntKind.wrap .i64 ((i : Int) - 1) = ((i - 1 : Nat) : Int) := by rw [Z10i (by omega) (by omega)]; omega
     have hlt' : i - 1 < l.length := by omega
     have hok' := h.ok _ (List.getElem_mem hlt')
     have hpv := Z20c hlt'
     rw [hw]
     simp only [Int.toNat_natCast]
     rw [Zd8 h.ok hlt']
     refine st_if (by omega) ?_
     refine st_if (by omega) ?_
     refine st_if (Cd.cells_len hok') ?_
     refine Z0 (Z3g (Cd.at0 _)) ?_
     refine Z0 (Z3g (Cd.at0 _)) ?_
     by_cases c2 : l[i].n.par < l[i - 1].n.par
     ·refine st_cT (decide_eq_true c2) ?_
      rw [err 13 (by decide) (hop _ (by unfold plE; rw [if_neg c1, hpv, if_pos ⟨h1, .inl c2⟩]) (by decide))]
     ·refine st_cF (decide_eq_false c2) ?_
      refine Z0 (Z3g (Cd.at0 _)) ?_
      refine Z0 (Z3g (Cd.at0 _)) ?_
      rw [Cd.pol_at hok, Cd.pol_at hok']
      by_cases c3 : l[i - 1].n.par = l[i].n.par
      ·refine st_cT (i_eq c3) ?_
       refine Z0 (Ztw hok'.pol hok.pol) ?_
       refine Z0 (rdI_v _ _) ?_
       by_cases c4 : 0 < l[i - 1].n.pol.cmp l[i].n.pol
       ·refine st_cT (decide_eq_true c4) ?_
        rw [err 13 (by decide) (hop _ (by unfold plE; rw [if_neg c1, hpv, if_pos ⟨h1, .inr ⟨c3, c4⟩⟩]) (by decide))]
       ·refine st_cF (decide_eq_false c4) ?_
        rw [Z9d]
        refine Z0 (Z3g (Cd.at0 _)) ?_
        refine Z0 (Z3g (Cd.at0 _)) ?_
        refine st_cT (i_eq c3) ?_
        rw [Cd.pol_at hok, Cd.pol_at hok']
        refine Z0 (oid_eq hok'.pol hok.pol) ?_
        by_cases c5 : l[i - 1].n.pol = l[i].n.pol
        ·refine st_cT (decide_eq_true c5) ?_
         rw [err 14 (by decide) (hop _ (by unfold plE; rw [if_neg c1, hpv, if_neg (fun h2 => h2.2.elim c2 fun h3 => c4 h3.2), if_pos ⟨h1, c3, c5⟩]) (by decide))]
        ·refine st_cF (decide_eq_false c5) ?_
         exact j10 c1 (by rw [hpv]; exact fun h2 => h2.2.elim c2 fun h3 => c4 h3.2) (by rw [hpv]; exact fun h2 => c5 h2.2.2)
      ·refine st_cF (i_ne c3) ?_
       rw [Z9d]
       refine Z0 (Z3g (Cd.at0 _)) ?_
       refine Z0 (Z3g (Cd.at0 _)) ?_
       refine st_cF (i_ne c3) ?_
       exact j10 c1 (by rw [hpv]; exact fun h2 => h2.2.elim c2 fun h3 => c3 h3.1) (by rw [hpv]; exact fun h2 => c3 h2.2.1)
    ·refine st_cF (decide_eq_false (by omega)) ?_
     exact j10 c1 (fun h2 => h1 h2.1) (fun h2 => h1 h2.1)
   rw [Zd8 h.ok hlt]
   refine st_cT (decide_eq_true (by omega)) ?_
   refine st_if (by omega) ?_
   refine st_if (by omega) ?_
   refine st_if (Cd.cells_len hok) ?_
   refine st_if (by omega) ?_
   refine st_if (by omega) ?_
   refine st_if (Cd.cells_len hok) ?_
   by_cases h0 : i = 0
   ·refine st_cT (i_eq (by omega)) ?_
    refine Z0 (Z3g (Cd.at0 _)) ?_
    by_cases hp : l[i].n.par = -1
    ·refine st_cF (i_bnf hp) ?_
     refine st_cF (decide_eq_false (by omega)) ?_
     exact j4 (fun h2 => h2.elim (fun h3 => h3.2 hp) fun h3 => absurd h3.1 (by omega))
    ·refine st_cT (i_bne hp) ?_
     rw [err 1 (by decide) (hop _ (by unfold plE; rw [if_pos (.inl ⟨h0, hp⟩)]) (by decide))]
   ·refine st_cF (i_ne (by omega)) ?_
    refine st_cT (decide_eq_true (by omega)) ?_
    refine Z0 (Z3g (Cd.at0 _)) ?_
    by_cases hp : l[i].n.par < 0
    ·refine st_cT (decide_eq_true hp) ?_
     rw [err 1 (by decide) (hop _ (by unfold plE; rw [if_pos (.inr ⟨by omega, .inl hp⟩)]) (by decide))]
    ·refine st_cF (decide_eq_false hp) ?_
     refine Z0 (Z3g (Cd.at0 _)) ?_
     by_cases hp2 : (i : Int) ≤ l[i].n.par
     ·refine st_cT (decide_eq_true hp2) ?_
      rw [err 1 (by decide) (hop _ (by unfold plE; rw [if_pos (.inr ⟨by omega, .inr hp2⟩)]) (by decide))]
     ·refine st_cF (decide_eq_false hp2) ?_
      exact j4 (fun h2 => h2.elim (fun h3 => h0 h3.1) fun h3 => h3.2.elim hp hp2)
  ·obtain rfl : i = l.length := by omega
   refine st_cF (decide_eq_false (by omega)) ?_
   refine st_if (by omega) ?_
   rw [Nat.sub_self, show Zqn (nds l) 0 l.length = 0 from rfl, Nat.mul_one, Z71 hil]
   rfl
theorem Z1mu {l : List Cd} (h : CdsB l) (cp : Option Nat) : Z2x [.agg [.list l.length cp (cdsC l)]] = some (exRes l (Z182 (nds l))) := by
 show Zoc M l.length cp (cdsC l) = _
 unfold Zoc Z182
 have hB := h.len
 rw [Z1r]
 by_cases h1 : 65536 < l.length
 ·refine st_cT (decide_eq_true (by omega)) ?_
  rw [if_pos h1]; rfl
 ·refine st_cF (decide_eq_false (by omega)) ?_
  rw [if_neg h1]
  simp only [Int.toNat_natCast]
  refine st_if ⟨by omega, by omega, by constructor <;> omega⟩ ?_
  rw [Z21t, ← Z21v (nds l)]
  exact Z20d h cp M 0 (by unfold M; omega) (by omega) (fun j _ hj => by omega)
theorem Z1qs {l : List Cd} (h : CdsB l) (cp : Option Nat) : Z94 [.agg [.list l.length cp (cdsC l)]] = some (.v (.int .i64 (Z182 (nds l)))) := by
 show Zvk M l.length cp (cdsC l) = _
 unfold Zvk
 refine Z0 (Z1mu h cp) ?_
 unfold exRes
 by_cases h0 : Z182 (nds l) = 0
 ·rw [if_pos h0, h0]; rfl
 ·rw [if_neg h0]; rfl
end Go.Ev