/-
  Trees checked by the reference.
-/
import Derived.Test.YtkefahdbckjajaaGreatDoorEzU8
set_option linter.unusedSimpArgs false
set_option linter.unusedVariables false
set_option maxRecDepth 100000
namespace Go.Ev
open Go

theorem rcheck_loop {m : Nat} {l : List Cd} (h : CdsB l) (cp : Option Nat) : ∀ (c i : Nat), l.length - i < c → i ≤ l.length → Pt l i →
    Zep m c (i : Int) l.length cp (cdsC l) = some (.v (.int .i64 (errFrom (nds l) (l.length - i) i)))
  | 0, i, hc, hi, hp => by omega
  | c + 1, i, hc, hi, hp => by
    have hB := h.len
    have hl := cdsC_len h.ok
    rw [Zr5]
    simp only [Int.toNat_natCast]
    by_cases hlt : i < l.length
    · have hok := h.ok _ (List.getElem_mem hlt)
      have hn : i < (nds l).length := by rw [nds_len]; exact hlt
      have he := errFrom_step hn
      rw [nds_len] at he
      have ho := oneE_eq hn
      rw [nds_getE hlt] at ho
      have r0 := rdI_get (Cd.at0 l[i])
      have hop : ∀ e : Int, plE (nds l) i l[i].n = e → e ≠ 0 → errFrom (nds l) (l.length - i) i = e := fun e h1 h2 => by
        have : oneE (nds l) i = e := by rw [ho, if_pos (by rw [h1]; exact h2), h1]
        rw [he, if_neg (by rw [this]; exact h2), this]
      have j15 : ¬ (i = 0 ∧ l[i].n.par ≠ -1 ∨ 0 < i ∧ (l[i].n.par < 0 ∨ (i : Int) ≤ l[i].n.par)) → ¬ (1 < i ∧ (l[i].n.par < (prevN (nds l) i).par ∨ (prevN (nds l) i).par = l[i].n.par ∧ 0 < (prevN (nds l) i).pol.cmp l[i].n.pol)) →
          ¬ (1 < i ∧ (prevN (nds l) i).par = l[i].n.par ∧ (prevN (nds l) i).pol = l[i].n.pol) →
          Z6e m c (i : Int) l.length cp (cdsC l) (l[i].cells) = some (.v (.int .i64 (errFrom (nds l) (l.length - i) i))) := fun c1 c2 c3 => by
        have hp1 : Pt l (i + 1) := fun j hj h0 hj1 => by
          by_cases e : j = i
          · subst e; omega
          · exact hp j hj h0 (by omega)
        rw [Zp5]
        refine st_bind (Zte h hp1 cp hlt (by omega)) ?_
        refine st_bind (rdI_v _ _) ?_
        by_cases hd : 64 < dep (nds l) i
        · refine st_cT (decide_eq_true (by omega)) ?_
          rw [hop 12 (by unfold plE; rw [if_neg c1, if_neg c2, if_neg c3, if_pos hd]) (by decide)]
        · refine st_cF (decide_eq_false (by omega)) ?_
          have hpl : plE (nds l) i l[i].n = 0 := by unfold plE; rw [if_neg c1, if_neg c2, if_neg c3, if_neg hd]
          rw [if_neg (by simp [hpl])] at ho
          refine st_bind (Zvj hok (h.q _ (List.getElem_mem hlt))) ?_
          refine st_bind (rdI_v _ _) ?_
          by_cases h0 : ndE l[i].n = 0
          · refine st_cF (i_bnf h0) ?_
            rw [wrap_succ (by omega), he, if_pos (by rw [ho]; exact h0)]
            exact rcheck_loop h cp c (i + 1) (by omega) (by omega) hp1
          · refine st_cT (i_bne h0) ?_
            rw [he, if_neg (by rw [ho]; exact h0), ho]
      have j9 : ¬ (i = 0 ∧ l[i].n.par ≠ -1 ∨ 0 < i ∧ (l[i].n.par < 0 ∨ (i : Int) ≤ l[i].n.par)) →
          Z56 m c (i : Int) l.length cp (cdsC l) (l[i].cells) = some (.v (.int .i64 (errFrom (nds l) (l.length - i) i))) := fun c1 => by
        rw [Zqf]
        by_cases h2 : 2 ≤ i
        · have hi1 : i - 1 < l.length := by omega
          have hw : IntKind.wrap .i64 ((i : Int) - 1) = ((i - 1 : Nat) : Int) := by rw [wrap_id (by omega) (by omega)]; omega
          have hpn := prevN_nds hi1
          have ok1 := h.ok _ (List.getElem_mem hi1)
          have hpar := cdsC_par' h.ok hi1
          refine st_cT (decide_eq_true (by omega)) ?_
          refine st_bind r0 ?_
          rw [hw]
          refine st_if (by omega) ?_
          rw [Int.toNat_natCast]
          refine st_bind hpar ?_
          by_cases a1 : l[i].n.par < l[i - 1].n.par
          · refine st_cT (decide_eq_true a1) ?_
            rw [hop 13 (by unfold plE; rw [if_neg c1, if_pos ⟨by omega, .inl (by rw [hpn]; exact a1)⟩]) (by decide)]
          · refine st_cF (decide_eq_false a1) ?_
            rw [Zis]
            refine st_cT (decide_eq_true (by omega)) ?_
            refine st_bind r0 ?_
            rw [hw]
            refine st_if (by omega) ?_
            rw [Int.toNat_natCast]
            refine st_bind hpar ?_
            -- behind the order
            have j13 : ¬ (1 < i ∧ (l[i].n.par < (prevN (nds l) i).par ∨ (prevN (nds l) i).par = l[i].n.par ∧ 0 < (prevN (nds l) i).pol.cmp l[i].n.pol)) →
                Z6d m c (i : Int) l.length cp (cdsC l) (l[i].cells) = some (.v (.int .i64 (errFrom (nds l) (l.length - i) i))) := fun c2 => by
              rw [Zir]
              refine st_cT (decide_eq_true (by omega)) ?_
              refine st_bind r0 ?_
              rw [hw]
              refine st_if (by omega) ?_
              rw [Int.toNat_natCast]
              refine st_bind hpar ?_
              by_cases a2 : l[i].n.par = l[i - 1].n.par
              · refine st_cT (i_eq a2) ?_
                refine st_if (by omega) ?_
                refine st_if (by omega) ?_
                rw [Cd.pol_at hok, cdsC_pol h.ok hi1]
                refine st_bind (oid_eq hok.pol ok1.pol) ?_
                by_cases a3 : l[i].n.pol = l[i - 1].n.pol
                · rw [decide_eq_true a3]
                  refine st_cT rfl ?_
                  rw [hop 14 (by unfold plE; rw [if_neg c1, if_neg c2, if_pos ⟨by omega, by rw [hpn]; exact a2.symm, by rw [hpn]; exact a3.symm⟩]) (by decide)]
                · rw [decide_eq_false a3]
                  refine st_cF rfl ?_
                  exact j15 c1 c2 (fun q => a3 (by have := q.2.2; rw [hpn] at this; exact this.symm))
              · refine st_cF (i_ne a2) ?_
                exact j15 c1 c2 (fun q => a2 (by have := q.2.1; rw [hpn] at this; exact this.symm))
            by_cases a2 : l[i].n.par = l[i - 1].n.par
            · refine st_cT (i_eq a2) ?_
              refine st_if (by omega) ?_
              refine st_if (by omega) ?_
              rw [Cd.pol_at hok, cdsC_pol h.ok hi1]
              refine st_bind (Zl0 hok.pol ok1.pol) ?_
              refine st_bind (rdI_v _ _) ?_
              have hsw := Oid.cmp_swap l[i - 1].n.pol l[i].n.pol
              by_cases a3 : l[i].n.pol.cmp l[i - 1].n.pol < 0
              · refine st_cT (decide_eq_true a3) ?_
                rw [hop 13 (by unfold plE; rw [if_neg c1, if_pos ⟨by omega, .inr ⟨by rw [hpn]; exact a2.symm, by rw [hpn]; omega⟩⟩]) (by decide)]
              · refine st_cF (decide_eq_false a3) ?_
                refine j13 fun q => ?_
                rw [hpn] at q
                rcases q.2 with q | q
                · exact a1 q
                · exact a3 (by have := q.2; omega)
            · refine st_cF (i_ne a2) ?_
              refine j13 fun q => ?_
              rw [hpn] at q
              rcases q.2 with q | q
              · exact a1 q
              · exact a2 q.1.symm
        · refine st_cF (decide_eq_false (by omega)) ?_
          rw [Zis]
          refine st_cF (decide_eq_false (by omega)) ?_
          rw [Zir]
          refine st_cF (decide_eq_false (by omega)) ?_
          exact j15 c1 (fun q => by omega) (fun q => by omega)
      have bad : (i = 0 ∧ l[i].n.par ≠ -1 ∨ 0 < i ∧ (l[i].n.par < 0 ∨ (i : Int) ≤ l[i].n.par)) → errFrom (nds l) (l.length - i) i = 1 := fun q => hop 1 (by unfold plE; rw [if_pos q]) (by decide)
      refine st_cT (decide_eq_true (by omega)) ?_
      refine st_if (by omega) ?_
      refine st_if (by omega) ?_
      rw [cdsC_get h.ok hlt]
      refine st_if (Cd.cells_len hok) ?_
      by_cases h0 : i = 0
      · refine st_cT (i_eq (by omega)) ?_
        refine st_bind r0 ?_
        by_cases a1 : l[i].n.par = -1
        · refine st_cF (i_bnf a1) ?_
          refine st_cF (decide_eq_false (by omega)) ?_
          exact j9 (by omega)
        · refine st_cT (i_bne a1) ?_
          rw [bad (by omega)]
      · refine st_cF (i_ne (by omega)) ?_
        refine st_cT (decide_eq_true (by omega)) ?_
        refine st_bind r0 ?_
        by_cases a1 : l[i].n.par < 0
        · refine st_cT (decide_eq_true a1) ?_
          rw [bad (by omega)]
        · refine st_cF (decide_eq_false a1) ?_
          refine st_bind r0 ?_
          by_cases a2 : (i : Int) ≤ l[i].n.par
          · refine st_cT (decide_eq_true a2) ?_
            rw [bad (by omega)]
          · refine st_cF (decide_eq_false a2) ?_
            exact j9 (by omega)
    · obtain rfl : i = l.length := by omega
      refine st_cF (decide_eq_false (by omega)) ?_
      rw [Nat.sub_self]; rfl
theorem Zvf {l : List Cd} (h : CdsB l) (cp : Option Nat) : Z1w [.agg [.list l.length cp (cdsC l)]] = some (.v (.int .i64 (treeErr (nds l)))) := by
  show Zi1 M l.length cp (cdsC l) = _
  unfold Zi1 treeErr
  have hB := h.len
  rw [nds_len]
  by_cases h3 : 65536 < l.length
  · rw [if_pos h3]
    exact st_cT (decide_eq_true (by omega)) rfl
  · rw [if_neg h3]
    refine st_cF (decide_eq_false (by omega)) ?_
    exact rcheck_loop h cp M 0 (by unfold M; omega) (by omega) (fun j _ _ hj => by omega)
end Go.Ev
