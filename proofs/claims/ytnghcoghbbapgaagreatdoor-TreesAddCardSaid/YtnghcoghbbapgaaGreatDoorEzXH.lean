/-
  The evaluator: EzU4 EzU5 EzU6 EzU7.
-/
import Derived.Test.YtnghcoghbbapgaaGreatDoorEzU3
/-
 The reference's lines, and nodes that are found.
-/
set_option linter.unusedSimpArgs false
set_option linter.unusedVariables false
set_option maxRecDepth 100000
namespace Go.Ev
open Go
theorem Z1a5 {l : List Cd} {i : Nat} (h : i < l.length) : polN' (nds l) i = l[i].n.pol := by unfold polN'; rw [Z142 h]
end Go.Ev
/-
 The trees of the statements: sets, nodes, additions by the reference.
-/
set_option linter.unusedSimpArgs false
set_option linter.unusedVariables false
set_option maxRecDepth 100000
namespace Go.Ev
open Go
theorem Z23h (u i : Nat) (hi : i < 8) : (Int.tmod (Int.fdiv (u : Int) (2 ^ (min (Int.toNat (i : Int)) (IntKind.bits .u8)))) (2 : Int) == (1 : Int)) = decide (u / 2 ^ i % 2 = 1) := by
 have e : min (Int.toNat (i : Int)) (IntKind.bits .u8) = i := by simp [IntKind.bits]; omega
 rw [e]
 have e2 : Int.fdiv (u : Int) (2 ^ i) = ((u / 2 ^ i : Nat) : Int) := by
  rw [Int.fdiv_eq_ediv_of_nonneg _ (by exact_mod_cast Nat.zero_le _)]
  push_cast
  rfl
 rw [e2, show (2 : Int) = ((2 : Nat) : Int) from rfl, Z1a0]
 generalize u / 2 ^ i % 2 = q
 by_cases h : q = 1
 ·subst h; rfl
 ·rw [decide_eq_false h]; exact i_ne (by omega)
theorem Z1y0 {m u : Nat} : ∀ (c k i : Nat) (s : Ini), k < c → k + i = 7 → (∀ x, x ∈ s.1 → x.ok) → s.1.length ≤ i →
  Zvf m c (u : Int) s.1.length s.2 (oidsC s.1) (i : Int) = some (.list (Zkw u k i s).1.length (Zkw u k i s).2 (oidsC (Zkw u k i s).1))
 | 0, k, i, s, hc, hk, hs, hl => by omega
 | c + 1, k, i, s, hc, hk, hs, hl => by
  rw [Z1me]
  match k with
  | 0 =>
   refine st_cF (decide_eq_false (by omega)) ?_
   rfl
  | k + 1 =>
   refine st_cT (decide_eq_true (by omega)) ?_
   refine st_ifn (by omega) ?_
   rw [Z23h u i (by omega)]
   have next : ∀ s' : Ini, (∀ x, x ∈ s'.1 → x.ok) → s'.1.length ≤ i + 1 → Zrh m c (u : Int) s'.1.length s'.2 (oidsC s'.1) (i : Int) = some (.list (Zkw u k (i + 1) s').1.length (Zkw u k (i + 1) s').2 (oidsC (Zkw u k (i + 1) s').1)) := fun s' h1 h2 => by
    rw [Z1ji, Z14 (by omega)]
    exact Z1y0 c k (i + 1) s' (by omega) (by omega) h1 h2
   simp only [Zkw, iniStep]
   by_cases hb : u / 2 ^ i % 2 = 1
   ·refine st_cT (decide_eq_true hb) ?_
    rw [Z1wj (by omega), if_pos hb]
    refine Z0 (Z1qq i) ?_
    refine Z0 (Z1sg _) ?_
    refine Z0 (Z23c hs (Z1mj i) (by omega) s.2) ?_
    refine Z0 (rdL_v _ _ _) ?_
    have := Z1cj (polO i) s.1 false
    exact next (putO s.1 (polO i), none) (Z1zu hs (Z1mj i)) (by simp at this ⊢; unfold putO; omega)
   ·refine st_cF (decide_eq_false hb) ?_
    rw [if_neg hb]
    exact next s hs (by omega)
theorem Z23i (u : Nat) : Zsy [.v (.int .u8 (u : Int))] = some (.list (setOf u).1.length (setOf u).2 (oidsC (setOf u).1)) := by
 show Z13v M (u : Int) = _
 unfold Z13v
 exact Z1y0 M 7 0 ([], some 0) (by unfold M; omega) (by omega) (fun x hx => nomatch hx) (by simp)
theorem Z1qv {m : Nat} {x : Cd} (h : x.n.ok) (hq : x.n.q.length < 1000000000) : ∀ (c i : Nat), x.n.q.length - i < c → i ≤ x.n.q.length →
  Zo2 m c (i : Int) x.cells = some (.v (.int .i64 0))
 | 0, i, hc, hi => by omega
 | c + 1, i, hc, hi => by
  have hql := Z185 x.n.q
  rw [Z1gu]
  simp only [Int.toNat_natCast]
  refine Z0 (Zcx (Cd.at19 h)) ?_
  dsimp only
  by_cases hlt : i < x.n.q.length
  ·refine st_cT (decide_eq_true (by omega)) ?_
   refine Z0 (Zcx (Cd.at19 h)) ?_
   dsimp only
   refine st_if (by omega) ?_
   refine st_if (by omega) ?_
   rw [Z1cm hlt]
   refine Z0 (rchk_q _) ?_
   refine Z0 (rdI_v _ _) ?_
   refine st_cF rfl ?_
   rw [Z14 (by omega)]
   exact Z1qv h hq c (i + 1) (by omega) (by omega)
  ·exact st_cF (decide_eq_false (by omega)) rfl
theorem Z20r {x : Cd} (h : x.n.ok) (hq : x.n.q.length < 1000000000) : Zo3 [.agg x.cells] = some (.v (.int .i64 (ndE x.n))) := by
 show Zz5 M x.cells = _
 unfold Zz5 ndE
 refine st_if (Cd.cells_len h) ?_
 rw [Cd.pol_at h]
 refine Z0 (Z17u h.pol) ?_
 refine Z0 (rdI_v _ _) ?_
 rw [Oid.err_bne]
 cases hg : x.n.pol.good with
 | false =>
  refine st_cT rfl ?_
  rw [if_pos rfl, Oid.err_bad hg]
 | true =>
  refine st_cF rfl ?_
  rw [if_neg (by simp)]
  refine Z0 (Zcx (Cd.at18 h)) ?_
  refine Z0 (Z17v h.ex _) ?_
  refine Z0 (rdI_v _ _) ?_
  by_cases hs : setErr x.n.ex = 0
  ·rw [if_neg (by simp [hs])]
   refine st_cF (i_bnf hs) ?_
   refine Z0 (Zcx (Cd.at19 h)) ?_
   by_cases h8 : 8 < x.n.q.length
   ·rw [if_pos h8]
    exact st_cT (decide_eq_true (by dsimp only; omega)) rfl
   ·rw [if_neg h8]
    refine st_cF (decide_eq_false (by dsimp only; omega)) ?_
    exact Z1qv h hq M 0 (by unfold M; omega) (by omega)
  ·rw [if_pos hs]
   exact st_cT (i_bne hs) rfl
theorem Z1fc {m : Nat} {l : List Cd} (h : CdsB l) (cp : Option Nat) (p : Int) {o : Oid} (ho : o.ok) : ∀ (c i : Nat), l.length - i < c → i ≤ l.length →
  ∃ k : Int, Zo4 m c p (i : Int) l.length cp (cdsC l) o.cells = some (.v (.int .i64 k)) ∧ (0 ≤ k ↔ Zh3 ((nds l).drop i) p o = true)
 | 0, i, hc, hi => by omega
 | c + 1, i, hc, hi => by
  have hB := h.len
  have hl := cdsC_len h.ok
  rw [Z1gy]
  simp only [Int.toNat_natCast]
  by_cases hlt : i < l.length
  ·have hn : i < (nds l).length := by rw [Z1r]; exact hlt
   have hok := h.ok _ (List.getElem_mem hlt)
   obtain ⟨k, e1, e2⟩ := Z1fc (m := m) h cp p ho c (i + 1) (by omega) (by omega)
   rw [List.drop_eq_getElem_cons hn, Zbf hlt]
   have hh : ∀ b : Bool, Zh3 (l[i].n :: (nds l).drop (i + 1)) p o = (decide (l[i].n.par = p) && decide (l[i].n.pol = o) || Zh3 ((nds l).drop (i + 1)) p o) := fun _ => rfl
   rw [hh true]
   by_cases hp : l[i].n.par = p
   ·by_cases hpo : l[i].n.pol = o
    ·refine ⟨i, ?_, by rw [decide_eq_true hp, decide_eq_true hpo]; simp⟩
     refine st_cT (decide_eq_true (by omega)) ?_
     refine st_if (by omega) ?_
     refine Z0 (Z8u h.ok hlt) ?_
     refine st_cT (i_eq hp) ?_
     refine st_if (by omega) ?_
     refine st_if (by omega) ?_
     rw [Z143 h.ok hlt]
     refine Z0 (oid_eq hok.pol ho) ?_
     rw [decide_eq_true hpo]; rfl
    ·refine ⟨k, ?_, by rw [decide_eq_false hpo, Bool.and_false, Bool.false_or]; exact e2⟩
     refine st_cT (decide_eq_true (by omega)) ?_
     refine st_if (by omega) ?_
     refine Z0 (Z8u h.ok hlt) ?_
     refine st_cT (i_eq hp) ?_
     refine st_if (by omega) ?_
     refine st_if (by omega) ?_
     rw [Z143 h.ok hlt]
     refine Z0 (oid_eq hok.pol ho) ?_
     rw [decide_eq_false hpo]
     refine st_cF rfl ?_
     rw [Zz6, Z14 (by omega)]
     exact e1
   ·refine ⟨k, ?_, by rw [decide_eq_false hp, Bool.false_and, Bool.false_or]; exact e2⟩
    refine st_cT (decide_eq_true (by omega)) ?_
    refine st_if (by omega) ?_
    refine Z0 (Z8u h.ok hlt) ?_
    refine st_cF (i_ne hp) ?_
    rw [Zz6, Z14 (by omega)]
    exact e1
  ·obtain rfl : i = l.length := by omega
   refine ⟨-1, ?_, ?_⟩
   ·refine st_cF (decide_eq_false (by omega)) ?_
    rfl
   ·rw [List.drop_eq_nil_of_le (by rw [Z1r]; omega)]
    simp [Zh3]
theorem Z20s {l : List Cd} (h : CdsB l) (cp : Option Nat) (p : Int) {o : Oid} (ho : o.ok) :
  ∃ k : Int, Zj5 [.agg [.list l.length cp (cdsC l)], .v (.int .i64 p), .agg o.cells] = some (.v (.int .i64 k)) ∧ (0 ≤ k ↔ Zh3 (nds l) p o = true) := by
 have hB := h.len
 obtain ⟨k, e1, e2⟩ := Z1fc (m := M) h cp p ho M 0 (by unfold M; omega) (by omega)
 refine ⟨k, ?_, e2⟩
 show Zvh M l.length cp (cdsC l) p o.cells = _
 unfold Zvh
 exact st_if (Oid.cells_len ho) e1
theorem Z1y1 {l : List Cd} (h : CdsB l) (hs : Shape (nds l)) (cp : Option Nat) {x : Cd} (hx : x.n.ok) (hq : x.n.q.length < 1000000000) :
  Z51 [.agg [.list l.length cp (cdsC l)], .agg x.cells] = some (.v (.int .i64 (addE (nds l) x.n))) := by
 show Zz7 M l.length cp (cdsC l) x.cells = _
 unfold Zz7
 have hB := h.len
 refine st_if (Cd.cells_len hx) ?_
 have r0 := Z3g (Cd.at0 x)
 obtain ⟨k, hk, hkc⟩ := Z20s h cp x.n.par hx.pol
 have j9 : Zo5 M l.length cp (cdsC l) x.cells = some (.v (.int .i64 (ndE x.n))) := by
  rw [Z1gz]
  refine Z0 (Z20r hx hq) ?_
  refine Z0 (rdI_v _ _) ?_
  rfl
 have j3 : ¬ ((l.length = 0 ∧ x.n.par ≠ -1) ∨ (0 < l.length ∧ (x.n.par < 0 ∨ (l.length : Int) ≤ x.n.par))) → Zab M l.length cp (cdsC l) x.cells = some (.v (.int .i64 (addE (nds l) x.n))) := fun h1 => by
  rw [Z1h0]
  unfold addE
  rw [Z1r, if_neg h1]
  refine Z0 r0 ?_
  rw [Cd.pol_at hx]
  refine Z0 hk ?_
  refine Z0 (rdI_v _ _) ?_
  by_cases h2 : Zh3 (nds l) x.n.par x.n.pol = true
  ·rw [if_pos h2]
   exact st_cT (decide_eq_true (hkc.2 h2)) rfl
  ·rw [if_neg h2]
   refine st_cF (decide_eq_false (fun q => h2 (hkc.1 q))) ?_
   by_cases h3 : l.length = 65536
   ·rw [if_pos h3]
    exact st_cT (i_eq (by omega)) rfl
   ·rw [if_neg h3]
    refine st_cF (i_ne (by omega)) ?_
    refine Z0 r0 ?_
    by_cases h4 : 0 ≤ x.n.par
    ·refine st_cT (decide_eq_true (by omega)) ?_
     refine Z0 r0 ?_
     have hd := Z1a4 h hs cp (i := x.n.par.toNat) (by omega)
     rw [show ((x.n.par.toNat : Nat) : Int) = x.n.par by omega] at hd
     refine Z0 hd ?_
     refine Z0 (rdI_v _ _) ?_
     by_cases h5 : dep (nds l) x.n.par.toNat = 64
     ·rw [if_pos ⟨h4, h5⟩]
      exact st_cT (i_eq (by omega)) rfl
     ·rw [if_neg (fun q => h5 q.2)]
      refine st_cF (i_ne (by omega)) ?_
      exact j9
    ·rw [if_neg (fun q => h4 q.1)]
     refine st_cF (decide_eq_false (by omega)) ?_
     exact j9
 have e19 : ((l.length = 0 ∧ x.n.par ≠ -1) ∨ (0 < l.length ∧ (x.n.par < 0 ∨ (l.length : Int) ≤ x.n.par))) → addE (nds l) x.n = 19 := fun q => by
  unfold addE; rw [Z1r, if_pos q]
 by_cases h0 : l.length = 0
 ·refine st_cT (i_eq (by omega)) ?_
  refine Z0 r0 ?_
  by_cases h1 : x.n.par = -1
  ·refine st_cF (i_bnf h1) ?_
   refine st_cF (decide_eq_false (by omega)) ?_
   exact j3 (by omega)
  ·refine st_cT (i_bne h1) ?_
   rw [e19 (by omega)]
 ·refine st_cF (i_ne (by omega)) ?_
  refine st_cT (decide_eq_true (by omega)) ?_
  refine Z0 r0 ?_
  by_cases h1 : x.n.par < 0
  ·refine st_cT (decide_eq_true h1) ?_
   rw [e19 (by omega)]
  ·refine st_cF (decide_eq_false h1) ?_
   refine Z0 r0 ?_
   by_cases h2 : (l.length : Int) ≤ x.n.par
   ·refine st_cT (decide_eq_true h2) ?_
    rw [e19 (by omega)]
   ·refine st_cF (decide_eq_false h2) ?_
    exact j3 (by omega)
end Go.Ev
/-
 The trees of the statements: additions by the reference; T.Of.
-/
set_option linter.unusedSimpArgs false
set_option linter.unusedVariables false
set_option maxRecDepth 100000
namespace Go.Ev
open Go
section
variable {l : List Cd} {x : Cd}
def stA (l : List Cd) (x : Cd) (i : Nat) : Int := if i ≤ atC l x then -1 else (atC l x : Int)
def stO (l : List Cd) (x : Cd) (i : Nat) : List Cd := if i ≤ atC l x then l.take i else l.take (atC l x) ++ x :: (l.drop (atC l x)).take (i - atC l x)
theorem Z23j (i : Nat) (hi : i ≤ l.length) : (stO l x i).length = if i ≤ atC l x then i else i + 1 := by
 have := atC_le l x
 unfold stO
 split
 ·simp; omega
 ·simp; omega
theorem stO_lt {i : Nat} (hi : i < l.length) (ha : i < atC l x) : stO l x (i + 1) = stO l x i ++ [l[i]] := by
 unfold stO
 rw [if_pos (by omega), if_pos (by omega), List.take_succ_eq_append_getElem hi]
theorem stO_eq {i : Nat} (hi : i < l.length) (ha : i = atC l x) : stO l x (i + 1) = (stO l x i ++ [x]) ++ [l[i]] := by
 unfold stO
 rw [if_neg (by omega), if_pos (by omega)]
 subst ha
 have e : (l.drop (atC l x)).take 1 = [l[atC l x]] := by rw [List.drop_eq_getElem_cons hi]; rfl
 rw [show atC l x + 1 - atC l x = 1 by omega, e]
 simp
theorem stO_gt {i : Nat} (hi : i < l.length) (ha : atC l x < i) : stO l x (i + 1) = stO l x i ++ [l[i]] := by
 unfold stO
 rw [if_neg (by omega), if_neg (by omega)]
 rw [show i + 1 - atC l x = (i - atC l x) + 1 by omega, List.take_succ_eq_append_getElem (i := i - atC l x) (by simp; omega)]
 simp only [List.getElem_drop, List.append_assoc, List.cons_append]
 congr 4
 simp only [show atC l x + (i - atC l x) = i by omega]
theorem stO_end : (if l.length ≤ atC l x then stO l x l.length ++ [x] else stO l x l.length) = insC l x := by
 have := atC_le l x
 unfold stO insC
 split
 ·have e : atC l x = l.length := by omega
  rw [e]; simp
 ·rw [List.take_of_length_le (l := l.drop (atC l x)) (by simp)]
structure XOk (x : Cd) : Prop where
 ok : x.n.ok
 ex : x.n.ex.length < 1000000000
 q : x.n.q.length < 1000000000
theorem shTo_b (h : CdsB l) (hx : XOk x) (hl : l.length < 90000) (i : Nat) : CdsB (shTo (atC l x) (insC l x) i) := by
 have hb := insC_b h hx.ok hx.ex hx.q hl
 have key : ∀ z, z ∈ shTo (atC l x) (insC l x) i → ∃ y, y ∈ insC l x ∧ z.n.pol = y.n.pol ∧ z.n.ex = y.n.ex ∧ z.n.q = y.n.q := fun z hz => by
  obtain ⟨j, hj, rfl⟩ := List.getElem_of_mem hz
  rw [Zoe] at hj
  rw [Z148 _ _ _ hj]
  split
  ·exact ⟨_, List.getElem_mem hj, rfl, rfl, rfl⟩
  ·exact ⟨_, List.getElem_mem hj, rfl, rfl, rfl⟩
 refine ⟨fun z hz => ?_, ?_, fun z hz => ?_, fun z hz => ?_⟩
 ·obtain ⟨y, hy, e1, e2, e3⟩ := key z hz
  exact ⟨e1 ▸ (hb.ok y hy).pol, e2 ▸ (hb.ok y hy).ex⟩
 ·rw [Zoe]; exact hb.len
 ·obtain ⟨y, hy, e1, e2, e3⟩ := key z hz
  rw [e2]; exact hb.ex y hy
 ·obtain ⟨y, hy, e1, e2, e3⟩ := key z hz
  rw [e3]; exact hb.q y hy
theorem Z1wu {j : Nat} (hj : j < (insC l x).length) (hne : j ≠ atC l x) : (insC l x)[j] ∈ l := by
 have ha := atC_le l x
 have ht : (l.take (atC l x)).length = atC l x := by simp; omega
 have e : (insC l x)[j]? = some (insC l x)[j] := List.getElem?_eq_getElem hj
 generalize (insC l x)[j] = y at e ⊢
 unfold insC at e
 by_cases h1 : j < atC l x
 ·rw [List.getElem?_append_left (by omega)] at e
  exact List.mem_of_mem_take (List.mem_of_getElem? e)
 ·rw [List.getElem?_append_right (by omega)] at e
  obtain ⟨k, hk⟩ : ∃ k, j = atC l x + 1 + k := ⟨j - (atC l x + 1), by omega⟩
  rw [ht, show j - atC l x = k + 1 by omega, List.getElem?_cons_succ] at e
  exact List.mem_of_mem_drop (List.mem_of_getElem? e)
theorem Z1vg {m : Nat} (h : CdsB l) (hs : Shape (nds l)) (hx : XOk x) (hl : l.length < 90000) (cp : Option Nat) : ∀ (c i : Nat), l.length + 1 - i < c → i ≤ l.length + 1 →
  Zri m c (atC l x : Int) (i : Int) l.length cp (cdsC l) x.cells (l.length + 1) ((l.length + 1) * 20) (cdsC (shTo (atC l x) (insC l x) i)) =
  some (.tup [trD (addC l x) none, .v (.int .i64 (atC l x : Int))])
 | 0, i, hc, hi => by omega
 | c + 1, i, hc, hi => by
  have hB := h.len
  have hb := shTo_b h hx hl i
  have hlen : (shTo (atC l x) (insC l x) i).length = l.length + 1 := by rw [Zoe, Zod]
  have hins := Zod l x
  rw [Z1jm]
  simp only [Int.toNat_natCast, Nat.zero_add]
  by_cases hlt : i < l.length + 1
  ·have hlt' : i < (shTo (atC l x) (insC l x) i).length := by omega
   have hlti : i < (insC l x).length := by omega
   have ih := Z1vg (m := m) h hs hx hl cp c (i + 1) (by omega) (by omega)
   rw [Z20l (by omega)] at ih
   refine st_cT (decide_eq_true (by omega)) ?_
   by_cases hne : i = atC l x
   ·refine st_cF (i_bnf (by omega)) ?_
    rw [Zqm, Z14 (by omega)]
    rw [if_neg (fun q => q hne)] at ih
    exact ih
   ·rw [if_pos hne] at ih
    have hm := Z1wu hlti hne
    have hpl := hs.par_lt (insC l x)[i].n (List.mem_map.2 ⟨_, hm, rfl⟩)
    rw [Z1r] at hpl
    have hge : (shTo (atC l x) (insC l x) i)[i] = (insC l x)[i] := by rw [Z148 _ _ _ hlti, if_neg (by omega)]
    have hpar := Z8u hb.ok hlt'
    rw [hge] at hpar
    refine st_cT (i_bne (by omega)) ?_
    refine st_if (by omega) ?_
    refine Z0 hpar ?_
    by_cases hp : (atC l x : Int) ≤ (insC l x)[i].n.par
    ·refine st_cT (decide_eq_true hp) ?_
     refine st_if (by omega) ?_
     refine Z0 hpar ?_
     refine st_if (by omega) ?_
     refine st_if ⟨by first | rfl | trivial, by omega⟩ ?_
     rw [Zqm, Z14 (by omega), Z10i (by omega) (by omega)]
     simp only [Nat.add_zero]
     rw [Z1vb hb.ok hlt', hge]
     have : (insC l x)[i].setPar ((insC l x)[i].n.par + 1) = shC (atC l x) (insC l x)[i] := by
      unfold Cd.setPar shC sh
      rw [if_pos hp]
     rw [this]
     exact ih
    ·refine st_cF (decide_eq_false hp) ?_
     rw [Zqm, Z14 (by omega)]
     have : shC (atC l x) (insC l x)[i] = (insC l x)[i] := by
      unfold shC sh
      rw [if_neg hp]
     rw [this, ← hge, List.set_getElem_self] at ih
     exact ih
  ·obtain rfl : i = l.length + 1 := by omega
   refine st_cF (decide_eq_false (by omega)) ?_
   refine st_if (by omega) ?_
   rw [Z22c] at hb ⊢
   have hcl := cdsC_len hb.ok
   rw [Z1a3] at hcl
   rw [Z71 hcl]
   unfold trD
   rw [Z1a3]
theorem Z1vh {m : Nat} (hm : 1000000 < m) (h : CdsB l) (hs : Shape (nds l)) (hx : XOk x) (hl : l.length < 90000) (cp : Option Nat) : ∀ (c i : Nat), l.length - i < c → i ≤ l.length →
  Zvi m c (stA l x i) (i : Int) l.length cp (cdsC l) x.cells ((stO l x i).length) ((stO l x i).length * 20) (cdsC (stO l x i)) =
  some (.tup [trD (addC l x) none, .v (.int .i64 (atC l x : Int))])
 | 0, i, hc, hi => by omega
 | c + 1, i, hc, hi => by
  have hB := h.len
  have hcl := cdsC_len h.ok
  have hole := Z23j (l := l) (x := x) i hi
  have hol : (stO l x i).length ≤ i + 1 := by rw [hole]; split <;> omega
  have hxl := Cd.cells_len hx.ok
  have hale := atC_le l x
  rw [Z1mh]
  simp only [Int.toNat_natCast]
  by_cases hlt : i < l.length
  ·have hn : i < (nds l).length := by rw [Z1r]; exact hlt
   have hok := h.ok _ (List.getElem_mem hlt)
   have hil := Cd.cells_len hok
   have ih := Z1vh (m := m) hm h hs hx hl cp c (i + 1) (by omega) (by omega)
   have j13 : ∀ (o : List Cd) (a : Int), o.length ≤ i + 2 → stO l x (i + 1) = o ++ [l[i]] → stA l x (i + 1) = a →
     Zfp m c a (i : Int) l.length cp (cdsC l) x.cells o.length (o.length * 20) (cdsC o) (l[i].cells) = some (.tup [trD (addC l x) none, .v (.int .i64 (atC l x : Int))]) := fun o a h0 h1 h2 => by
    rw [Z1h1]
    refine st_if hil ?_
    refine st_if ⟨rfl, by first | rfl | trivial, by constructor <;> omega, hil⟩ ?_
    rw [h1, h2, List.length_append, List.length_singleton, Z92, Z144] at ih
    rw [Z14 (by omega)]
    exact ih
   have j10 : ∀ b : Bool, (i < atC l x → b = false) → (i = atC l x → b = true) →
     Z7y m c (stA l x i) (i : Int) (b01 b) l.length cp (cdsC l) x.cells ((stO l x i).length) ((stO l x i).length * 20) (cdsC (stO l x i)) (l[i].cells) = some (.tup [trD (addC l x) none, .v (.int .i64 (atC l x : Int))]) := fun b h1 h2 => by
    rw [Z1h3]
    rcases Nat.lt_trichotomy i (atC l x) with ha | ha | ha
    ·have e : stA l x i = -1 := if_pos (by omega)
     rw [h1 ha, e]
     refine st_cT rfl ?_
     refine st_cF rfl ?_
     exact j13 (stO l x i) _ (by omega) (stO_lt hlt ha) (if_pos (by omega))
    ·have e : stA l x i = -1 := if_pos (by omega)
     have e2 : (stO l x i).length = atC l x := by rw [hole, if_pos (by omega), ha]
     rw [h2 ha, e]
     refine st_cT rfl ?_
     refine st_cT rfl ?_
     rw [Z1h2]
     refine st_if hxl ?_
     refine st_if ⟨rfl, by first | rfl | trivial, by constructor <;> omega, hxl⟩ ?_
     have := j13 (stO l x i ++ [x]) (((stO l x i).length : Nat) : Int) (by simp; omega) (stO_eq hlt ha) (by rw [e2]; exact if_neg (by omega))
     rw [List.length_append, List.length_singleton, Z92, Z144] at this
     exact this
    ·have e : stA l x i = (atC l x : Int) := if_neg (by omega)
     rw [e]
     refine st_cF (decide_eq_false (by omega)) ?_
     exact j13 (stO l x i) _ (by omega) (stO_gt hlt ha) (if_neg (by omega))
   have hbh : ∀ b : Bool, (0 < i → b = behind x.n l[i].n) → (i = 0 → b = false) → (i < atC l x → b = false) ∧ (i = atC l x → b = true) := fun b hb h0 => by
    constructor
    ·intro ha
     by_cases h00 : 0 < i
     ·have := Z184 (l := nds l) (n := x.n) ha h00 hn
      rw [Zbf hlt] at this
      rw [hb h00, this]
     ·exact h0 (by omega)
    ·intro ha
     have hin : insAt (nds l) x.n < (nds l).length := by rw [Z1r]; show atC l x < _; omega
     obtain ⟨h1, h2⟩ := Z1ku hin
     have h00 : 0 < i := by rw [ha]; exact h1
     rw [hb h00]
     have h3 : (nds l)[insAt (nds l) x.n] = (nds l)[i] := by congr 1; exact ha.symm
     rw [h3, Zbf hlt] at h2
     exact h2
   refine st_cT (decide_eq_true (by omega)) ?_
   refine st_if (by omega) ?_
   refine st_if (by omega) ?_
   rw [Zd8 h.ok hlt]
   refine st_if hil ?_
   by_cases h00 : 0 < i
   ·refine st_cT (decide_eq_true (by omega)) ?_
    refine Z0 (Z3g (Cd.at0 _)) ?_
    refine Z0 (Z3g (Cd.at0 _)) ?_
    by_cases h1 : x.n.par < l[i].n.par
    ·refine st_cT (decide_eq_true h1) ?_
     obtain ⟨p1, p2⟩ := hbh true (fun _ => by unfold behind; rw [decide_eq_true h1]; rfl) (fun q => by omega)
     exact j10 true p1 p2
    ·refine st_cF (decide_eq_false h1) ?_
     refine Z0 (Z3g (Cd.at0 _)) ?_
     refine Z0 (Z3g (Cd.at0 _)) ?_
     by_cases h2 : l[i].n.par = x.n.par
     ·refine st_cT (i_eq h2) ?_
      rw [Cd.pol_at hok, Cd.pol_at hx.ok]
      refine Z0 (Zql hok.pol hx.ok.pol) ?_
      refine Z0 (rdI_v _ _) ?_
      by_cases h3 : 0 < l[i].n.pol.cmp x.n.pol
      ·refine st_cT (decide_eq_true h3) ?_
       obtain ⟨p1, p2⟩ := hbh true (fun _ => by unfold behind; rw [decide_eq_true h2, decide_eq_true h3]; simp) (fun q => by omega)
       exact j10 true p1 p2
      ·refine st_cF (decide_eq_false h3) ?_
       obtain ⟨p1, p2⟩ := hbh false (fun _ => by unfold behind; rw [decide_eq_false h1, decide_eq_false h3]; simp) (fun q => by omega)
       exact j10 false p1 p2
     ·refine st_cF (i_ne h2) ?_
      obtain ⟨p1, p2⟩ := hbh false (fun _ => by unfold behind; rw [decide_eq_false h1, decide_eq_false h2]; simp) (fun q => by omega)
      exact j10 false p1 p2
   ·refine st_cF (decide_eq_false (by omega)) ?_
    obtain ⟨p1, p2⟩ := hbh false (fun q => by omega) (fun _ => rfl)
    exact j10 false p1 p2
  ·obtain rfl : i = l.length := by omega
   have hend := stO_end (l := l) (x := x)
   have hz := Z1vg (m := m) h hs hx hl cp m 0 (by omega) (by omega)
   rw [Z20k] at hz
   have hil := Zod l x
   refine st_cF (decide_eq_false (by omega)) ?_
   by_cases ha : l.length ≤ atC l x
   ·have e : stA l x l.length = -1 := if_pos ha
    have e2 : (stO l x l.length).length = atC l x := by rw [hole, if_pos ha]; omega
    rw [e]
    refine st_cT rfl ?_
    refine st_if hxl ?_
    refine st_if ⟨rfl, by first | rfl | trivial, by constructor <;> omega, hxl⟩ ?_
    rw [Z11y]
    rw [if_pos ha] at hend
    rw [← hend, Z92, Z144] at hz
    rw [e2]
    rw [show atC l x + 1 = l.length + 1 by omega]
    exact hz
   ·have e : stA l x l.length = (atC l x : Int) := if_neg ha
    have e2 : (stO l x l.length).length = l.length + 1 := by rw [hole, if_neg ha]
    rw [e]
    refine st_cF (decide_eq_false (by omega)) ?_
    rw [Z11y]
    rw [if_neg ha] at hend
    rw [← hend] at hz
    rw [e2]
    exact hz
theorem Z1y2 (h : CdsB l) (hs : Shape (nds l)) (hx : XOk x) (hl : l.length < 90000) (cp : Option Nat) :
  Z5x [.agg [.list l.length cp (cdsC l)], .agg x.cells] = some (.tup [trD (addC l x) none, .v (.int .i64 (atC l x : Int))]) := by
 show Z13x M l.length cp (cdsC l) x.cells = _
 unfold Z13x
 refine st_if (Cd.cells_len hx.ok) ?_
 have := Z1vh (m := M) (by unfold M; omega) h hs hx hl cp M 0 (by unfold M; omega) (by omega)
 rw [show stA l x 0 = -1 from if_pos (by omega), show stO l x 0 = [] by unfold stO; rw [if_pos (by omega)]; rfl] at this
 exact this
end
end Go.Ev
/-
 The trees of the statements: T.Of.
-/
set_option linter.unusedSimpArgs false
set_option linter.unusedVariables false
set_option maxRecDepth 100000
namespace Go.Ev
open Go
def T4.cells (t : T4) : List D := [.v (.int .u8 (t.a : Int)), .v (.int .u8 (t.b : Int)), .v (.int .u8 (t.c : Int)), .v (.int .u8 (t.d : Int))]
def T4.ok (t : T4) : Prop := t.a < 256 ∧ t.b < 256 ∧ t.c < 256 ∧ t.d < 256
def t4C (l : List T4) : List D := (l.map T4.cells).flatten
theorem t4_at {l : List T4} {i j : Nat} (hi : i < l.length) (hj : j < 4) : (t4C l)[i * 4 + j]? = l[i].cells[j]? := Z1wo (f := T4.cells) (c := 4) (fun _ _ => rfl) hi hj
theorem Z22d {Z c : List D} (hZ : Z.length = 20) (hc : c.length = 17) (e q : D) : List.set (List.set (putL 20 Z 1 17 c) 18 e) 19 q = Z.take 1 ++ (c ++ [e, q]) := by
 have h1 : (Z.take 1).length = 1 := by simp; omega
 have h2 : (Z.drop 18).length = 2 := by simp; omega
 obtain ⟨a, b, hab⟩ : ∃ a b, Z.drop 18 = [a, b] := by
  match hd : Z.drop 18, h2 with
  | [a, b], _ => exact ⟨a, b, rfl⟩
 have e0 : putL 20 Z 1 17 c = Z.take 1 ++ (c ++ [a, b]) := by
  unfold putL
  rw [if_neg (by omega), show 1 + 17 = 18 from rfl, hab]
 rw [e0, List.set_append_right _ _ (by omega), List.set_append_right _ _ (by omega), List.set_append_right _ _ (by omega), List.set_append_right _ _ (by omega), h1, hc]
 rfl
theorem Z1t8 {m : Nat} {rows : List T4} (hr : ∀ t, t ∈ rows → t.ok) (rc : Option Nat) : ∀ (c i : Nat) (l : List Cd) (cp : Option Nat), 25 - i < c → i ≤ 25 → CdsB l → Tree (nds l) → l.length ≤ i → (0 < i → 0 < l.length) →
  ∃ r qc, Zrk m c (i : Int) rows.length rc (t4C rows) [.list l.length cp (cdsC l)] = some (trD r qc) ∧ nds r = tofFrom i (nds l) (rows.drop i) ∧ CdsB r
 | 0, i, l, cp, hc, hi, hb, ht, hl, h0 => by omega
 | c + 1, i, l, cp, hc, hi, hb, ht, hl, h0 => by
  rw [Z1jn]
  by_cases hlt : i < rows.length
  ·rw [List.drop_eq_getElem_cons hlt]
   unfold tofFrom
   by_cases h25 : i < 25
   ·rw [if_pos h25]
    have hS := ht.valid.shape
    have hok := hr _ (List.getElem_mem hlt)
    obtain ⟨t1, t2, t3⟩ := Z1il (i := i) (t := rows[i]) ht
    rw [Z1r] at t2 t3
    let pr : Int := if 0 < i then ((rows[i].a % l.length : Nat) : Int) else -1
    let x : Cd := ⟨rows[i].nd pr, (setOf rows[i].c).2, some (notesQ rows[i].d).length⟩
    have hxok : XOk x := ⟨T4.nd_ok _ _, by have := (Z1qo rows[i].c).2; show (setOf rows[i].c).1.length < _; omega, by have := Z1qp rows[i].d; show (notesQ rows[i].d).length < _; omega⟩
    have hst : Zx9 i (nds l) rows[i] = if addE (nds l) x.n = 0 then addN (nds l) x.n else nds l := by
     unfold Zx9
     rw [Z1r]
    have hnz : 0 < (Zx9 i (nds l) rows[i]).length := by
     by_cases hi0 : 0 < i
     ·have := h0 hi0; omega
     ·obtain rfl : i = 0 := by omega
      have : nds l = [] := List.length_eq_zero_iff.1 (by rw [Z1r]; omega)
      rw [this]; exact Z1sj
    have j8 : ∃ r qc, Zo7 m c (i : Int) rows.length rc (t4C rows) [.list l.length cp (cdsC l)] x.cells = some (trD r qc) ∧ nds r = tofFrom (i + 1) (Zx9 i (nds l) rows[i]) (rows.drop (i + 1)) ∧ CdsB r := by
     rw [Z1h4]
     have hA := Z1y1 hb hS cp hxok.ok hxok.q
     by_cases he : addE (nds l) x.n = 0
     ·rw [if_pos he, ← Z1ss] at hst
      have hlen := Z1a3 l x
      rw [hst] at t1 hnz
      obtain ⟨r, qc, e1, e2, e3⟩ := Z1t8 (m := m) hr rc c (i + 1) (addC l x) none (by omega) (by omega) (addC_b hb hxok.ok hxok.ex hxok.q (by omega)) t1 (by omega) (fun _ => by omega)
      rw [hst]
      refine ⟨r, qc, ?_, e2, e3⟩
      refine Z0 hA ?_
      refine Z0 (rdI_v _ _) ?_
      refine st_cT (i_eq he) ?_
      refine Z0 (Z1y2 hb hS hxok (by omega) cp) ?_
      refine Z0 rfl ?_
      refine st_if rfl ?_
      refine Z0 (Z1sg _) ?_
      refine Z0 (rdI_v _ _) ?_
      refine st_if rfl ?_
      rw [Z11z, Z14 (by omega)]
      exact e1
     ·rw [if_neg he] at hst
      rw [hst] at t1 hnz
      rw [Z1r] at hnz
      obtain ⟨r, qc, e1, e2, e3⟩ := Z1t8 (m := m) hr rc c (i + 1) l cp (by omega) (by omega) hb ht (by omega) (fun _ => hnz)
      rw [hst]
      refine ⟨r, qc, ?_, e2, e3⟩
      refine Z0 hA ?_
      refine Z0 (rdI_v _ _) ?_
      refine st_cF (i_ne he) ?_
      rw [Z11z, Z14 (by omega)]
      exact e1
    obtain ⟨r, qc, e1, e2, e3⟩ := j8
    refine ⟨r, qc, ?_, e2, e3⟩
    have hpl := Oid.cells_len (Z1mj rows[i].b)
    refine st_cT (decide_eq_true (by omega)) ?_
    refine st_cT (decide_eq_true (by omega)) ?_
    rw [Z1h5]
    simp only [Int.toNat_natCast]
    have g : ∀ (j : Nat) (v : Nat), j < 4 → rows[i].cells[j]? = some (.v (.int .u8 (v : Int))) → rdI .u8 (t4C rows)[i * 4 + j]? = some (v : Int) := fun j v hj hv => Z3g ((t4_at hlt hj).trans hv)
    refine st_if (by omega) ?_
    refine Z0 (g 1 rows[i].b (by omega) rfl) ?_
    refine Z0 (Z1qq _) ?_
    refine Z0 (Z1sg _) ?_
    refine st_if (by omega) ?_
    refine Z0 (g 2 rows[i].c (by omega) rfl) ?_
    refine Z0 (Z23i _) ?_
    refine Z0 (rdL_v _ _ _) ?_
    refine st_if (by omega) ?_
    refine Z0 (g 3 rows[i].d (by omega) rfl) ?_
    refine Z0 (Z203 _) ?_
    refine Z0 (rdL_v _ _ _) ?_
    refine st_if hpl ?_
    rw [Z22d rfl hpl]
    refine st_if (by simp [hpl]) ?_
    by_cases hi0 : 0 < i
    ·refine st_cT (decide_eq_true (by omega)) ?_
     refine st_if (by omega) ?_
     refine Z0 (g 0 rows[i].a (by omega) rfl) ?_
     refine Z0 (show rdL _ = some ⟨l.length, cp, cdsC l⟩ from rfl) ?_
     dsimp only
     have := h0 hi0
     refine st_ifn (by omega) ?_
     have ha := hok.1
     rw [Z10i (by omega) (by omega), Z1a0]
     have hpr : pr = ((rows[i].a % l.length : Nat) : Int) := if_pos hi0
     rw [← hpr]
     exact e1
    ·refine st_cF (decide_eq_false (by omega)) ?_
     have hpr : pr = -1 := if_neg hi0
     have hx : x.cells = Cd.cells ⟨rows[i].nd (-1), (setOf rows[i].c).2, some (notesQ rows[i].d).length⟩ := by show Cd.cells ⟨rows[i].nd pr, _, _⟩ = _; rw [hpr]
     rw [hx] at e1
     exact e1
   ·rw [if_neg h25]
    refine ⟨l, cp, ?_, rfl, hb⟩
    refine st_cT (decide_eq_true (by omega)) ?_
    refine st_cF (decide_eq_false (by omega)) ?_
    refine st_if rfl ?_
    rfl
  ·rw [List.drop_eq_nil_of_le (by omega)]
   refine ⟨l, cp, ?_, rfl, hb⟩
   refine st_cF (decide_eq_false (by omega)) ?_
   refine st_if rfl ?_
   rfl
theorem CdsB.nil : CdsB [] := ⟨(fun x hx => nomatch hx), by decide, (fun x hx => nomatch hx), (fun x hx => nomatch hx)⟩
structure Tr (l : List Cd) : Prop where
 b : CdsB l
 t : Tree (nds l)
 len : l.length ≤ 25
theorem Z1wv {rows : List T4} (hr : ∀ t, t ∈ rows → t.ok) (rc : Option Nat) : ∃ r qc, Z16 [.agg [.list rows.length rc (t4C rows)]] = some (trD r qc) ∧ nds r = tof rows ∧ Tr r := by
 obtain ⟨r, qc, e1, e2, e3⟩ := Z1t8 (m := M) hr rc M 0 [] (some 0) (by unfold M; omega) (by omega) CdsB.nil Tree.nil (by simp) (fun q => by omega)
 have e2' : nds r = tof rows := e2
 obtain ⟨h1, h2⟩ := Z21q rows
 refine ⟨r, qc, e1, e2', e3, by rw [e2']; exact h1, ?_⟩
 rw [← Z1r, e2']; exact h2
end Go.Ev