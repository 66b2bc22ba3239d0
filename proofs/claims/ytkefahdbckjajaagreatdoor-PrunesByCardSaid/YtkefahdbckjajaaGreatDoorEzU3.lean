/-
  The reference's prunings, and what stays.
-/
import Derived.Test.YtkefahdbckjajaaGreatDoorEzU2
import Derived.Test.YtkefahdbckjajaaGreatDoorEzXI
set_option linter.unusedSimpArgs false
set_option linter.unusedVariables false
set_option maxRecDepth 100000
namespace Go.Ev
open Go

theorem Z1nn {L : List Int} {q : Nat} (h : q < L.length) : ((ints L).drop q).take 1 = ints [L.getD q 0] := by
  have h' : q < (ints L).length := by rw [Zar]; exact h
  rw [List.drop_eq_getElem_cons h', List.take_succ_cons, List.take_zero]
  simp [ints, h]
section
variable {N : List Nd} {A : Nat → Bool} {d : Nat} {l : List Cd}
theorem Z1jg (hS : Shape N) (hA : Live N d A) (hl : nds l = left N A) : clI (nds l) tt d l.length = (clist N A d).map fun j => ((rk A j : Nat) : Int) := by
  have : clI (nds l) tt d l.length = (clist (nds l) tt d).map fun j : Nat => (j : Int) := by rw [← Zm]; rfl
  rw [this, hl]
  show (clist (left N A) (fun _ => true) d).map _ = _
  rw [Z1k4 hS hA.up, List.map_map]; rfl
theorem Zy9 (hS : Shape N) (hA : Live N d A) (hl : nds l = left N A) : (clI (nds l) tt d l.length).length = (clist N A d).length := by rw [Z1jg hS hA hl, List.length_map]
theorem Z1ax (hS : Shape N) (hA : Live N d A) (hl : nds l = left N A) {q : Nat} (h : q < (clist N A d).length) : ((ints (clI (nds l) tt d l.length)).drop q).take 1 = ints [(rk A ((clist N A d).getD q 0) : Int)] := by
  rw [Z1nn (by rw [Zy9 hS hA hl]; exact h), Z1jg hS hA hl]
  congr 2
  simp [h]
theorem Z1hf (hS : Shape N) (hA : Live N d A) (hl : nds l = left N A) {q : Nat} (h : q < (clist N A d).length) : nds (leftR l (kpF l [(rk A ((clist N A d).getD q 0) : Int)])) = left N (del A ((clist N A d).getD q 0)) ∧ Live N d (del A ((clist N A d).getD q 0)) ∧ rk (del A ((clist N A d).getD q 0)) N.length + 1 = rk A N.length := by
  have hm := Ztg.1 (Z12x (d := 0) h)
  have ha : A ((clist N A d).getD q 0) = true := by
    have := hm.2
    unfold chl at this
    simp only [Bool.and_eq_true] at this
    exact this.1.1
  have hr := rk_del ha (n := N.length)
  rw [if_pos hm.1] at hr
  exact ⟨by rw [nds_rDelete, hl]; exact Z1mw hS hA.up hm.1 hm.2, hA.del hS hm.1 hm.2, hr⟩
theorem Z1ii (hl : nds l = left N A) : l.length ≤ N.length := by
  rw [← Zm, hl, Z4x]; exact rk_le _ _
end
def trD (l : List Cd) (cp : Option Nat) : D := .agg [.list l.length cp (cdsC l)]
theorem Z1ay {m : Nat} {N : List Nd} (hS : Shape N) {d : Nat} : ∀ (c : Nat) (A : Nat → Bool) (l : List Cd) (cp : Option Nat), CdsB l → nds l = left N A → Live N d A → rk A N.length < c →
    ∃ r rc, Zka m c (d : Int) [.list l.length cp (cdsC l)] = some (trD r rc) ∧ nds r = prune N d ∧ CdsB r
  | 0, A, l, cp, hb, hl, hA, hc => by omega
  | c + 1, A, l, cp, hb, hl, hA, hc => by
    have hSl : Shape (nds l) := by rw [hl]; exact left_shape hS hA.up
    have hlen := Zy9 hS hA hl
    rw [Z15l]
    by_cases h0 : (clist N A d).length = 0
    · refine ⟨l, cp, ?_, ?_, hb⟩
      · refine Z0 (Zm4 hb hSl cp d) ?_
        refine Z0 (rdL_v _ _ _) ?_
        refine st_cT (i_eq (by dsimp only; omega)) ?_
        refine st_if rfl ?_
        rfl
      · rw [hl]
        unfold prune
        refine Ztf (fun i hi => hA.done hS (fun j hj => ?_) i hi) hS.par_lt
        cases hh : chl N A d j with
        | false => rfl
        | true =>
          have := Ztg.2 ⟨hj, hh⟩
          rw [List.length_eq_zero_iff.1 h0] at this; cases this
    · obtain ⟨e1, e2, e3⟩ := Z1hf hS hA hl (q := 0) (by omega)
      obtain ⟨r, rc, h1, h2, h3⟩ := Z1ay (m := m) hS c _ (leftR l (kpF l [(rk A ((clist N A d).getD 0 0) : Int)])) none (Z1ig hb _) e1 e2 (by omega)
      refine ⟨r, rc, ?_, h2, h3⟩
      refine Z0 (Zm4 hb hSl cp d) ?_
      refine Z0 (rdL_v _ _ _) ?_
      refine st_cF (i_ne (by dsimp only; omega)) ?_
      refine st_if (by dsimp only; omega) ?_
      dsimp only
      rw [Z1ax hS hA hl (by omega)]
      refine Z0 (Z1as (at_ := [(rk A ((clist N A d).getD 0 0) : Int)]) hb hSl (by simp) cp _) ?_
      refine Z0 (Zaq _) ?_
      refine st_if rfl ?_
      exact h1
theorem Z1ko {l : List Cd} (h : CdsB l) (hs : Shape (nds l)) (cp : Option Nat) (d : Nat) : ∃ r rc, Z6k [.agg [.list l.length cp (cdsC l)], .v (.int .i64 (d : Int))] = some (trD r rc) ∧ nds r = prune (nds l) d ∧ CdsB r := by
  have hB := h.len
  have hle := rk_le tt (nds l).length
  rw [Zm] at hle
  obtain ⟨r, rc, h1, h2, h3⟩ := Z1ay (m := M) hs (d := d) M tt l cp h (Z1eb (nds l) hs.par_lt).symm (Live.all _ _) (by rw [Zm]; unfold M; omega)
  exact ⟨r, rc, h1, h2, h3⟩

def byT (r : List Cd) (rc : Option Nat) (k : Nat) : D := .tup [trD r rc, .v (.int .i64 (k : Int))]
theorem Z1no {N : List Nd} {d : Nat} {ch : Nat → Nat → Nat} {f : Nat} {A : Nat → Bool} {k : Nat} (h : (clist N A d).length = 0) : pby N d ch f A k = (A, k) := Z1ec (List.length_eq_zero_iff.1 h)
theorem Z1np {N : List Nd} {d : Nat} {ch : Nat → Nat → Nat} {f : Nat} {A : Nat → Bool} {k : Nat} (h : (clist N A d).length ≠ 0) : pby N d ch (f + 1) A k = pby N d ch f (del A ((clist N A d).getD (ch k (clist N A d).length) 0)) (k + 1) := Z180 (fun e => h (by rw [e]; rfl))
theorem Z1jh {m : Nat} {N : List Nd} (hS : Shape N) {d : Nat} {cs : List Int} (hcs : cs.length < 1000000000) (ac : Option Nat) (hN : N.length < 100000) : ∀ (c k : Nat) (A : Nat → Bool) (l : List Cd) (cp : Option Nat), CdsB l → nds l = left N A → Live N d A → rk A N.length < c → k + rk A N.length ≤ N.length →
    ∃ r rc, Zfb m c (d : Int) cs.length ac (ints cs) (k : Int) [.list l.length cp (cdsC l)] = some (byT r rc (pby N d (chN cs) c A k).2) ∧ nds r = left N (pby N d (chN cs) c A k).1 ∧ CdsB r
  | 0, k, A, l, cp, hb, hl, hA, hc, hk => by omega
  | c + 1, k, A, l, cp, hb, hl, hA, hc, hk => by
    have hSl : Shape (nds l) := by rw [hl]; exact left_shape hS hA.up
    have hlen := Zy9 hS hA hl
    have hlN := Z1ii hl
    have hcl := Z119 (nds l) tt d l.length
    rw [Z11e]
    by_cases h0 : (clist N A d).length = 0
    · rw [Z1no h0]
      refine ⟨l, cp, ?_, hl, hb⟩
      refine Z0 (Zm4 hb hSl cp d) ?_
      refine Z0 (rdL_v _ _ _) ?_
      refine st_cT (i_eq (by dsimp only; omega)) ?_
      refine st_if rfl ?_
      rfl
    · rw [Z1np h0]
      have hq := chN_lt cs k (n := (clist N A d).length) (by omega)
      have hqi := chI_lt cs k (n := (clist N A d).length) (by omega)
      generalize hqe : chN cs k (clist N A d).length = q at hq ⊢
      have hqI : chI cs k (clist N A d).length = (q : Int) := by unfold chN at hqe; omega
      obtain ⟨e1, e2, e3⟩ := Z1hf hS hA hl (q := q) hq
      obtain ⟨r, rc, h1, h2, h3⟩ := Z1jh (m := m) hS hcs ac hN c (k + 1) _ (leftR l (kpF l [(rk A ((clist N A d).getD q 0) : Int)])) none (Z1ig hb _) e1 e2 (by omega) (by omega)
      refine ⟨r, rc, ?_, h2, h3⟩
      have j10 : ∀ u : Int, u = (q : Int) → Zav m c (d : Int) cs.length ac (ints cs) (k : Int) ((clI (nds l) tt d l.length).length) none (ints (clI (nds l) tt d l.length)) u [.list l.length cp (cdsC l)] = some (byT r rc (pby N d (chN cs) c (del A ((clist N A d).getD q 0)) (k + 1)).2) := fun u hu => by
        subst hu
        rw [Zy3, Zj (by omega)]
        simp only [Int.toNat_natCast, Nat.mul_one, Nat.add_sub_cancel_left]
        refine st_if (by omega) ?_
        refine st_if (by omega) ?_
        rw [Z1ax hS hA hl hq]
        refine Z0 (Z1as (at_ := [(rk A ((clist N A d).getD q 0) : Int)]) hb hSl (by simp) cp _) ?_
        refine Z0 (Zaq _) ?_
        refine st_if rfl ?_
        rw [Zj (by omega)]
        exact h1
      refine Z0 (Zm4 hb hSl cp d) ?_
      refine Z0 (rdL_v _ _ _) ?_
      refine st_cF (i_ne (by dsimp only; omega)) ?_
      dsimp only
      by_cases hkc : k < cs.length
      · have hg : cs.getD k 0 = cs[k] := by simp [hkc]
        have hmod := Z1fp (cs.getD k 0) (n := (clist N A d).length) (by omega)
        refine st_cT (decide_eq_true (by omega)) ?_
        refine st_if (by omega) ?_
        simp only [Int.toNat_natCast, Nat.mul_one]
        refine Z0 (Zjs hkc) ?_
        refine st_ifn (by omega) ?_
        rw [Zod, hlen]
        unfold chI at hqI
        rw [if_pos hkc] at hqI
        dsimp only at hqI
        by_cases hneg : Int.tmod (cs.getD k 0) ((clist N A d).length : Int) < 0
        · refine st_cT (decide_eq_true hneg) ?_
          rw [if_pos hneg] at hqI
          rw [Z7e (by omega) (by omega)]
          rw [← hlen]
          refine j10 _ ?_
          rw [hlen]; exact hqI
        · refine st_cF (decide_eq_false hneg) ?_
          rw [if_neg hneg] at hqI
          rw [← hlen]
          refine j10 _ ?_
          rw [hlen]; exact hqI
      · refine st_cF (decide_eq_false (by omega)) ?_
        rw [Zod]
        unfold chI at hqI
        rw [if_neg hkc] at hqI
        dsimp only at hqI
        rw [if_neg (by omega)] at hqI
        refine st_cF (decide_eq_false (by omega)) ?_
        exact j10 _ hqI
theorem Z1hg {l : List Cd} (h : CdsB l) (hs : Shape (nds l)) (cp : Option Nat) (d : Nat) {cs : List Int} (hcs : cs.length < 1000000000) (ac : Option Nat) : ∃ r rc, Z53 [.agg [.list l.length cp (cdsC l)], .v (.int .i64 (d : Int)), .list cs.length ac (ints cs)] = some (byT r rc (pby (nds l) d (chN cs) M tt 0).2) ∧ nds r = left (nds l) (pby (nds l) d (chN cs) M tt 0).1 ∧ CdsB r := by
  have hB := h.len
  have hle := rk_le tt (nds l).length
  have hle2 : (nds l).length = l.length := Zm l
  exact Z1jh (m := M) hs (d := d) hcs ac (by omega) M 0 tt l cp h (Z1eb (nds l) hs.par_lt).symm (Live.all _ _) (by unfold M; omega) (by omega)

theorem Z1d2 {fn : List D → Option D} {m : Nat} {l : List Cd} {cp : Option Nat} {d : Nat} {ks : List Nat} (hks : ks.length < 1000000000) (kc : Option Nat) (hF : ∀ k, k ∈ ks → fn [.agg [.list l.length cp (cdsC l)], .v (.int .i64 (k : Int)), .v (.int .i64 (d : Int))] = some (.v (.int .i64 (b01 (stays (nds l) d k))))) : ∀ (c i : Nat), ks.length - i < c → i ≤ ks.length →
    Zkc fn m c (d : Int) ks.length kc (ints (ks.map fun j : Nat => (j : Int))) (i : Int) l.length cp (cdsC l) = some (.v (.int .i64 (b01 ((ks.drop i).any (stays (nds l) d)))))
  | 0, i, hc, hi => by omega
  | c + 1, i, hc, hi => by
    rw [Z15m]
    simp only [Int.toNat_natCast, Nat.mul_one]
    by_cases hlt : i < ks.length
    · have ih := Z1d2 (m := m) hks kc hF c (i + 1) (by omega) (by omega)
      rw [List.drop_eq_getElem_cons hlt, List.any_cons]
      have hg : (ks.map fun j : Nat => (j : Int)).getD i 0 = (ks[i] : Int) := by simp [hlt]
      refine st_cT (decide_eq_true (by omega)) ?_
      refine st_if (by omega) ?_
      refine Z0 ((Zjs (by simpa using hlt)).trans (by rw [hg])) ?_
      refine Z0 (hF _ (List.getElem_mem hlt)) ?_
      refine Z0 (rdI_v _ _) ?_
      cases hst : stays (nds l) d ks[i] with
      | true => refine st_cT rfl ?_; rfl
      | false =>
        refine st_cF rfl ?_
        rw [Zj (by omega), ih]; rfl
    · obtain rfl : i = ks.length := by omega
      refine st_cF (decide_eq_false (by omega)) ?_
      rw [List.drop_length]; rfl
theorem Z1hh {l : List Cd} (h : CdsB l) (hs : Shape (nds l)) (cp : Option Nat) (d : Nat) : ∀ (n i : Nat), l.length - i < n → i < l.length → dep (nds l) i ≤ d →
    Z5v n [.agg [.list l.length cp (cdsC l)], .v (.int .i64 (i : Int)), .v (.int .i64 (d : Int))] = some (.v (.int .i64 (b01 (stays (nds l) d i))))
  | 0, i, hn, hi, hd => by omega
  | n + 1, i, hn, hi, hd => by
    show Zpa (Z5v n) M l.length cp (cdsC l) (i : Int) (d : Int) = _
    unfold Zpa
    have hB := h.len
    have hin : i < (nds l).length := by rw [Zm]; exact hi
    have hst := Ze9 hs hin (d := d)
    refine Z0 (Ztp h hs cp hi) ?_
    refine Z0 (rdI_v _ _) ?_
    by_cases he : dep (nds l) i = d
    · refine st_cT (i_eq (by omega)) ?_
      rw [hst.2 (.inl (by omega))]; rfl
    · refine st_cF (i_ne (by omega)) ?_
      refine Z0 (Z13q h cp _) ?_
      refine Z0 (rdL_v _ _ _) ?_
      dsimp only
      have hil := Z15g (chF (nds l) (i : Int)) l.length
      have hmem : ∀ k, k ∈ (List.range l.length).filter (chF (nds l) (i : Int)) ↔ k < l.length ∧ 0 < k ∧ parN (nds l) k = i := fun k => by
        rw [List.mem_filter, List.mem_range]
        constructor
        · rintro ⟨h1, h2⟩
          unfold chF at h2
          have h2 := of_decide_eq_true h2
          rw [Z188 h1] at h2
          have h0 : 0 < k := Nat.pos_of_ne_zero fun e => by
            subst e
            have := hs.root _ (Zuk h1)
            omega
          have := (Pt.of hs (k + 1)).parN h1 h0 (by omega)
          exact ⟨h1, h0, by omega⟩
        · rintro ⟨h1, h0, h2⟩
          have := (Pt.of hs (k + 1)).parN h1 h0 (by omega)
          refine ⟨h1, ?_⟩
          unfold chF
          rw [Z188 h1]
          exact decide_eq_true (by omega)
      have hL : (inI (chF (nds l) (i : Int)) l.length).length = ((List.range l.length).filter (chF (nds l) (i : Int))).length := by unfold inI; rw [List.length_map]
      rw [hL]
      unfold inI
      have := Z1d2 (fn := Z5v n) (m := M) (l := l) (cp := cp) (d := d) (ks := (List.range l.length).filter (chF (nds l) (i : Int))) (by omega) none (fun k hk => by
        obtain ⟨h1, h0, h2⟩ := (hmem k).1 hk
        have hlt := (Pt.of hs (k + 1)).parN h1 h0 (by omega)
        have hdp := Zjt hs (by rw [Zm]; exact h1) h0
        rw [h2] at hdp
        exact Z1hh h hs cp d n k (by omega) h1 (by omega)) M 0 (by unfold M; omega) (by omega)
      refine this.trans ?_
      rw [List.drop_zero]
      have : ((List.range l.length).filter (chF (nds l) (i : Int))).any (stays (nds l) d) = stays (nds l) d i := by
        rw [Bool.eq_iff_iff, List.any_eq_true, hst]
        constructor
        · rintro ⟨k, hk, hs2⟩
          obtain ⟨h1, h0, h2⟩ := (hmem k).1 hk
          exact .inr ⟨k, by rw [Zm]; exact h1, h0, hs2, h2⟩
        · rintro (h1 | ⟨k, h1, h0, hs2, h2⟩)
          · omega
          · rw [Zm] at h1
            exact ⟨k, (hmem k).2 ⟨h1, h0, h2⟩, hs2⟩
      rw [this]
theorem Z1ji {m : Nat} {l : List Cd} (h : CdsB l) (hs : Shape (nds l)) (cp : Option Nat) (d : Nat) : ∀ (c i : Nat), l.length - i < c → i ≤ l.length →
    Zek m c (d : Int) ((inI (stays (nds l) d) i).length) (i : Int) l.length cp (cdsC l) ((inI (stays (nds l) d) i).length * 1) (ints (inI (stays (nds l) d) i)) =
    some (.list (inI (stays (nds l) d) l.length).length none (ints (inI (stays (nds l) d) l.length)))
  | 0, i, hc, hi => by omega
  | c + 1, i, hc, hi => by
    have hB := h.len
    have hil := Z15g (stays (nds l) d) i
    rw [Z15n]
    simp only [Nat.mul_one]
    by_cases hlt : i < l.length
    · have hin : i < (nds l).length := by rw [Zm]; exact hlt
      have hst := Ze9 hs hin (d := d)
      have ih := Z1ji (m := m) h hs cp d c (i + 1) (by omega) (by omega)
      rw [Z186] at ih
      simp only [Nat.mul_one] at ih
      refine st_cT (decide_eq_true (by omega)) ?_
      refine Z0 (Ztp h hs cp hlt) ?_
      refine Z0 (rdI_v _ _) ?_
      by_cases hd : d ≤ dep (nds l) i
      · refine st_cT (decide_eq_true (by omega)) ?_
        refine st_if ⟨rfl, by first | rfl | trivial, by constructor <;> omega, by first | rfl | trivial⟩ ?_
        rw [Zs0, Zj (by omega)]
        rw [if_pos (hst.2 (.inl hd)), List.length_append, List.length_singleton, Z77, Zh1] at ih
        exact ih
      · refine st_cF (decide_eq_false (by omega)) ?_
        refine Z0 (Z1hh h hs cp d M i (by unfold M; omega) hlt (by omega)) ?_
        refine Z0 (rdI_v _ _) ?_
        cases hb : stays (nds l) d i with
        | true =>
          refine st_cT rfl ?_
          refine st_if ⟨rfl, by first | rfl | trivial, by constructor <;> omega, by first | rfl | trivial⟩ ?_
          rw [Zs0, Zj (by omega)]
          rw [if_pos hb, List.length_append, List.length_singleton, Z77, Zh1] at ih
          exact ih
        | false =>
          refine st_cF rfl ?_
          rw [Zz4, Zj (by omega)]
          rw [if_neg (by rw [hb]; decide)] at ih
          exact ih
    · obtain rfl : i = l.length := by omega
      refine st_cF (decide_eq_false (by omega)) ?_
      refine st_if (by omega) ?_
      rw [Z5h (Zar _)]
theorem Z1kp {l : List Cd} (h : CdsB l) (hs : Shape (nds l)) (cp : Option Nat) (d : Nat) : Z6l [.agg [.list l.length cp (cdsC l)], .v (.int .i64 (d : Int))] = some (.list (inI (stays (nds l) d) l.length).length none (ints (inI (stays (nds l) d) l.length))) := by
  show Zpb M l.length cp (cdsC l) (d : Int) = _
  unfold Zpb
  have hB := h.len
  exact Z1ji h hs cp d M 0 (by unfold M; omega) (by omega)
end Go.Ev
