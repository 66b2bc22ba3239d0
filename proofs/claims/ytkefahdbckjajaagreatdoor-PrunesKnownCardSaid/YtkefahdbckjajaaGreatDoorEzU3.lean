/-
 The reference's prunings, and what stays.
-/
import Derived.Test.YtkefahdbckjajaaGreatDoorEzU2
import Derived.Test.YtkefahdbckjajaaGreatDoorEzXI
set_option linter.unusedSimpArgs false
set_option linter.unusedVariables false
set_option maxRecDepth 100000
namespace Go.Ev
open Go
theorem Z1oy {L : List Int} {q : Nat} (h : q < L.length) : ((ints L).drop q).take 1 = ints [L.getD q 0] := by
 have h' : q < (ints L).length := by rw [Zb5]; exact h
 rw [List.drop_eq_getElem_cons h', List.take_succ_cons, List.take_zero]
 simp [ints, h]
section
variable {N : List Nd} {A : Nat → Bool} {d : Nat} {l : List Cd}
theorem Z1kj (hS : Shape N) (hA : Live N d A) (hl : nds l = left N A) : clI (nds l) tt d l.length = (clist N A d).map fun j => ((rk A j : Nat) : Int) := by
 have : clI (nds l) tt d l.length = (clist (nds l) tt d).map fun j : Nat => (j : Int) := by rw [← Zy]; rfl
 rw [this, hl]
 show (clist (left N A) (fun _ => true) d).map _ = _
 rw [Z1l5 hS hA.up, List.map_map]; rfl
theorem Z173 (hS : Shape N) (hA : Live N d A) (hl : nds l = left N A) : (clI (nds l) tt d l.length).length = (clist N A d).length := by rw [Z1kj hS hA hl, List.length_map]
theorem Z1jh (hS : Shape N) (hA : Live N d A) (hl : nds l = left N A) {q : Nat} (h : q < (clist N A d).length) : ((ints (clI (nds l) tt d l.length)).drop q).take 1 = ints [(rk A ((clist N A d).getD q 0) : Int)] := by
 rw [Z1oy (by rw [Z173 hS hA hl]; exact h), Z1kj hS hA hl]
 congr 2
 simp [h]
theorem Z1n7 (hS : Shape N) (hA : Live N d A) (hl : nds l = left N A) {q : Nat} (h : q < (clist N A d).length) : nds (leftR l (kpF l [(rk A ((clist N A d).getD q 0) : Int)])) = left N (del A ((clist N A d).getD q 0)) ∧ Live N d (del A ((clist N A d).getD q 0)) ∧ rk (del A ((clist N A d).getD q 0)) N.length + 1 = rk A N.length := by
 have hm := Ztx.1 (Zzd (d := 0) h)
 have ha : A ((clist N A d).getD q 0) = true := by
  have := hm.2
  unfold chl at this
  simp only [Bool.and_eq_true] at this
  exact this.1.1
 have hr := rk_del ha (n := N.length)
 rw [if_pos hm.1] at hr
 exact ⟨by rw [nds_rDelete, hl]; exact Z1o7 hS hA.up hm.1 hm.2, hA.del hS hm.1 hm.2, hr⟩
end
def trD (l : List Cd) (cp : Option Nat) : D := .agg [.list l.length cp (cdsC l)]
theorem Z1bo {m : Nat} {N : List Nd} (hS : Shape N) {d : Nat} : ∀ (c : Nat) (A : Nat → Bool) (l : List Cd) (cp : Option Nat), CdsB l → nds l = left N A → Live N d A → rk A N.length < c →
  ∃ r rc, Zko m c (d : Int) [.list l.length cp (cdsC l)] = some (trD r rc) ∧ nds r = prune N d ∧ CdsB r
 | 0, A, l, cp, hb, hl, hA, hc => by omega
 | c + 1, A, l, cp, hb, hl, hA, hc => by
  have hSl : Shape (nds l) := by rw [hl]; exact left_shape hS hA.up
  have hlen := Z173 hS hA hl
  rw [Z16i]
  by_cases h0 : (clist N A d).length = 0
  ·refine ⟨l, cp, ?_, ?_, hb⟩
   ·refine Z0 (Zt1 hb hSl cp d) ?_
    refine Z0 (rdL_v _ _ _) ?_
    refine st_cT (i_eq (by dsimp only; omega)) ?_
    refine st_if rfl ?_
    rfl
   ·rw [hl]
    unfold prune
    refine Zpq (fun i hi => hA.done hS (fun j hj => ?_) i hi) hS.par_lt
    cases hh : chl N A d j with
    | false => rfl
    | true =>
     have := Ztx.2 ⟨hj, hh⟩
     rw [List.length_eq_zero_iff.1 h0] at this; cases this
  ·obtain ⟨e1, e2, e3⟩ := Z1n7 hS hA hl (q := 0) (by omega)
   obtain ⟨r, rc, h1, h2, h3⟩ := Z1bo (m := m) hS c _ (leftR l (kpF l [(rk A ((clist N A d).getD 0 0) : Int)])) none (Z1je hb _) e1 e2 (by omega)
   refine ⟨r, rc, ?_, h2, h3⟩
   refine Z0 (Zt1 hb hSl cp d) ?_
   refine Z0 (rdL_v _ _ _) ?_
   refine st_cF (i_ne (by dsimp only; omega)) ?_
   refine st_if (by dsimp only; omega) ?_
   dsimp only
   rw [Z1jh hS hA hl (by omega)]
   refine Z0 (Z1bj (at_ := [(rk A ((clist N A d).getD 0 0) : Int)]) hb hSl (by simp) cp _) ?_
   refine Z0 (Z9p _) ?_
   refine st_if rfl ?_
   exact h1
theorem Z1lp {l : List Cd} (h : CdsB l) (hs : Shape (nds l)) (cp : Option Nat) (d : Nat) : ∃ r rc, Z6w [.agg [.list l.length cp (cdsC l)], .v (.int .i64 (d : Int))] = some (trD r rc) ∧ nds r = prune (nds l) d ∧ CdsB r := by
 have hB := h.len
 have hle := rk_le tt (nds l).length
 rw [Zy] at hle
 obtain ⟨r, rc, h1, h2, h3⟩ := Z1bo (m := M) hs (d := d) M tt l cp h (Z1k5 (nds l) hs.par_lt).symm (Live.all _ _) (by rw [Zy]; unfold M; omega)
 exact ⟨r, rc, h1, h2, h3⟩
theorem Z1dt {fn : List D → Option D} {m : Nat} {l : List Cd} {cp : Option Nat} {d : Nat} {ks : List Nat} (hks : ks.length < 1000000000) (kc : Option Nat) (hF : ∀ k, k ∈ ks → fn [.agg [.list l.length cp (cdsC l)], .v (.int .i64 (k : Int)), .v (.int .i64 (d : Int))] = some (.v (.int .i64 (b01 (stays (nds l) d k))))) : ∀ (c i : Nat), ks.length - i < c → i ≤ ks.length →
  Zkp fn m c (d : Int) ks.length kc (ints (ks.map fun j : Nat => (j : Int))) (i : Int) l.length cp (cdsC l) = some (.v (.int .i64 (b01 ((ks.drop i).any (stays (nds l) d)))))
 | 0, i, hc, hi => by omega
 | c + 1, i, hc, hi => by
  rw [Z16j]
  simp only [Int.toNat_natCast, Nat.mul_one]
  by_cases hlt : i < ks.length
  ·have ih := Z1dt (m := m) hks kc hF c (i + 1) (by omega) (by omega)
   rw [List.drop_eq_getElem_cons hlt, List.any_cons]
   have hg : (ks.map fun j : Nat => (j : Int)).getD i 0 = (ks[i] : Int) := by simp [hlt]
   refine st_cT (decide_eq_true (by omega)) ?_
   refine st_if (by omega) ?_
   refine Z0 ((Zk5 (by simpa using hlt)).trans (by rw [hg])) ?_
   refine Z0 (hF _ (List.getElem_mem hlt)) ?_
   refine Z0 (rdI_v _ _) ?_
   cases hst : stays (nds l) d ks[i] with
   | true => refine st_cT rfl ?_; rfl
   | false =>
    refine st_cF rfl ?_
    rw [Zu (by omega), ih]; rfl
  ·obtain rfl : i = ks.length := by omega
   refine st_cF (decide_eq_false (by omega)) ?_
   rw [List.drop_length]; rfl
theorem Z1ie {l : List Cd} (h : CdsB l) (hs : Shape (nds l)) (cp : Option Nat) (d : Nat) : ∀ (n i : Nat), l.length - i < n → i < l.length → dep (nds l) i ≤ d →
  Z69 n [.agg [.list l.length cp (cdsC l)], .v (.int .i64 (i : Int)), .v (.int .i64 (d : Int))] = some (.v (.int .i64 (b01 (stays (nds l) d i))))
 | 0, i, hn, hi, hd => by omega
 | n + 1, i, hn, hi, hd => by
  show Zpl (Z69 n) M l.length cp (cdsC l) (i : Int) (d : Int) = _
  unfold Zpl
  have hB := h.len
  have hin : i < (nds l).length := by rw [Zy]; exact hi
  have hst := Z85 hs hin (d := d)
  refine Z0 (Zu7 h hs cp hi) ?_
  refine Z0 (rdI_v _ _) ?_
  by_cases he : dep (nds l) i = d
  ·refine st_cT (i_eq (by omega)) ?_
   rw [hst.2 (.inl (by omega))]; rfl
  ·refine st_cF (i_ne (by omega)) ?_
   refine Z0 (Z14m h cp _) ?_
   refine Z0 (rdL_v _ _ _) ?_
   dsimp only
   have hil := Z128 (chF (nds l) (i : Int)) l.length
   have hmem : ∀ k, k ∈ (List.range l.length).filter (chF (nds l) (i : Int)) ↔ k < l.length ∧ 0 < k ∧ parN (nds l) k = i := fun k => by
    rw [List.mem_filter, List.mem_range]
    constructor
    ·rintro ⟨h1, h2⟩
     unfold chF at h2
     have h2 := of_decide_eq_true h2
     rw [Z18y h1] at h2
     have h0 : 0 < k := Nat.pos_of_ne_zero fun e => by
      subst e
      have := hs.root _ (Zv9 h1)
      omega
     have := (Pt.of hs (k + 1)).parN h1 h0 (by omega)
     exact ⟨h1, h0, by omega⟩
    ·rintro ⟨h1, h0, h2⟩
     have := (Pt.of hs (k + 1)).parN h1 h0 (by omega)
     refine ⟨h1, ?_⟩
     unfold chF
     rw [Z18y h1]
     exact decide_eq_true (by omega)
   have hL : (inI (chF (nds l) (i : Int)) l.length).length = ((List.range l.length).filter (chF (nds l) (i : Int))).length := by unfold inI; rw [List.length_map]
   rw [hL]
   unfold inI
   have := Z1dt (fn := Z69 n) (m := M) (l := l) (cp := cp) (d := d) (ks := (List.range l.length).filter (chF (nds l) (i : Int))) (by omega) none (fun k hk => by
    obtain ⟨h1, h0, h2⟩ := (hmem k).1 hk
    have hlt := (Pt.of hs (k + 1)).parN h1 h0 (by omega)
    have hdp := Zgc hs (by rw [Zy]; exact h1) h0
    rw [h2] at hdp
    exact Z1ie h hs cp d n k (by omega) h1 (by omega)) M 0 (by unfold M; omega) (by omega)
   refine this.trans ?_
   rw [List.drop_zero]
   have : ((List.range l.length).filter (chF (nds l) (i : Int))).any (stays (nds l) d) = stays (nds l) d i := by
    rw [Bool.eq_iff_iff, List.any_eq_true, hst]
    constructor
    ·rintro ⟨k, hk, hs2⟩
     obtain ⟨h1, h0, h2⟩ := (hmem k).1 hk
     exact .inr ⟨k, by rw [Zy]; exact h1, h0, hs2, h2⟩
    ·rintro (h1 | ⟨k, h1, h0, hs2, h2⟩)
     ·omega
     ·rw [Zy] at h1
      exact ⟨k, (hmem k).2 ⟨h1, h0, h2⟩, hs2⟩
   rw [this]
theorem Z1kk {m : Nat} {l : List Cd} (h : CdsB l) (hs : Shape (nds l)) (cp : Option Nat) (d : Nat) : ∀ (c i : Nat), l.length - i < c → i ≤ l.length →
  Zf1 m c (d : Int) ((inI (stays (nds l) d) i).length) (i : Int) l.length cp (cdsC l) ((inI (stays (nds l) d) i).length * 1) (ints (inI (stays (nds l) d) i)) =
  some (.list (inI (stays (nds l) d) l.length).length none (ints (inI (stays (nds l) d) l.length)))
 | 0, i, hc, hi => by omega
 | c + 1, i, hc, hi => by
  have hB := h.len
  have hil := Z128 (stays (nds l) d) i
  rw [Z16k]
  simp only [Nat.mul_one]
  by_cases hlt : i < l.length
  ·have hin : i < (nds l).length := by rw [Zy]; exact hlt
   have hst := Z85 hs hin (d := d)
   have ih := Z1kk (m := m) h hs cp d c (i + 1) (by omega) (by omega)
   rw [Z18w] at ih
   simp only [Nat.mul_one] at ih
   refine st_cT (decide_eq_true (by omega)) ?_
   refine Z0 (Zu7 h hs cp hlt) ?_
   refine Z0 (rdI_v _ _) ?_
   by_cases hd : d ≤ dep (nds l) i
   ·refine st_cT (decide_eq_true (by omega)) ?_
    refine st_if ⟨rfl, by first | rfl | trivial, by constructor <;> omega, by first | rfl | trivial⟩ ?_
    rw [Zsf, Zu (by omega)]
    rw [if_pos (hst.2 (.inl hd)), List.length_append, List.length_singleton, Z7l, Zhg] at ih
    exact ih
   ·refine st_cF (decide_eq_false (by omega)) ?_
    refine Z0 (Z1ie h hs cp d M i (by unfold M; omega) hlt (by omega)) ?_
    refine Z0 (rdI_v _ _) ?_
    cases hb : stays (nds l) d i with
    | true =>
     refine st_cT rfl ?_
     refine st_if ⟨rfl, by first | rfl | trivial, by constructor <;> omega, by first | rfl | trivial⟩ ?_
     rw [Zsf, Zu (by omega)]
     rw [if_pos hb, List.length_append, List.length_singleton, Z7l, Zhg] at ih
     exact ih
    | false =>
     refine st_cF rfl ?_
     rw [Zzy, Zu (by omega)]
     rw [if_neg (by rw [hb]; decide)] at ih
     exact ih
  ·obtain rfl : i = l.length := by omega
   refine st_cF (decide_eq_false (by omega)) ?_
   refine st_if (by omega) ?_
   rw [Z5k (Zb5 _)]
theorem Z1du {l : List Cd} (h : CdsB l) (hs : Shape (nds l)) (cp : Option Nat) (d : Nat) : Z3d [.agg [.list l.length cp (cdsC l)], .v (.int .i64 (d : Int))] = some (.list (inI (stays (nds l) d) l.length).length none (ints (inI (stays (nds l) d) l.length))) := by
 show Zpm M l.length cp (cdsC l) (d : Int) = _
 unfold Zpm
 have hB := h.len
 exact Z1kk h hs cp d M 0 (by unfold M; omega) (by omega)
end Go.Ev