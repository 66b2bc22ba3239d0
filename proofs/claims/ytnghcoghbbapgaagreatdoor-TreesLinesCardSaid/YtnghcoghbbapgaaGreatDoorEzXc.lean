/-
 A tree that is made of some nodes of another one, and one more of them.
-/
import Derived.Test.YtnghcoghbbapgaaGreatDoorEzXa
import Derived.Test.YtnghcoghbbapgaaGreatDoorEzXE
set_option linter.unusedSimpArgs false
set_option linter.unusedVariables false
namespace Go.Ev
open Go
def ins (D : Nat → Bool) (i : Nat) : Nat → Bool := fun j => D j || decide (j = i)
theorem rk_ins {D : Nat → Bool} {i : Nat} (hi : D i = false) : ∀ n, rk (ins D i) n = rk D n + (if i < n then 1 else 0)
 | 0 => by simp [rk]
 | n + 1 => by
  rw [rk, rk, rk_ins hi n]
  by_cases h : n = i
  ·subst h
   have e : ins D n n = true := by simp [ins]
   rw [e, hi, if_neg (show ¬ n < n by omega), if_pos (show n < n + 1 by omega)]; rfl
  ·have e : ins D i n = D n := by simp [ins, h]
   rw [e]
   by_cases h2 : i < n
   ·rw [if_pos h2, if_pos (show i < n + 1 by omega)]; omega
   ·rw [if_neg h2, if_neg (show ¬ i < n + 1 by omega)]; omega
section
variable {N : List Nd} (ht : Tree N) {D : Nat → Bool} (hu : Up N D) {i : Nat} (hi : i < N.length) (hD : D i = false) (hp : 0 < i → D (parN N i) = true)
include ht hu hi hD hp
theorem Z26k : Up N (ins D i) := fun j hj h0 ha => by
 have _ := ht
 unfold ins at ha ⊢
 simp only [Bool.or_eq_true, decide_eq_true_eq] at ha
 rcases ha with ha | rfl
 ·rw [hu j hj h0 ha]; rfl
 ·rw [hp h0]; rfl
theorem Z26h (h0 : 0 < i) : D 0 = true := by
 have _ := hD
 exact hu.root ht.valid.shape _ (by have := (ht.valid.shape.par hi h0).2; omega) (hp h0)
theorem Z269 (h0 : i = 0) : ∀ j, j < N.length → D j = false := fun j hj => by
 have _ := hi
 have _ := hp
 cases ha : D j with
 | false => rfl
 | true =>
  have := hu.root ht.valid.shape j hj ha
  rw [← h0, hD] at this; cases this
theorem mv_par {A : Nat → Bool} {k : Nat} (hk : k < N.length) : (mv N A N[k]).par = if k = 0 then -1 else (rk A (parN N k) : Int) := by
 have _ := hu
 have _ := hi
 have _ := hD
 have _ := hp
 unfold mv
 dsimp only
 by_cases h0 : k = 0
 ·subst h0
  have := ht.valid.shape.root _ (List.getElem?_eq_getElem hk)
  rw [if_pos (by omega), if_pos rfl, this]
 ·have hpp := ht.valid.shape.par hk (by omega)
  have e : parN N k = N[k].par.toNat := by unfold parN; rw [List.getElem?_eq_getElem hk]
  rw [if_neg h0, e]
  unfold parN at hpp
  rw [List.getElem?_eq_getElem hk] at hpp
  dsimp only at hpp
  rw [if_neg (by omega)]
theorem Z26a {k : Nat} (hk : k < N.length) (hDk : D k = true) (hki : k < i) (h0 : 0 < k) : behind (mv N D N[i]) (mv N D N[k]) = false := by
 have hkey := ht.valid.keys h0 i hi hki
 have p1 := mv_par ht hu hi hD hp (A := D) hk
 have p2 := mv_par ht hu hi hD hp (A := D) hi
 rw [if_neg (by omega)] at p1 p2
 unfold behind
 rw [p1, p2]
 have e1 : (mv N D N[k]).pol = N[k].pol := rfl
 have e2 : (mv N D N[i]).pol = N[i].pol := rfl
 rw [e1, e2]
 have q1 := ht.valid.shape.par hk h0
 have q2 := ht.valid.shape.par hi (by omega)
 have d1 := hu k hk h0 hDk
 have d2 := hp (by omega)
 unfold keyLt at hkey
 have e3 : parN N k = N[k].par.toNat := by unfold parN; rw [List.getElem?_eq_getElem hk]
 have e4 : parN N i = N[i].par.toNat := by unfold parN; rw [List.getElem?_eq_getElem hi]
 simp only [Bool.or_eq_false_iff, Bool.and_eq_false_iff, decide_eq_false_iff_not]
 have iff := Z1v0 (A := D) d2 d1
 rcases hkey with hk1 | ⟨hk1, hk2⟩
 ·have hlt : parN N k < parN N i := by
   unfold parN at q1 q2
   rw [List.getElem?_eq_getElem hk] at q1
   rw [List.getElem?_eq_getElem hi] at q2
   dsimp only at q1 q2
   omega
  have := rk_lt (A := D) hlt d1
  exact ⟨by omega, .inl (by omega)⟩
 ·have heq : parN N k = parN N i := by rw [e3, e4, hk1]
  rw [heq]
  exact ⟨by omega, .inr (by omega)⟩
theorem Z26b {k : Nat} (hk : k < N.length) (hDk : D k = true) (hki : i < k) (h0 : 0 < i) : behind (mv N D N[i]) (mv N D N[k]) = true := by
 have hkey := ht.valid.keys h0 k hk hki
 have p1 := mv_par ht hu hi hD hp (A := D) hk
 have p2 := mv_par ht hu hi hD hp (A := D) hi
 rw [if_neg (by omega)] at p1 p2
 unfold behind
 rw [p1, p2]
 have e1 : (mv N D N[k]).pol = N[k].pol := rfl
 have e2 : (mv N D N[i]).pol = N[i].pol := rfl
 rw [e1, e2]
 have q1 := ht.valid.shape.par hk (by omega)
 have q2 := ht.valid.shape.par hi h0
 have d1 := hu k hk (by omega) hDk
 have d2 := hp h0
 unfold keyLt at hkey
 have e3 : parN N k = N[k].par.toNat := by unfold parN; rw [List.getElem?_eq_getElem hk]
 have e4 : parN N i = N[i].par.toNat := by unfold parN; rw [List.getElem?_eq_getElem hi]
 simp only [Bool.or_eq_true, Bool.and_eq_true, decide_eq_true_eq]
 rcases hkey with hk1 | ⟨hk1, hk2⟩
 ·have hlt : parN N i < parN N k := by
   unfold parN at q1 q2
   rw [List.getElem?_eq_getElem hk] at q1
   rw [List.getElem?_eq_getElem hi] at q2
   dsimp only at q1 q2
   omega
  have := rk_lt (A := D) hlt d2
  exact .inl (by omega)
 ·have heq : parN N i = parN N k := by rw [e3, e4, hk1]
  have := Oid.cmp_swap N[i].pol N[k].pol
  rw [heq]
  exact .inr ⟨rfl, by omega⟩
theorem Z26l : insAt (left N D) (mv N D N[i]) = rk D i := by
 have hle := Zo8 (left N D) (mv N D N[i])
 have hL := Z78 N D
 by_cases h0 : i = 0
 ·have : rk D N.length = rk (fun _ => false) N.length := Z1xr (Z269 ht hu hi hD hp h0)
  have h2 : ∀ n, rk (fun _ => false) n = 0 := fun n => by
   induction n with
   | zero => rfl
   | succ n ih => rw [rk, ih]; rfl
  rw [h2] at this
  subst h0
  show _ = 0
  omega
 ·have hroot := Z26h ht hu hi hD hp (by omega)
  rcases Nat.lt_trichotomy (insAt (left N D) (mv N D N[i])) (rk D i) with hh | hh | hh
  ·have hmono := Z1wl (A := D) (show i ≤ N.length by omega)
   obtain ⟨hz, hb⟩ := Z1ku (l := left N D) (n := mv N D N[i]) (by omega)
   obtain ⟨k, hk, hDk, hr⟩ := Z10j (A := D) (n := i) hh
   have hg := Zh2 (A := D) (show k < N.length by omega) hDk
   rw [hr, List.getElem?_eq_getElem (by omega)] at hg
   rw [Option.some.inj hg] at hb
   have hk0 : 0 < k := Nat.pos_of_ne_zero fun e => by subst e; have : rk D 0 = 0 := rfl; omega
   rw [Z26a ht hu hi hD hp (by omega) hDk hk hk0] at hb
   cases hb
  ·exact hh
  ·have ha0 : 0 < rk D i := by
    have := rk_lt (A := D) (show 0 < i by omega) hroot
    have e : rk D 0 = 0 := rfl
    omega
   obtain ⟨k, hk, hDk, hr⟩ := Z10j (A := D) (n := N.length) (j := rk D i) (by omega)
   have hki : i < k := by
    refine Nat.lt_of_not_le fun hle => ?_
    by_cases e : k = i
    ·subst e; rw [hD] at hDk; cases hDk
    ·have := rk_lt (A := D) (show k < i by omega) hDk
     omega
   have hb := Z184 (l := left N D) (n := mv N D N[i]) (j := rk D i) hh ha0 (by omega)
   have hg := Zh2 (A := D) hk hDk
   rw [hr, List.getElem?_eq_getElem (by omega)] at hg
   rw [Option.some.inj hg, Z26b ht hu hi hD hp hk hDk hki (by omega)] at hb
   cases hb
theorem add_back : addN (left N D) (mv N D N[i]) = left N (ins D i) := by
 have hL := Z78 N D
 have hL2 := Z78 N (ins D i)
 have hri := rk_ins hD N.length
 rw [if_pos hi] at hri
 have hat := Z26l ht hu hi hD hp
 have hmono := Z1wl (A := D) (show i ≤ N.length by omega)
 refine Z6r (by rw [addN_len]; omega) fun m hm => ?_
 rw [addN_len] at hm
 obtain ⟨k, hk, hDk, hr⟩ := Z10j (A := ins D i) (n := N.length) (j := m) (by omega)
 have hg := Zh2 (A := ins D i) hk hDk
 rw [hr] at hg
 rw [hg]
 have hrk := rk_ins hD k
 by_cases hki : k = i
 ·subst hki
  rw [if_neg (by omega)] at hrk
  have e : m = insAt (left N D) (mv N D N[k]) := by omega
  rw [e, addN_at]
  congr 1
  refine (Nd.eq_iff _ _).2 ⟨?_, rfl, rfl, rfl⟩
  rw [mv_par ht hu hi hD hp hk, mv_par ht hu hi hD hp hk]
  by_cases h0 : k = 0
  ·rw [if_pos h0, if_pos h0]
  ·have := (ht.valid.shape.par hk (by omega)).2
   rw [if_neg h0, if_neg h0, rk_ins hD, if_neg (by omega)]; rfl
 ·have hDk' : D k = true := by
   unfold ins at hDk
   simp only [Bool.or_eq_true, decide_eq_true_eq] at hDk
   exact hDk.resolve_right hki
  have hlt : rk D k < (left N D).length := by rw [hL]; exact rk_lt hk hDk'
  have hnw : m = nw (insAt (left N D) (mv N D N[i])) (rk D k) := by
   rw [hat]
   unfold nw
   by_cases q : i < k
   ·have := Z1wl (A := D) (show i ≤ k by omega)
    rw [if_pos q] at hrk
    rw [if_neg (by omega)]; omega
   ·have := rk_lt (A := D) (show k < i by omega) hDk'
    rw [if_neg q] at hrk
    rw [if_pos this]; omega
  rw [hnw, Z1wm hlt]
  have hg2 := Zh2 (A := D) hk hDk'
  rw [List.getElem?_eq_getElem hlt] at hg2
  rw [Option.some.inj hg2, hat]
  congr 1
  refine (Nd.eq_iff _ _).2 ⟨?_, rfl, rfl, rfl⟩
  unfold sh
  dsimp only
  rw [mv_par ht hu hi hD hp hk, mv_par ht hu hi hD hp hk]
  by_cases h0 : k = 0
  ·rw [if_pos h0, if_pos h0, if_neg (by omega)]
  ·have hpk := (ht.valid.shape.par hk (by omega)).2
   have hdp := hu k hk (by omega) hDk'
   rw [if_neg h0, if_neg h0, rk_ins hD]
   by_cases q : i < parN N k
   ·have := Z1wl (A := D) (show i ≤ parN N k by omega)
    rw [if_pos q, if_pos (by omega)]; rfl
   ·have hne : parN N k ≠ i := fun e => by rw [e, hD] at hdp; cases hdp
    have := rk_lt (A := D) (show parN N k < i by omega) hdp
    rw [if_neg q, if_neg (by omega)]; rfl
theorem add_back_ok : addE (left N D) (mv N D N[i]) = 0 := by
 have hL := Z78 N D
 have hp2 := mv_par ht hu hi hD hp (A := D) hi
 have hri := rk_ins hD N.length
 rw [if_pos hi] at hri
 have hmax := rk_le (ins D i) N.length
 have hlen := ht.valid.len
 unfold addE
 have hpos : 0 < i → 0 < rk D N.length ∧ rk D (parN N i) < rk D N.length := fun h0 => by
  have hpi := (ht.valid.shape.par hi h0).2
  have := rk_lt (A := D) (show parN N i < N.length by omega) (hp h0)
  omega
 have hzero : i = 0 → rk D N.length = 0 := fun h0 => by
  have : rk D N.length = rk (fun _ => false) N.length := Z1xr (Z269 ht hu hi hD hp h0)
  have h2 : ∀ n, rk (fun _ => false) n = 0 := fun n => by
   induction n with
   | zero => rfl
   | succ n ih => rw [rk, ih]; rfl
  rw [h2] at this; exact this
 rw [if_neg (by
  rw [hp2, hL]
  by_cases h0 : i = 0
  ·rw [if_pos h0, hzero h0]; omega
  ·have := hpos (by omega)
   rw [if_neg h0]; omega)]
 rw [if_neg (by
  intro hc
  obtain ⟨x, hx, he⟩ := List.any_eq_true.1 hc
  simp only [Bool.and_eq_true, decide_eq_true_eq] at he
  obtain ⟨j, hj, rfl⟩ := List.getElem_of_mem hx
  rw [hL] at hj
  obtain ⟨k, hk, hDk, hr⟩ := Z10j (A := D) (n := N.length) hj
  have hg := Zh2 (A := D) hk hDk
  rw [hr, List.getElem?_eq_getElem (by omega)] at hg
  rw [Option.some.inj hg, hp2, mv_par ht hu hi hD hp hk] at he
  have hpol : N[k].pol = N[i].pol := he.2
  by_cases h0 : i = 0
  ·have := hzero h0; omega
  ·rw [if_neg h0] at he
   by_cases hk0 : k = 0
   ·rw [if_pos hk0] at he; omega
   ·rw [if_neg hk0] at he
    have e := rk_inj (A := D) (hu k hk (by omega) hDk) (hp (by omega)) (by omega)
    have q1 := ht.valid.shape.par hk (by omega)
    have q2 := ht.valid.shape.par hi (by omega)
    have hpar : N[k].par = N[i].par := by
     unfold parN at e q1 q2
     rw [List.getElem?_eq_getElem hk] at e q1
     rw [List.getElem?_eq_getElem hi] at e q2
     dsimp only at e q1 q2
     omega
    have := ht.valid.uniq hk hi (by rw [Zvm hk, Zvm hi, hpar]) (by rw [Z1l1 hk, Z1l1 hi, hpol])
    subst this
    rw [hD] at hDk; cases hDk)]
 rw [if_neg (by omega)]
 rw [if_neg (by
  rintro ⟨h1, h2⟩
  rw [hp2] at h1 h2
  by_cases h0 : i = 0
  ·rw [if_pos h0] at h1; omega
  ·rw [if_neg h0] at h2
   have hpi := (ht.valid.shape.par hi (by omega)).2
   rw [Int.toNat_natCast, left_dep ht.valid.shape hu _ (by omega) (hp (by omega))] at h2
   have := Z1cl ht.valid.shape hi (by omega)
   have := ht.valid.dep i hi
   omega)]
 exact (show ndE (mv N D N[i]) = ndE N[i] from rfl).trans (ht.valid.nd _ (List.getElem_mem hi))
end
def mayF (N : List Nd) (D : Nat → Bool) (j : Nat) : Bool := !D j && (decide (j = 0) || D (parN N j))
theorem Z26c {N : List Nd} (h : Shape N) {D : Nat → Bool} (hlt : rk D N.length < N.length) : 0 < ((List.range N.length).filter (mayF N D)).length := by
 refine Nat.pos_of_ne_zero fun e => ?_
 have hn := List.filter_eq_nil_iff.1 (List.length_eq_zero_iff.1 e)
 have all : ∀ j, j < N.length → D j = true := fun j => by
  induction j using Nat.strongRecOn with
  | _ j ih =>
   intro hj
   have := hn j (List.mem_range.2 hj)
   unfold mayF at this
   cases hd : D j with
   | true => rfl
   | false =>
    rw [hd] at this
    by_cases h0 : j = 0
    ·rw [decide_eq_true h0] at this; exact absurd rfl this
    ·have hp := (h.par hj (by omega)).2
     rw [ih _ hp (by omega), decide_eq_false h0] at this; exact absurd rfl this
 have e2 : rk D N.length = rk (fun _ => true) N.length := Z1xr all
 have e3 : ∀ n, rk (fun _ => true) n = n := fun n => by
  induction n with
  | zero => rfl
  | succ n ih => rw [rk, ih]; rfl
 rw [e3] at e2
 omega
theorem Z26i {N : List Nd} {D : Nat → Bool} (he : rk D N.length = N.length) : ∀ j, j < N.length → D j = true := fun j hj => by
 cases hd : D j with
 | true => rfl
 | false =>
  have := rk_ins hd N.length
  have hle := rk_le (ins D j) N.length
  rw [if_pos hj] at this
  omega
end Go.Ev