/-
  The reference's depths, children, and deletions.
-/
import Derived.Test.YtkefahdbckjajaaGreatDoorEzU0
import Derived.Test.YtkefahdbckjajaaGreatDoorEzG5
set_option linter.unusedSimpArgs false
set_option linter.unusedVariables false
set_option maxRecDepth 100000
namespace Go.Ev
open Go

/-- The first nodes have parents before them. -/
def Pt (l : List Cd) (n : Nat) : Prop := ∀ j (h : j < l.length), 0 < j → j < n → 0 ≤ l[j].n.par ∧ l[j].n.par < (j : Int)
theorem Pt.of {l : List Cd} (h : Shape (nds l)) (n : Nat) : Pt l n := fun j hj h0 _ => by
  have := h.par (i := j) (by rw [nds_len]; exact hj) h0
  rw [nds_getE hj] at this; omega
theorem Pt.to {l : List Cd} {n : Nat} (h : Pt l n) : To (nds l) n := fun j h0 hj => by
  by_cases hl : j < l.length
  · have := h j hl h0 hj
    rw [parN_nds hl]; omega
  · unfold parN
    rw [List.getElem?_eq_none (by rw [nds_len]; omega)]; exact h0
theorem Pt.parN {l : List Cd} {n : Nat} (h : Pt l n) {j : Nat} (hl : j < l.length) (h0 : 0 < j) (hj : j < n) : l[j].n.par = (parN (nds l) j : Int) ∧ Go.Ev.parN (nds l) j < j := by
  have := h j hl h0 hj
  rw [parN_nds hl]; omega
theorem rdep_loop {m n : Nat} {l : List Cd} (h : CdsB l) (hp : Pt l n) (cp : Option Nat) : ∀ (c i d : Nat), i < c → i < n → i < l.length → d + i < 1000000 →
    Zem m c (i : Int) (d : Int) l.length cp (cdsC l) = some (.v (.int .i64 ((d + dep (nds l) i : Nat) : Int)))
  | 0, i, d, hc, hn, hi, hd => by omega
  | c + 1, i, d, hc, hn, hi, hd => by
    rw [Zr3]
    simp only [Int.toNat_natCast]
    by_cases h0 : 0 < i
    · have hpp := hp.parN hi h0 hn
      refine st_cT (decide_eq_true (by omega)) ?_
      refine st_if (by omega) ?_
      refine st_bind (cdsC_par' h.ok hi) ?_
      refine st_cF (decide_eq_false (by omega)) ?_
      refine st_if (by omega) ?_
      refine st_bind (cdsC_par' h.ok hi) ?_
      refine st_cF (decide_eq_false (by omega)) ?_
      rw [Zqe]
      simp only [Int.toNat_natCast]
      refine st_if (by omega) ?_
      refine st_bind (cdsC_par' h.ok hi) ?_
      rw [hpp.1, wrap_succ (by omega), rdep_loop h hp cp c (parN (nds l) i) (d + 1) (by omega) (by omega) (by omega) (by omega), dep_to hp.to hn h0]
      rw [show d + (dep (nds l) (parN (nds l) i) + 1) = d + 1 + dep (nds l) (parN (nds l) i) by omega]
    · obtain rfl : i = 0 := by omega
      refine st_cF (decide_eq_false (by omega)) ?_
      rw [dep_zero]; rfl
theorem Zte {n : Nat} {l : List Cd} (h : CdsB l) (hp : Pt l n) (cp : Option Nat) {i : Nat} (hi : i < l.length) (hn : i < n) : Z4n [.agg [.list l.length cp (cdsC l)], .v (.int .i64 (i : Int))] = some (.v (.int .i64 (dep (nds l) i : Int))) := by
  show Zi0 M l.length cp (cdsC l) (i : Int) = _
  unfold Zi0
  have hB := h.len
  have := rdep_loop (m := M) h hp cp M i 0 (by unfold M; omega) hn hi (by omega)
  rw [Nat.zero_add] at this
  exact this
theorem Zve {l : List Cd} (h : CdsB l) (hs : Shape (nds l)) (cp : Option Nat) {i : Nat} (hi : i < l.length) : Z4n [.agg [.list l.length cp (cdsC l)], .v (.int .i64 (i : Int))] = some (.v (.int .i64 (dep (nds l) i : Int))) :=
  Zte h (Pt.of hs (i + 1)) cp hi (by omega)

/-! ### Children -/
def parI (N : List Nd) (i : Nat) : Int := match N[i]? with
  | none => -1
  | some n => n.par
theorem parI_nds {l : List Cd} {i : Nat} (h : i < l.length) : parI (nds l) i = l[i].n.par := by unfold parI; rw [nds_get h]
def chF (N : List Nd) (p : Int) (j : Nat) : Bool := decide (parI N j = p)
theorem rchild_loop {m : Nat} {l : List Cd} (h : CdsB l) (cp : Option Nat) (p : Int) : ∀ (c i : Nat), l.length - i < c → i ≤ l.length →
    Z5f m c p ((inI (chF (nds l) p) i).length) (i : Int) l.length cp (cdsC l) ((inI (chF (nds l) p) i).length * 1) (ints (inI (chF (nds l) p) i)) =
    some (.list (inI (chF (nds l) p) l.length).length none (ints (inI (chF (nds l) p) l.length)))
  | 0, i, hc, hi => by omega
  | c + 1, i, hc, hi => by
    have hB := h.len
    have hil := inI_len (chF (nds l) p) i
    rw [Zo2]
    simp only [Int.toNat_natCast, Nat.mul_one]
    by_cases hlt : i < l.length
    · have ih := rchild_loop (m := m) h cp p c (i + 1) (by omega) (by omega)
      rw [inI_succ] at ih
      simp only [Nat.mul_one] at ih
      refine st_cT (decide_eq_true (by omega)) ?_
      refine st_if (by omega) ?_
      refine st_bind (cdsC_par' h.ok hlt) ?_
      by_cases hp : l[i].n.par = p
      · have hc : chF (nds l) p i = true := by unfold chF; rw [parI_nds hlt]; exact decide_eq_true hp
        refine st_cT (i_eq hp) ?_
        refine st_if ⟨rfl, by first | rfl | trivial, by constructor <;> omega, by first | rfl | trivial⟩ ?_
        rw [Zni, wrap_succ (by omega)]
        rw [if_pos hc, List.length_append, List.length_singleton, ints_append, ints_one] at ih
        exact ih
      · have hc : ¬ chF (nds l) p i = true := by unfold chF; rw [parI_nds hlt, decide_eq_false hp]; decide
        refine st_cF (i_ne hp) ?_
        rw [Zld, wrap_succ (by omega)]
        rw [if_neg hc] at ih
        exact ih
    · obtain rfl : i = l.length := by omega
      refine st_cF (decide_eq_false (by omega)) ?_
      refine st_if (by omega) ?_
      rw [cutL_all (ints_len _)]
theorem Zuy {l : List Cd} (h : CdsB l) (cp : Option Nat) (p : Int) : Z6f [.agg [.list l.length cp (cdsC l)], .v (.int .i64 p)] = some (.list (inI (chF (nds l) p) l.length).length none (ints (inI (chF (nds l) p) l.length))) := by
  show Zcg M l.length cp (cdsC l) p = _
  unfold Zcg
  have hB := h.len
  exact rchild_loop h cp p M 0 (by unfold M; omega) (by omega)
theorem inI_nil {A : Nat → Bool} {n : Nat} : (inI A n).length = 0 ↔ ∀ i, i < n → A i = false := by
  unfold inI
  rw [List.length_map, List.length_eq_zero_iff, List.filter_eq_nil_iff]
  constructor
  · intro h i hi
    have := h i (List.mem_range.2 hi)
    cases ha : A i with
    | false => rfl
    | true => exact absurd ha this
  · intro h i hi
    rw [h i (List.mem_range.1 hi)]; decide
theorem chF_kid {N : List Nd} (hs : Shape N) {q : Nat} (hq : q < N.length) : ((inI (chF N (q : Int)) N.length).length = 0) ↔ kid N tt q = false := by
  rw [inI_nil]
  constructor
  · intro h
    cases hk : kid N tt q with
    | false => rfl
    | true =>
      obtain ⟨k, h1, h2, _, h4⟩ := kid_iff.1 hk
      have := h k h1
      unfold chF parI at this
      rw [List.getElem?_eq_getElem h1] at this
      have hp := hs.par h1 h2
      exact absurd (of_decide_eq_false this) (by simp; omega)
  · intro h k hk
    unfold chF parI
    rw [List.getElem?_eq_getElem hk]
    refine decide_eq_false fun e => ?_
    dsimp only at e
    by_cases h0 : 0 < k
    · have hp := hs.par hk h0
      rw [kid_iff.2 ⟨k, hk, h0, rfl, by omega⟩] at h; cases h
    · obtain rfl : k = 0 := by omega
      have := hs.root _ (List.getElem?_eq_getElem hk)
      omega
theorem rless_loop {m : Nat} {l : List Cd} (h : CdsB l) (hs : Shape (nds l)) (cp : Option Nat) (d : Nat) : ∀ (c i : Nat), l.length - i < c → i ≤ l.length →
    Z4y m c (d : Int) ((clI (nds l) tt d i).length) (i : Int) l.length cp (cdsC l) ((clI (nds l) tt d i).length * 1) (ints (clI (nds l) tt d i)) =
    some (.list (clI (nds l) tt d l.length).length none (ints (clI (nds l) tt d l.length)))
  | 0, i, hc, hi => by omega
  | c + 1, i, hc, hi => by
    have hB := h.len
    have hil := clI_len (nds l) tt d i
    rw [Znr]
    simp only [Int.toNat_natCast, Nat.mul_one]
    by_cases hlt : i < l.length
    · have hn : i < (nds l).length := by rw [nds_len]; exact hlt
      have hck := chF_kid hs hn
      rw [nds_len] at hck
      have ih := rless_loop (m := m) h hs cp d c (i + 1) (by omega) (by omega)
      rw [clI_succ] at ih
      simp only [Nat.mul_one] at ih
      refine st_cT (decide_eq_true (by omega)) ?_
      refine st_bind (Zve h hs cp hlt) ?_
      refine st_bind (rdI_v _ _) ?_
      by_cases hd : dep (nds l) i < d
      · refine st_cT (decide_eq_true (by omega)) ?_
        refine st_bind (Zuy h cp _) ?_
        refine st_bind (rdL_v _ _ _) ?_
        by_cases hk : kid (nds l) tt i = false
        · have hc : chl (nds l) tt d i = true := by unfold chl; rw [hk, decide_eq_true hd]; rfl
          refine st_cT (i_eq (by have := hck.2 hk; dsimp only; omega)) ?_
          refine st_if ⟨rfl, by first | rfl | trivial, by constructor <;> omega, by first | rfl | trivial⟩ ?_
          rw [Zmh, wrap_succ (by omega)]
          rw [if_pos hc, List.length_append, List.length_singleton, ints_append, ints_one] at ih
          exact ih
        · have hc : ¬ chl (nds l) tt d i = true := by
            unfold chl
            cases hq : kid (nds l) tt i with
            | false => exact absurd hq hk
            | true => simp
          refine st_cF (i_ne (fun e => hk (hck.1 (by dsimp only at e; omega)))) ?_
          rw [Zdg, wrap_succ (by omega)]
          rw [if_neg hc] at ih
          exact ih
      · have hc : ¬ chl (nds l) tt d i = true := by unfold chl; rw [decide_eq_false hd]; simp
        refine st_cF (decide_eq_false (by omega)) ?_
        rw [Zdg, wrap_succ (by omega)]
        rw [if_neg hc] at ih
        exact ih
    · obtain rfl : i = l.length := by omega
      refine st_cF (decide_eq_false (by omega)) ?_
      refine st_if (by omega) ?_
      rw [cutL_all (ints_len _)]
theorem Zub {l : List Cd} (h : CdsB l) (hs : Shape (nds l)) (cp : Option Nat) (d : Nat) : Z18 [.agg [.list l.length cp (cdsC l)], .v (.int .i64 (d : Int))] = some (.list (clI (nds l) tt d l.length).length none (ints (clI (nds l) tt d l.length))) := by
  show Zb8 M l.length cp (cdsC l) (d : Int) = _
  unfold Zb8
  have hB := h.len
  exact rless_loop h hs cp d M 0 (by unfold M; omega) (by omega)

section
variable {l : List Cd} {at_ : List Int}
end
end Go.Ev
