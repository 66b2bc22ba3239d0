/-
 Trees: a node's line leads to it, step by step.
-/
import Derived.Test.YtnghcoghbbapgaaGreatDoorEzXH
set_option linter.unusedSimpArgs false
set_option linter.unusedVariables false
set_option maxRecDepth 100000
namespace Go.Ev
open Go
def parZ (l : List Nd) (i : Nat) : Int := match l[i]? with
 | none => 0
 | some n => n.par
theorem Zvm {l : List Nd} {i : Nat} (h : i < l.length) : parZ l i = l[i].par := by unfold parZ; rw [List.getElem?_eq_getElem h]
theorem Z1l1 {l : List Nd} {i : Nat} (h : i < l.length) : polN' l i = l[i].pol := by unfold polN'; rw [List.getElem?_eq_getElem h]
theorem Z1wx {a b c : Nd} (h1 : keyLt a b) (h2 : keyLt b c) : keyLt a c := by
 rcases h1 with h1 | ⟨e1, h1⟩ <;> rcases h2 with h2 | ⟨e2, h2⟩
 ·exact .inl (by omega)
 ·exact .inl (by omega)
 ·exact .inl (by omega)
 ·exact .inr ⟨by omega, Oid.cmp_lt_trans h1 h2⟩
theorem Valid.keys {l : List Nd} (h : Valid l) {i : Nat} (h0 : 0 < i) : ∀ j (hj : j < l.length) (hij : i < j), keyLt (l[i]'(by omega)) l[j]
 | 0, _, hij => by omega
 | j + 1, hj, hij => by
  by_cases e : i = j
  ·subst e; exact h.key i hj h0
  ·exact Z1wx (h.keys h0 j (by omega) (by omega)) (h.key j hj (by omega))
theorem Z1y3 {a b : Nd} (h : keyLt a b) : ¬ (a.par = b.par ∧ a.pol = b.pol) := fun ⟨e1, e2⟩ => by
 rcases h with h | ⟨_, h⟩
 ·omega
 ·rw [e2, Oid.cmp_self] at h; omega
theorem Z1l2 {l : List Nd} (h : Shape l) {i : Nat} (hi : i < l.length) : parZ l i < 0 ↔ i = 0 := by
 rw [Zvm hi]
 by_cases h0 : i = 0
 ·subst h0
  have := h.root _ (List.getElem?_eq_getElem hi)
  exact ⟨fun _ => rfl, fun _ => by omega⟩
 ·have := h.par hi (by omega)
  exact ⟨fun q => by omega, fun q => absurd q h0⟩
theorem Valid.uniq {l : List Nd} (h : Valid l) {i j : Nat} (hi : i < l.length) (hj : j < l.length) (hp : parZ l i = parZ l j) (ho : polN' l i = polN' l j) : i = j := by
 have r1 := Z1l2 h.shape hi
 have r2 := Z1l2 h.shape hj
 rw [hp] at r1
 by_cases h0 : i = 0
 ·exact h0.trans (r2.1 (r1.2 h0)).symm
 ·have h0' : j ≠ 0 := fun e => h0 (r1.1 (r2.2 e))
  rw [Zvm hi, Zvm hj] at hp
  rw [Z1l1 hi, Z1l1 hj] at ho
  rcases Nat.lt_trichotomy i j with hl | hl | hl
  ·exact absurd ⟨hp, ho⟩ (Z1y3 (h.keys (by omega) j hj hl))
  ·exact hl
  ·exact absurd ⟨hp.symm, ho.symm⟩ (Z1y3 (h.keys (by omega) i hi hl))
def kidF (l : List Nd) (p : Int) (o : Oid) : Nat → Nat → Option Nat
 | 0, _ => none
 | f + 1, i => if parZ l i = p ∧ polN' l i = o then some i else kidF l p o f (i + 1)
theorem Z1n7 {l : List Nd} {p : Int} {o : Oid} : ∀ {f i j : Nat}, kidF l p o f i = some j → i ≤ j ∧ j < i + f ∧ parZ l j = p ∧ polN' l j = o
 | 0, i, j, h => by cases h
 | f + 1, i, j, h => by
  unfold kidF at h
  split at h
  ·rename_i hc; cases h; exact ⟨Nat.le_refl _, by omega, hc.1, hc.2⟩
  ·obtain ⟨h1, h2, h3⟩ := Z1n7 h
   exact ⟨by omega, by omega, h3⟩
theorem Z1n8 {l : List Nd} {p : Int} {o : Oid} : ∀ {f i : Nat}, kidF l p o f i = none → ∀ j, i ≤ j → j < i + f → ¬ (parZ l j = p ∧ polN' l j = o)
 | 0, i, h, j, h1, h2 => by omega
 | f + 1, i, h, j, h1, h2 => by
  unfold kidF at h
  split at h
  ·cases h
  ·rename_i hc
   by_cases e : j = i
   ·rw [e]; exact hc
   ·exact Z1n8 h j (by omega) (by omega)
def kidO (l : List Nd) (p : Int) (o : Oid) : Option Nat := kidF l p o l.length 0
theorem Z1n9 {l : List Nd} {p : Int} {o : Oid} {j : Nat} (h : kidO l p o = some j) : j < l.length ∧ parZ l j = p ∧ polN' l j = o := by
 obtain ⟨_, h2, h3⟩ := Z1n7 h
 exact ⟨by omega, h3⟩
theorem Z23o {l : List Nd} (h : Valid l) {j : Nat} (hj : j < l.length) : kidO l (parZ l j) (polN' l j) = some j := by
 cases hk : kidO l (parZ l j) (polN' l j) with
 | none => exact absurd ⟨rfl, rfl⟩ (Z1n8 hk j (by omega) (by omega))
 | some k =>
  obtain ⟨h1, h2, h3⟩ := Z1n9 hk
  rw [h.uniq h1 hj h2 h3]
def walk (l : List Nd) : Int → List Oid → Option Int
 | at_, [] => some at_
 | at_, p :: ps => match kidO l at_ p with
  | none => none
  | some j => walk l (j : Int) ps
theorem Z1na {l : List Nd} {p : Oid} : ∀ {xs : List Oid} {at_ : Int}, walk l at_ (xs ++ [p]) = match walk l at_ xs with | none => none | some a => (kidO l a p).map fun j => ((j : Nat) : Int)
 | [], at_ => by
  simp only [List.nil_append, walk]
  cases kidO l at_ p <;> rfl
 | x :: xs, at_ => by
  simp only [List.cons_append, walk]
  cases kidO l at_ x with
  | none => rfl
  | some j => exact Z1na
def lineI (l : List Nd) (at_ : Int) : List Oid := if at_ < 0 then [] else line l at_.toNat
theorem Z1vi {l : List Nd} (h : Shape l) : ∀ {ps : List Oid} {at_ r : Int}, (at_ = -1 ∨ 0 ≤ at_ ∧ at_ < (l.length : Int)) → walk l at_ ps = some r → (r = -1 ∨ 0 ≤ r ∧ r < (l.length : Int)) ∧ lineI l r = lineI l at_ ++ ps
 | [], at_, r, ha, hw => by cases hw; exact ⟨ha, by simp⟩
 | p :: ps, at_, r, ha, hw => by
  unfold walk at hw
  cases hk : kidO l at_ p with
  | none => rw [hk] at hw; cases hw
  | some j =>
   rw [hk] at hw
   obtain ⟨hj, hp, ho⟩ := Z1n9 hk
   obtain ⟨h1, h2⟩ := Z1vi h (at_ := (j : Int)) (.inr ⟨by omega, by omega⟩) hw
   refine ⟨h1, ?_⟩
   rw [h2]
   have e : lineI l (j : Int) = lineI l at_ ++ [p] := by
    unfold lineI
    rw [if_neg (by omega), Int.toNat_natCast]
    by_cases h0 : j = 0
    ·subst h0
     have := (Z1l2 h hj).2 rfl
     rw [if_pos (by omega), Z121, ho]; rfl
    ·have hr := Z1l2 h hj
     have hpj := h.par hj (by omega)
     rw [Zvm hj] at hp hr
     rw [if_neg (by omega), Z141 h hj (by omega), ho]
     congr 2
     omega
   rw [e]; simp
theorem Z20u {l : List Nd} (h : Valid l) : ∀ j, j < l.length → walk l (-1) (line l j) = some (j : Int) := fun j => by
 induction j using Nat.strongRecOn with
 | _ j ih =>
  intro hj
  have hk := Z23o h hj
  by_cases h0 : j = 0
  ·subst h0
   have hr : parZ l 0 = -1 := by rw [Zvm hj]; exact h.shape.root _ (List.getElem?_eq_getElem hj)
   rw [Z121]
   unfold walk
   rw [← hr, hk]
   rfl
  ·have hp := h.shape.par hj (by omega)
   rw [Z141 h.shape hj (by omega), Z1na, ih _ hp.2 (by omega)]
   rw [Zvm hj, hp.1] at hk
   simp only [hk, Option.map_some]
theorem Z1t9 {l : List Nd} {ps : List Oid} : ∀ {f i : Nat}, (findL l ps f i = -1 ∧ ∀ j, i ≤ j → j < i + f → line l j ≠ ps) ∨ ∃ j : Nat, findL l ps f i = (j : Int) ∧ i ≤ j ∧ j < i + f ∧ line l j = ps
 | 0, i => .inl ⟨rfl, fun j h1 h2 => by omega⟩
 | f + 1, i => by
  unfold findL
  by_cases h : line l i = ps
  ·rw [if_pos h]; exact .inr ⟨i, rfl, Nat.le_refl _, by omega, h⟩
  ·rw [if_neg h]
   rcases Z1t9 (l := l) (ps := ps) (f := f) (i := i + 1) with ⟨e, hn⟩ | ⟨j, e, h1, h2, h3⟩
   ·refine .inl ⟨e, fun j h1 h2 => ?_⟩
    by_cases hji : j = i
    ·rw [hji]; exact h
    ·exact hn j (by omega) (by omega)
   ·exact .inr ⟨j, e, by omega, by omega, h3⟩
theorem Z1vj {l : List Nd} (h : Valid l) (ps : List Oid) : (find l ps = -1 ∧ (walk l (-1) ps = none ∨ walk l (-1) ps = some (-1))) ∨ ∃ j : Nat, j < l.length ∧ find l ps = (j : Int) ∧ walk l (-1) ps = some (j : Int) := by
 rcases Z1t9 (l := l) (ps := ps) (f := l.length) (i := 0) with ⟨e, hn⟩ | ⟨j, e, h1, h2, h3⟩
 ·refine .inl ⟨e, ?_⟩
  cases hw : walk l (-1) ps with
  | none => exact .inl rfl
  | some r =>
   obtain ⟨g1, g2⟩ := Z1vi h.shape (.inl rfl) hw
   rcases g1 with rfl | ⟨g1, g3⟩
   ·exact .inr rfl
   ·have : line l r.toNat = ps := by
     have := g2
     unfold lineI at this
     rw [if_neg (by omega), if_pos (by omega)] at this
     simpa using this
    exact absurd this (hn r.toNat (by omega) (by omega))
 ·exact .inr ⟨j, by omega, e, by rw [← h3]; exact Z20u h j (by omega)⟩
end Go.Ev