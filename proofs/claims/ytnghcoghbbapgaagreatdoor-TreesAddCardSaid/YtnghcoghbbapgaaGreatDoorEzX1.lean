/-
 Trees: a node's line leads to it, step by step.
-/
import Derived.Test.YtnghcoghbbapgaaGreatDoorEzXH
set_option linter.unusedSimpArgs false
set_option linter.unusedVariables false
set_option maxRecDepth 100000
namespace Go.Ev
open Go
def parZ (l : List Nd) (i : Nat) : Int := match l[i]? with
 | none => 0
 | some n => n.par
theorem Zvm {l : List Nd} {i : Nat} (h : i < l.length) : parZ l i = l[i].par := by unfold parZ; rw [List.getElem?_eq_getElem h]
theorem Z1l1 {l : List Nd} {i : Nat} (h : i < l.length) : polN' l i = l[i].pol := by unfold polN'; rw [List.getElem?_eq_getElem h]
theorem Z1wx {a b c : Nd} (h1 : keyLt a b) (h2 : keyLt b c) : keyLt a c := by
 rcases h1 with h1 | ⟨e1, h1⟩ <;> rcases h2 with h2 | ⟨e2, h2⟩
 ·exact .inl (by omega)
 ·exact .inl (by omega)
 ·exact .inl (by omega)
 ·exact .inr ⟨by omega, Oid.cmp_lt_trans h1 h2⟩
theorem Valid.keys {l : List Nd} (h : Valid l) {i : Nat} (h0 : 0 < i) : ∀ j (hj : j < l.length) (hij : i < j), keyLt (l[i]'(by omega)) l[j]
 | 0, _, hij => by omega
 | j + 1, hj, hij => by
  by_cases e : i = j
  ·subst e; exact h.key i hj h0
  ·exact Z1wx (h.keys h0 j (by omega) (by omega)) (h.key j hj (by omega))
theorem Z1y3 {a b : Nd} (h : keyLt a b) : ¬ (a.par = b.par ∧ a.pol = b.pol) := fun ⟨e1, e2⟩ => by
 rcases h with h | ⟨_, h⟩
 ·omega
 ·rw [e2, Oid.cmp_self] at h; omega
theorem Z1l2 {l : List Nd} (h : Shape l) {i : Nat} (hi : i < l.length) : parZ l i < 0 ↔ i = 0 := by
 rw [Zvm hi]
 by_cases h0 : i = 0
 ·subst h0
  have := h.root _ (List.getElem?_eq_getElem hi)
  exact ⟨fun _ => rfl, fun _ => by omega⟩
 ·have := h.par hi (by omega)
  exact ⟨fun q => by omega, fun q => absurd q h0⟩
theorem Valid.uniq {l : List Nd} (h : Valid l) {i j : Nat} (hi : i < l.length) (hj : j < l.length) (hp : parZ l i = parZ l j) (ho : polN' l i = polN' l j) : i = j := by
 have r1 := Z1l2 h.shape hi
 have r2 := Z1l2 h.shape hj
 rw [hp] at r1
 by_cases h0 : i = 0
 ·exact h0.trans (r2.1 (r1.2 h0)).symm
 ·have h0' : j ≠ 0 := fun e => h0 (r1.1 (r2.2 e))
  rw [Zvm hi, Zvm hj] at hp
  rw [Z1l1 hi, Z1l1 hj] at ho
  rcases Nat.lt_trichotomy i j with hl | hl | hl
  ·exact absurd ⟨hp, ho⟩ (Z1y3 (h.keys (by omega) j hj hl))
  ·exact hl
  ·exact absurd ⟨hp.symm, ho.symm⟩ (Z1y3 (h.keys (by omega) i hi hl))
def kidF (l : List Nd) (p : Int) (o : Oid) : Nat → Nat → Option Nat
 | 0, _ => none
 | f + 1, i => if parZ l i = p ∧ polN' l i = o then some i else kidF l p o f (i + 1)
theorem Z1n7 {l : List Nd} {p : Int} {o : Oid} : ∀ {f i j : Nat}, kidF l p o f i = some j → i ≤ j ∧ j < i + f ∧ parZ l j = p ∧ polN' l j = o
 | 0, i, j, h => by cases h
 | f + 1, i, j, h => by
  unfold kidF at h
  split at h
  ·rename_i hc; cases h; exact ⟨Nat.le_refl _, by omega, hc.1, hc.2⟩
  ·obtain ⟨h1, h2, h3⟩ := Z1n7 h
   exact ⟨by omega, by omega, h3⟩
theorem Z1n8 {l : List Nd} {p : Int} {o : Oid} : ∀ {f i : Nat}, kidF l p o f i = none → ∀ j, i ≤ j → j < i + f → ¬ (parZ l j = p ∧ polN' l j = o)
 | 0, i, h, j, h1, h2 => by omega
 | f + 1, i, h, j, h1, h2 => by
  unfold kidF at h
  split at h
  ·cases h
  ·rename_i hc
   by_cases e : j = i
   ·rw [e]; exact hc
   ·exact Z1n8 h j (by omega) (by omega)
def kidO (l : List Nd) (p : Int) (o : Oid) : Option Nat := kidF l p o l.length 0
theorem Z1n9 {l : List Nd} {p : Int} {o : Oid} {j : Nat} (h : kidO l p o = some j) : j < l.length ∧ parZ l j = p ∧ polN' l j = o := by
 obtain ⟨_, h2, h3⟩ := Z1n7 h
 exact ⟨by omega, h3⟩
def walk (l : List Nd) : Int → List Oid → Option Int
 | at_, [] => some at_
 | at_, p :: ps => match kidO l at_ p with
  | none => none
  | some j => walk l (j : Int) ps
end Go.Ev