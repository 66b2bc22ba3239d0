/-
 slices.SortFunc on object identifiers and slices.Clone on nodes, as calls that are known. No conditions.
-/
import Derived.Test.YthakkigkdhaihaaGreatDoorEzSh
import Derived.Test.YthakkigkdhaihaaGreatDoorEzSrt
import Derived.Test.YthakkigkdhaihaaGreatDoorEzCl
import Derived.Test.YthakkigkdhaihaaGreatDoorEzL1
import Derived.Test.YthakkigkdhaihaaGreatDoorEzXE
import Derived.Test.YthakkigkdhaihaaGreatDoorEzI
set_option linter.unusedVariables false
set_option maxRecDepth 100000
namespace Go.Ev
open Go Go.Proofs Go.RowKit
def u8D : D → Option Nat
 | .v (.int .u8 x) => some x.toNat
 | _ => none
def u32D : D → Option Nat
 | .v (.int .u32 x) => some x.toNat
 | _ => none
def u32Ds : List D → Option (List Nat)
 | [] => some []
 | d :: r => (u32D d).bind fun x => (u32Ds r).map fun l => x :: l
def okB (o : Oid) : Bool := decide (o.n < 256) && decide (o.a.length = 16) && o.a.all fun x => decide (x < 4294967296)
theorem okB_ok {o : Oid} (h : okB o = true) : o.ok := by
 unfold okB at h
 simp only [Bool.and_eq_true, decide_eq_true_eq, List.all_eq_true] at h
 exact ⟨h.1.1, h.1.2, h.2⟩
def oidD : List D → Option Oid
 | d :: r => (u8D d).bind fun n => (u32Ds r).bind fun a => if isT (Oid.cells ⟨n, a⟩) (d :: r) && okB ⟨n, a⟩ then some ⟨n, a⟩ else none
 | [] => none
theorem Z161 {cs : List D} {o : Oid} (h : oidD cs = some o) : cs = o.cells ∧ o.ok := by
 cases cs with
 | nil => cases h
 | cons d r =>
  unfold oidD at h
  obtain ⟨n, h1, h2⟩ := Option.bind_eq_some_iff.1 h
  obtain ⟨a, h3, h4⟩ := Option.bind_eq_some_iff.1 h2
  split at h4
  ·rename_i hc
   rw [Bool.and_eq_true] at hc
   cases h4
   exact ⟨isT_eq hc.1, okB_ok hc.2⟩
  ·cases h4
def oidCmp (x y : List D) : Option Int := (oidD x).bind fun o => (oidD y).map fun p => o.cmp p
def Z1hd (r : List D) : Bool := match oidD r with
 | some o => o.good
 | none => false
def oidsOk (rows : List (List D)) : Bool := rows.all Z1hd
theorem Z1gm {r : List D} (h : Z1hd r = true) : ∃ o, oidD r = some o ∧ o.ok ∧ o.good = true ∧ r = o.cells := by
 unfold Z1hd at h
 split at h
 ·rename_i o ho
  exact ⟨o, ho, (Z161 ho).2, h, (Z161 ho).1⟩
 ·cases h
theorem cmpL_le_trans : ∀ {a b c : List Nat}, cmpL a b ≤ 0 → cmpL b c ≤ 0 → cmpL a c ≤ 0 := fun {a b c} h1 h2 => by
 rcases Int.lt_or_eq_of_le h1 with l1 | e1
 ·rcases Int.lt_or_eq_of_le h2 with l2 | e2
  ·exact Int.le_of_lt (cmpL_lt_trans l1 l2)
  ·have := cmpL_zero e2; subst this; exact h1
 ·have := cmpL_zero e1; subst this; exact h2
theorem Z1ja (rows : List (List D)) (h : oidsOk rows = true) : SortOk oidCmp rows := by
 have h' : ∀ x, x ∈ rows → ∃ o, oidD x = some o ∧ o.ok ∧ o.good = true ∧ x = o.cells := fun x hx => Z1gm (List.all_eq_true.1 h x hx)
 have val : ∀ {x y : List D} {o p : Oid}, oidD x = some o → oidD y = some p → oidCmp x y = some (o.cmp p) := fun {x y o p} e1 e2 => by
  unfold oidCmp
  rw [e1, e2]
  rfl
 have lt : ∀ {x y : List D} {o p : Oid}, oidD x = some o → oidD y = some p → ltD oidCmp x y = decide (o.cmp p < 0) := fun {x y o p} e1 e2 => by
  unfold ltD
  rw [val e1 e2]
 refine ⟨fun x hx y hy => ?_, fun x hx => ?_, fun x hx y hy z hz => ?_, fun x hx y hy z hz => ?_, fun x hx y hy => ?_⟩
 ·obtain ⟨o, e1, _⟩ := h' x hx
  obtain ⟨p, e2, _⟩ := h' y hy
  rw [val e1 e2]
  rfl
 ·obtain ⟨o, e1, _⟩ := h' x hx
  rw [lt e1 e1, Oid.cmp_self]
  rfl
 ·obtain ⟨o, e1, _⟩ := h' x hx
  obtain ⟨p, e2, _⟩ := h' y hy
  obtain ⟨q, e3, _⟩ := h' z hz
  rw [lt e1 e2, lt e2 e3, lt e1 e3]
  simp only [decide_eq_true_eq]
  exact fun a b => Oid.cmp_lt_trans a b
 ·obtain ⟨o, e1, _⟩ := h' x hx
  obtain ⟨p, e2, _⟩ := h' y hy
  obtain ⟨q, e3, _⟩ := h' z hz
  rw [lt e1 e2, lt e2 e3, lt e1 e3]
  simp only [decide_eq_false_iff_not]
  intro a b
  have s1 := Oid.cmp_swap o p
  have s2 := Oid.cmp_swap p q
  have s3 := Oid.cmp_swap o q
  have := cmpL_le_trans (a := q.arcs) (b := p.arcs) (c := o.arcs) (show q.cmp p ≤ 0 by omega) (show p.cmp o ≤ 0 by omega)
  have : q.cmp o ≤ 0 := this
  omega
 ·obtain ⟨o, e1, o1, g1, rfl⟩ := h' x hx
  obtain ⟨p, e2, o2, g2, rfl⟩ := h' y hy
  rw [lt e1 e2, lt e2 e1]
  simp only [decide_eq_false_iff_not]
  intro a b
  have s1 := Oid.cmp_swap o p
  rw [Oid.cmp_zero o1 o2 g1 g2 (by omega)]
theorem oid_cmp_sem : ∀ x y i, oidCmp x y = some i → DataSem Tryz.prog 144 [.agg x, .agg y] (.v (.int .i64 i)) := fun x y i h => by
 unfold oidCmp at h
 obtain ⟨o, h1, h2⟩ := Option.bind_eq_some_iff.1 h
 obtain ⟨p, h3, h4⟩ := Option.map_eq_some_iff.1 h2
 subst h4
 obtain ⟨rfl, o1⟩ := Z161 h1
 obtain ⟨rfl, o2⟩ := Z161 h3
 exact Z12c _ _ (Zyv o1 o2)
theorem Z162 {R : Type} : ExtSem Tryz.prog 164 (sortE (R := R) 17 144 oidCmp oidsOk) :=
 Z1l8 Tryz.sortOids (fun w => by rfl) (fun w => by rfl) (enters_of Tryz.func144 (by kernel_rfl) rfl) (f := 164) rfl ⟨Tryz.f164, Tryz.func164, by kernel_rfl, by kernel_rfl⟩ Z1ja oid_cmp_sem
theorem Z1c5 {R : Type} : ExtSem Tryz.prog 128 (cloneE (R := R) Tryz.prog Tryz.f128) :=
 Z1kd Tryz.cloneNodes (i0 := _) (size := 20) rfl (fun w => by rfl) (f := 128) rfl Tryz.func128 ⟨Tryz.f128, Tryz.func128, by kernel_rfl, by kernel_rfl⟩ (by kernel_rfl)
end Go.Ev