/-
 OIDs compared cell by cell.
-/
import Derived.Test.YthakkigkdhaihaaGreatDoorEzS
import Derived.Test.YthakkigkdhaihaaGreatDoorEzO2
set_option linter.unusedSimpArgs false
set_option linter.unusedVariables false
namespace Go.Ev
open Go
theorem cellsEq_n32 : ∀ (l1 l2 : List Nat), l1.length = l2.length → cellsEq (List.replicate l1.length .int) (n32 l1) (n32 l2) = some (decide (l1 = l2))
 | [], [], _ => rfl
 | a :: l1, b :: l2, h => by
  have ih := cellsEq_n32 l1 l2 (by simpa using h)
  simp only [n32, List.map_cons] at ih ⊢
  simp only [List.length_cons, List.replicate_succ, cellsEq, scalarEq, if_true, Option.bind_some, ih]
  congr 1
  by_cases h1 : a = b
  ·subst h1; simp
  ·have : ((a : Int) == (b : Int)) = false := by rw [beq_eq_false_iff_ne]; omega
   rw [this, decide_eq_false (fun h => h1 (List.cons.inj h).1)]; rfl
 | [], _ :: _, h => by simp at h
 | _ :: _, [], h => by simp at h
@[reducible] def k17 : List Kd := [.int, .int, .int, .int, .int, .int, .int, .int, .int, .int, .int, .int, .int, .int, .int, .int, .int]
theorem oid_eq {o p : Oid} (h : o.ok) (hp : p.ok) : cellsEq k17 o.cells p.cells = some (decide (o = p)) := by
 have e : k17 = .int :: List.replicate o.a.length .int := by rw [h.len]; rfl
 rw [e, Oid.cells, Oid.cells]
 simp only [cellsEq, scalarEq, if_true, Option.bind_some, cellsEq_n32 o.a p.a (by rw [h.len, hp.len])]
 congr 1
 obtain ⟨n, a⟩ := o
 obtain ⟨n', a'⟩ := p
 simp only [Oid.mk.injEq]
 by_cases h1 : n = n'
 ·subst h1; simp
 ·have : ((n : Int) == (n' : Int)) = false := by rw [beq_eq_false_iff_ne]; omega
  rw [this]; simp [h1]
end Go.Ev