/-
 OIDs compared cell by cell.
-/
import Derived.Test.YthakkigkdhaihaaGreatDoorEzS
import Derived.Test.YthakkigkdhaihaaGreatDoorEzO2
set_option linter.unusedSimpArgs false
set_option linter.unusedVariables false
namespace Go.Ev
open Go
theorem cellsEq_n32 : ∀ (l1 l2 : List Nat), l1.length = l2.length → cellsEq (List.replicate l1.length .int) (n32 l1) (n32 l2) = some (decide (l1 = l2))
 | [], [], _ => rfl
 | a :: l1, b :: l2, h => by
  have ih := cellsEq_n32 l1 l2 (by simpa using h)
  simp only [n32, List.map_cons] at ih ⊢
  simp only [List.length_cons, List.replicate_succ, cellsEq, scalarEq, if_true, Option.bind_some, ih]
  congr 1
  by_cases h1 : a = b
  ·subst h1; simp
  ·have : ((a : Int) == (b : Int)) = false := by rw [beq_eq_false_iff_ne]; omega
   rw [this, decide_eq_false (fun h => h1 (List.cons.inj h).1)]; rfl
 | [], _ :: _, h => by simp at h
 | _ :: _, [], h => by simp at h
theorem cellsEq_append : ∀ {k1 k2 : List Kd} {x1 x2 y1 y2 : List D} {b c : Bool}, cellsEq k1 x1 y1 = some b → cellsEq k2 x2 y2 = some c → cellsEq (k1 ++ k2) (x1 ++ x2) (y1 ++ y2) = some (b && c)
 | [], k2, [], x2, [], y2, b, c, h1, h2 => by cases h1; simpa using h2
 | q :: k1, k2, x :: x1, x2, y :: y1, y2, b, c, h1, h2 => by
  simp only [cellsEq] at h1
  obtain ⟨b1, hb1, h3⟩ := Option.bind_eq_some_iff.1 h1
  obtain ⟨b2, hb2, h4⟩ := Option.bind_eq_some_iff.1 h3
  cases h4
  simp only [List.cons_append, cellsEq, hb1, Option.bind_some, cellsEq_append hb2 h2, Bool.and_assoc]
 | [], k2, _ :: _, x2, y1, y2, b, c, h1, h2 => by cases y1 <;> simp [cellsEq] at h1
 | [], k2, [], x2, _ :: _, y2, b, c, h1, h2 => by simp [cellsEq] at h1
 | q :: k1, k2, [], x2, y1, y2, b, c, h1, h2 => by cases y1 <;> simp [cellsEq] at h1
 | q :: k1, k2, x :: x1, x2, [], y2, b, c, h1, h2 => by simp [cellsEq] at h1
@[reducible] def k17 : List Kd := [.int, .int, .int, .int, .int, .int, .int, .int, .int, .int, .int, .int, .int, .int, .int, .int, .int]
theorem oid_eq {o p : Oid} (h : o.ok) (hp : p.ok) : cellsEq k17 o.cells p.cells = some (decide (o = p)) := by
 have e : k17 = .int :: List.replicate o.a.length .int := by rw [h.len]; rfl
 rw [e, Oid.cells, Oid.cells]
 simp only [cellsEq, scalarEq, if_true, Option.bind_some, cellsEq_n32 o.a p.a (by rw [h.len, hp.len])]
 congr 1
 obtain ⟨n, a⟩ := o
 obtain ⟨n', a'⟩ := p
 simp only [Oid.mk.injEq]
 by_cases h1 : n = n'
 ·subst h1; simp
 ·have : ((n : Int) == (n' : Int)) = false := by rw [beq_eq_false_iff_ne]; omega
  rw [this]; simp [h1]
end Go.Ev