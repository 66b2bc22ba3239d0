/-
 Data held against data, by computation.
-/
import Derived.Test.YthakkigkdhaihaaGreatDoorEzP
namespace Go.Ev
open Go
abbrev zU : D := .v (.int .u32 (0 : Int))
abbrev zI : D := .v (.int .i64 (0 : Int))
def bm (n : Nat) : Nat → List Bool
 | 0 => []
 | k + 1 => Nat.beq (Nat.mod n 2) 1 :: bm (Nat.div n 2) k
def beqV : Value → Value → Bool
 | .bool a, .bool b => a == b
 | .int k a, .int k' b => decide (k = k') && decide (a = b)
 | .string a, .string b => a.data.toList == b.data.toList
 | .nilFunc, .nilFunc => true
 | .nilIface, .nilIface => true
 | _, _ => false
theorem Z1ln {a b : Value} (h : beqV a b = true) : b = a := by
 unfold beqV at h
 split at h
 ·simp at h; rw [h]
 ·simp at h; rw [h.1, h.2]
 ·rename_i a b
  cases a; cases b
  simp at h
  rw [h]
 ·rfl
 ·rfl
 ·cases h
mutual
def beqD : D → D → Bool
 | .v a, .v b => beqV a b
 | .fn f a, .fn g b => decide (f = g) && beqDs a b
 | .agg a, .agg b => beqDs a b
 | .tup a, .tup b => beqDs a b
 | .list n c a, .list n' c' b => decide (n = n') && decide (c = c') && beqDs a b
 | _, _ => false
def beqDs : List D → List D → Bool
 | [], [] => true
 | x :: xs, y :: ys => beqD x y && beqDs xs ys
 | _, _ => false
end
mutual
theorem beqD_eq : ∀ {a b : D}, beqD a b = true → b = a
 | .v a, b, h => by
  cases b <;> simp only [beqD] at h <;> try (cases h; done)
  rw [Z1ln h]
 | .fn f a, b, h => by
  cases b <;> simp only [beqD] at h <;> try (cases h; done)
  simp only [Bool.and_eq_true, decide_eq_true_eq] at h
  rw [h.1, beqDs_eq h.2]
 | .agg a, b, h => by
  cases b <;> simp only [beqD] at h <;> try (cases h; done)
  rw [beqDs_eq h]
 | .tup a, b, h => by
  cases b <;> simp only [beqD] at h <;> try (cases h; done)
  rw [beqDs_eq h]
 | .list n c a, b, h => by
  cases b <;> simp only [beqD] at h <;> try (cases h; done)
  simp only [Bool.and_eq_true, decide_eq_true_eq] at h
  rw [h.1.1, h.1.2, beqDs_eq h.2]
theorem beqDs_eq : ∀ {a b : List D}, beqDs a b = true → b = a
 | [], b, h => by
  cases b <;> simp only [beqDs] at h <;> first | rfl | cases h
 | x :: xs, b, h => by
  cases b <;> simp only [beqDs] at h <;> try (cases h; done)
  simp only [Bool.and_eq_true] at h
  rw [beqD_eq h.1, beqDs_eq h.2]
end
def isT (a ds : List D) : Bool := beqDs a ds
theorem isT_eq {a ds : List D} (h : isT a ds = true) : ds = a := beqDs_eq h
end Go.Ev