/-
 Steps: how a printed text comes to its answer, one part after another.
-/
import Derived.Test.YthakkigkdhaihaaGreatDoorEzL0
set_option linter.unusedVariables false
namespace Go.Ev
open Go
section
variable {α β : Type}
theorem Z7 {e : Option α} {v : α} {f : α → Option β} {r : Option β} (h : e = some v) (k : f v = r) : e.bind f = r := by rw [h]; exact k
theorem st_if {p : Prop} [Decidable p] {a b r : Option α} (h : p) (k : a = r) : (if p then a else b) = r := by rw [if_pos h]; exact k
theorem st_cT {c : Bool} {a b r : Option α} (h : c = true) (k : a = r) : cond c a b = r := by rw [h]; exact k
theorem st_cF {c : Bool} {a b r : Option α} (h : c = false) (k : b = r) : cond c a b = r := by rw [h]; exact k
theorem i_eq {a b : Int} (h : a = b) : (a == b) = true := beq_iff_eq.2 h
theorem i_ne {a b : Int} (h : a ≠ b) : (a == b) = false := beq_eq_false_iff_ne.2 h
theorem i_bne {a b : Int} (h : a ≠ b) : (a != b) = true := bne_iff_ne.2 h
theorem i_bnf {a b : Int} (h : a = b) : (a != b) = false := by rw [bne_eq_false_iff_eq]; exact h
end
theorem Z1kf {i : Nat} (h : i + 1 < 9223372036854775808) : IntKind.wrap .i64 ((i : Int) + 1) = ((i + 1 : Nat) : Int) := Zy7 (by omega) (by omega)
end Go.Ev