/-
 Steps: how a printed text comes to its answer, one part after another.
-/
import Derived.Test.YtnghcoghbbapgaaGreatDoorEzL0
set_option linter.unusedVariables false
namespace Go.Ev
open Go
section
variable {α β : Type}
theorem Z0 {e : Option α} {v : α} {f : α → Option β} {r : Option β} (h : e = some v) (k : f v = r) : e.bind f = r := by rw [h]; exact k
theorem st_if {p : Prop} [Decidable p] {a b r : Option α} (h : p) (k : a = r) : (if p then a else b) = r := by rw [if_pos h]; exact k
theorem st_ifn {p : Prop} [Decidable p] {a b r : Option α} (h : ¬p) (k : b = r) : (if p then a else b) = r := by rw [if_neg h]; exact k
theorem st_cT {c : Bool} {a b r : Option α} (h : c = true) (k : a = r) : cond c a b = r := by rw [h]; exact k
theorem st_cF {c : Bool} {a b r : Option α} (h : c = false) (k : b = r) : cond c a b = r := by rw [h]; exact k
theorem i_eq {a b : Int} (h : a = b) : (a == b) = true := beq_iff_eq.2 h
theorem i_ne {a b : Int} (h : a ≠ b) : (a == b) = false := beq_eq_false_iff_ne.2 h
theorem i_bne {a b : Int} (h : a ≠ b) : (a != b) = true := bne_iff_ne.2 h
theorem i_bnf {a b : Int} (h : a = b) : (a != b) = false := by rw [bne_eq_false_iff_eq]; exact h
theorem Z1sg (cs : List D) : rdA (some (.agg cs)) = some cs := rfl
theorem Z3g {cs : List D} {i : Nat} {k : IntKind} {x : Int} (h : cs[i]? = some (.v (.int k x))) : rdI k cs[i]? = some x := by rw [h]; exact rdI_v k x
theorem Zcx {cs : List D} {i n : Nat} {c : Option Nat} {xs : List D} (h : cs[i]? = some (.list n c xs)) : rdL cs[i]? = some ⟨n, c, xs⟩ := by rw [h]; rfl
end
def ints (l : List Int) : List D := l.map fun (x : Int) => .v (.int .i64 x)
theorem Z13z (l : List Int) : (ints l).length = l.length := by simp [ints]
theorem Z1et {l : List Int} {i : Nat} (h : i < l.length) : rdI .i64 (ints l)[i]? = some (l.getD i 0) := by
 simp [ints, h, rdI]
theorem Z14 {i : Nat} (h : i + 1 < 9223372036854775808) : IntKind.wrap .i64 ((i : Int) + 1) = ((i + 1 : Nat) : Int) := Z13i (by omega) (by omega)
theorem Z10i {x : Int} (h1 : -9223372036854775808 ≤ x) (h2 : x < 9223372036854775808) : IntKind.wrap .i64 x = x := Z1xp h1 h2
end Go.Ev