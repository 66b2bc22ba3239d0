/-
 Steps: how a printed text comes to its answer, one part after another.
-/
import Derived.Test.YthakkigkdhaihaaGreatDoorEzL0
set_option linter.unusedVariables false
namespace Go.Ev
open Go
section
variable {α β : Type}
theorem Z5 {e : Option α} {v : α} {f : α → Option β} {r : Option β} (h : e = some v) (k : f v = r) : e.bind f = r := by rw [h]; exact k
theorem st_if {p : Prop} [Decidable p] {a b r : Option α} (h : p) (k : a = r) : (if p then a else b) = r := by rw [if_pos h]; exact k
theorem st_ifn {p : Prop} [Decidable p] {a b r : Option α} (h : ¬p) (k : b = r) : (if p then a else b) = r := by rw [if_neg h]; exact k
theorem st_cT {c : Bool} {a b r : Option α} (h : c = true) (k : a = r) : cond c a b = r := by rw [h]; exact k
theorem st_cF {c : Bool} {a b r : Option α} (h : c = false) (k : b = r) : cond c a b = r := by rw [h]; exact k
theorem i_eq {a b : Int} (h : a = b) : (a == b) = true := beq_iff_eq.2 h
theorem i_ne {a b : Int} (h : a ≠ b) : (a == b) = false := beq_eq_false_iff_ne.2 h
theorem i_bne {a b : Int} (h : a ≠ b) : (a != b) = true := bne_iff_ne.2 h
theorem i_bnf {a b : Int} (h : a = b) : (a != b) = false := by rw [bne_eq_false_iff_eq]; exact h
theorem Z1cl {cs : List D} {i : Nat} {k : IntKind} {x : Int} (h : cs[i]? = some (.v (.int k x))) : rdI k cs[i]? = some x := by rw [h]; exact rdI_v k x
theorem Z1gs {cs : List D} {i n : Nat} {c : Option Nat} {xs : List D} (h : cs[i]? = some (.list n c xs)) : rdL cs[i]? = some ⟨n, c, xs⟩ := by rw [h]; rfl
theorem Z1gt {cs : List D} {i : Nat} {b : Bool} (h : cs[i]? = some (.v (.bool b))) : rdB cs[i]? = some b := by rw [h]; rfl
end
def n8 (l : List Nat) : List D := l.map fun (x : Nat) => .v (.int .u8 (x : Int))
theorem n8_get {l : List Nat} {i : Nat} (h : i < l.length) : rdI .u8 (n8 l)[i]? = some ((l.getD i 0 : Nat) : Int) := by
 simp [n8, h, rdI]
def ints (l : List Int) : List D := l.map fun (x : Int) => .v (.int .i64 x)
theorem Z1ii (l : List Int) : (ints l).length = l.length := by simp [ints]
theorem Z1ij {l : List Int} {i : Nat} (h : i < l.length) : rdI .i64 (ints l)[i]? = some (l.getD i 0) := by
 simp [ints, h, rdI]
theorem Z1cm (a b : List Int) : ints (a ++ b) = ints a ++ ints b := by simp [ints]
theorem Z40 {i : Nat} (h : i + 1 < 9223372036854775808) : IntKind.wrap .i64 ((i : Int) + 1) = ((i + 1 : Nat) : Int) := Zbu (by omega) (by omega)
theorem Zil {x : Int} (h1 : -9223372036854775808 ≤ x) (h2 : x < 9223372036854775808) : IntKind.wrap .i64 x = x := Zkt h1 h2
end Go.Ev