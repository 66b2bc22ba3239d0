/-
  The law ScalarsInts in plain Lean: true of every int.
-/
import Derived.Test.YtilgfaangfbndaaDoorEvS3
set_option linter.unusedSimpArgs false
set_option linter.unusedVariables false
set_option maxRecDepth 100000
namespace Go.Ev
open Go

theorem sp20_same (l : List Int) (n : Nat) (hn : n = l.length) (c2 : Option Nat) (e : Int) : sp20 [.list n (some n) (ib l), .v (.int .i64 e), .list n c2 (ib l), .v (.int .i64 e)] = some (.v (.bool true)) := by
  subst hn
  simp [sp20, F20, bytesOf_ib]

theorem sp21_octets {x : Int} (h1 : -9223372036854775808 ≤ x) (h2 : x < 9223372036854775808) {k : Nat} (hk : k ≤ 7) (he : enough x k = true) (hf : ∀ i, i < k → enough x i = false) (c : Option Nat) :
    sp21 [.list (k + 1) c (ib (lowB x (k + 1))), .v (.int .i64 x), .v (.int .i64 0)] = some (.v (.bool true)) := by
  simp only [sp21, F21]
  rw [sp73_octets h1 h2 hk he hf]
  simp [rdT, rdI]

/-- The element of content octets. -/
def elem (tag : Int) (n : Nat) (c : Option Nat) (l : List Int) : List D := [.v (.int .u8 0), .v (.bool false), .v (.int .u32 tag), .list n c (ib l), .list 0 (some 0) []]

theorem sp74_eq (tag : Int) (n : Nat) (c : Option Nat) (l : List Int) : sp74 [.v (.int .u32 tag), .list n c (ib l)] = some (.agg (elem tag n c l)) := by
  simp [sp74, F74, elem]

theorem sp23_eq {x : Int} {l : List Int} (h : sp18 [.v (.int .i64 x)] = some (.list l.length (some l.length) (ib l))) : sp23 [.v (.int .i64 x)] = some (.agg (elem 2 l.length (some l.length) l)) := by
  simp only [sp23, F23]
  rw [h]
  simp only [Option.bind_some, rdL]
  rw [sp74_eq]
  simp [rdA, elem]
theorem sp24_eq {x : Int} {l : List Int} (h : sp18 [.v (.int .i64 x)] = some (.list l.length (some l.length) (ib l))) : sp24 [.v (.int .i64 x)] = some (.agg (elem 10 l.length (some l.length) l)) := by
  simp only [sp24, F24]
  rw [h]
  simp only [Option.bind_some, rdL]
  rw [sp74_eq]
  simp [rdA, elem]

theorem sp22_eq (tag : Int) (l : List Int) (c : Option Nat) : sp22 [.agg (elem tag l.length (some l.length) l), .v (.int .u32 tag), .list l.length c (ib l)] = some (.v (.bool true)) := by
  simp only [elem, sp22, F22]
  rw [sp20_same l _ rfl]
  simp [cellsEq, scalarEq, rdB]

theorem sp25_eq {x : Int} {l : List Int} {n : Nat} {c : Option Nat} (h : sp73 [.list n c (ib l)] = some (.tup [.v (.int .i64 x), .v (.int .i64 0)])) : sp25 [.agg (elem 2 n c l)] = some (.tup [.v (.int .i64 x), .v (.int .i64 0)]) := by
  simp only [elem, sp25, F25]
  rw [h]
  simp [cellsEq, scalarEq, rdT, rdI]
theorem sp26_eq {x : Int} {l : List Int} {n : Nat} {c : Option Nat} (h : sp73 [.list n c (ib l)] = some (.tup [.v (.int .i64 x), .v (.int .i64 0)])) : sp26 [.agg (elem 10 n c l)] = some (.tup [.v (.int .i64 x), .v (.int .i64 0)]) := by
  simp only [elem, sp26, F26]
  rw [h]
  simp [cellsEq, scalarEq, rdT, rdI]
theorem sp26_wrong (l : List Int) (n : Nat) (c : Option Nat) : sp26 [.agg (elem 2 n c l)] = some (.tup [.v (.int .i64 0), .v (.int .i64 9)]) := by
  simp only [elem, sp26, F26]
  simp [cellsEq, scalarEq]

/-- ScalarsInts. -/
theorem ints_true (x : Int) (h1 : -9223372036854775808 ≤ x) (h2 : x < 9223372036854775808) : F3 M x = some (.v (.bool true)) := by
  obtain ⟨k, hk, he, hf, hp, hr⟩ := octets h1 h2
  have hl := lowB_length x (k + 1)
  have e18 := sp18_eq x
  obtain ⟨c, e19⟩ := sp19_eq x h1 h2
  rw [hp] at e18
  rw [hr] at e19
  have e73 := sp73_octets h1 h2 hk he hf (some (k + 1))
  have e20 := sp20_same (lowB x (k + 1)) (k + 1) hl.symm c 0
  have e21 := sp21_octets h1 h2 hk he hf (some (k + 1))
  have e23 := sp23_eq e18
  have e24 := sp24_eq e18
  have e22 := sp22_eq 2 (lowB x (k + 1)) c
  have e22' := sp22_eq 10 (lowB x (k + 1)) c
  have e25 := sp25_eq e73
  have e26 := sp26_eq e73
  have e26' := sp26_wrong (lowB x (k + 1)) (k + 1) (some (k + 1))
  rw [hl] at e18 e19 e23 e24 e22 e22'
  simp only [F3, e18, e19, Option.bind_some, rdL, e20, rdB, e21, Bool.not_true, cond_false, e23, e24, rdA, e22, e22', e25, e26, e26', rdT, lives_eq]
  simp [rdI]
end Go.Ev
