/-
  The law NatsCheck in plain form: true of any two byte slices and any machine integer.
-/
import Derived.Test.YtilgfaangfbndaaDoorEvW9
import Derived.Test.YtilgfaangfbndaaDoorEvG9b
import Derived.Test.YtilgfaangfbndaaDoorEvS9
set_option linter.unusedSimpArgs false
set_option linter.unusedVariables false
set_option maxRecDepth 100000
namespace Go.Ev
open Go
theorem stepS {R : Type} {x : Option D} {s : ByteArray} {f : ByteArray → Option R} (h : x = some (.v (.string s))) : (x.bind fun d => (rdS (some d)).bind f) = f s := by subst h; rfl
section
variable (a : List Nat) (n : Nat) (hn : n = a.length) (ac : Option Nat)
include hn
theorem sp56_bad (h : checkN a ≠ 0) (by_ : Int) : sp56 [.list n ac (nb a), .v (.int .u32 by_)] = some (.tup [.list 0 (some 0) [], .v (.int .u32 0), .v (.int .i64 (checkN a))]) := by
  simp only [sp56]
  unfold F56
  refine (stepI (sp68_eq a n hn ac)).trans ?_; try dsimp only
  rw [show (checkN a != 0) = true by simp [h], cond_true]
theorem sp59_bad (h : checkN a ≠ 0) (k : Int) : sp59 [.list n ac (nb a), .v (.int .i64 k)] = some (.tup [.list 0 (some 0) [], .v (.int .i64 (checkN a))]) := by
  simp only [sp59]
  unfold F59
  refine (stepI (sp68_eq a n hn ac)).trans ?_; try dsimp only
  rw [show (checkN a != 0) = true by simp [h], cond_true]
end
section
variable (a b : List Nat) (n k : Nat) (hn : n = a.length) (hk : k = b.length) (ac bc : Option Nat) (e : Int) (he : (if checkN a = 0 then checkN b else checkN a) = e) (h : e ≠ 0)
include hn hk he h
theorem sp46_bad : sp46 [.list n ac (nb a), .list k bc (nb b)] = some (.tup [.list 0 (some 0) [], .v (.int .i64 e)]) := by
  simp only [sp46]
  unfold F46
  refine (stepI (sp83_eq a b n k hn hk ac bc)).trans ?_; try dsimp only
  rw [he, show (e != 0) = true by simp [h], cond_true]
theorem sp50_bad : sp50 [.list n ac (nb a), .list k bc (nb b)] = some (.tup [.list 0 (some 0) [], .v (.int .i64 e)]) := by
  simp only [sp50]
  unfold F50
  refine (stepI (sp83_eq a b n k hn hk ac bc)).trans ?_; try dsimp only
  rw [he, show (e != 0) = true by simp [h], cond_true]
theorem sp55_bad : sp55 [.list n ac (nb a), .list k bc (nb b)] = some (.tup [.list 0 (some 0) [], .v (.int .i64 e)]) := by
  simp only [sp55]
  unfold F55
  refine (stepI (sp83_eq a b n k hn hk ac bc)).trans ?_; try dsimp only
  rw [he, show (e != 0) = true by simp [h], cond_true]
end

theorem check_j15 (a : List Nat) (c : Option Nat) (k : Int) : F16_16_j15 sp43 sp46 sp47 sp50 sp52 sp55 sp56 sp59 sp62 sp67 sp68 sp69 M a.length c (nb a) k (checkN a) = some (.v (.bool true)) := by
  rw [F16_16_j15_e]
  by_cases h : checkN a = 0
  · rw [show (checkN a == 0) = true by simp [h], cond_true]
    exact fin_true
  · have same := sp47_err (checkN a) h 0 (some 0) []
    rw [show (checkN a == 0) = false by simp [h], cond_false]
    refine (stepU (sp69_bad a _ rfl c h)).trans ?_; try dsimp only
    refine (stepT3 (sp56_bad a _ rfl c h 0)).trans ?_; try dsimp only
    refine (stepT (sp59_bad a _ rfl c h k)).trans ?_; try dsimp only
    rw [show ((0 : Int) == 0) = true from rfl, cond_true, show (checkN a == checkN a) = true by simp, cond_true]
    refine (stepB same).trans ?_; try dsimp only
    rw [cond_true, cond_true]
    refine (stepB same).trans ?_; try dsimp only
    rw [cond_true]
    refine (stepI (sp67_bad a _ rfl c h)).trans ?_; try dsimp only
    rw [show ((0 : Int) == 0) = true from rfl, cond_true]
    refine (stepS (sp62_bad a _ rfl c h)).trans ?_; try dsimp only
    rw [show (ByteArray.toList (ByteArray.mk #[63]) == ByteArray.toList (ByteArray.mk #[63])) = true by simp, cond_true]
    exact fin_true

theorem check_j9 (a b : List Nat) (c d : Option Nat) (k : Int) (e : Int) (he : e = if checkN a = 0 then checkN b else checkN a) : F16_16_j9 sp43 sp46 sp47 sp50 sp52 sp55 sp56 sp59 sp62 sp67 sp68 sp69 M a.length c (nb a) b.length d (nb b) k (checkN a) e = some (.v (.bool true)) := by
  rw [F16_16_j9_e]
  have h15 := check_j15 a c k
  by_cases h : e = 0
  · rw [show (e != 0) = false by simp [h], cond_false]
    exact h15
  · have same := sp47_err e h 0 (some 0) []
    rw [show (e != 0) = true by simp [h], cond_true]
    refine (stepT (sp46_bad a b _ _ rfl rfl c d e he.symm h)).trans ?_; try dsimp only
    refine (stepT (sp50_bad a b _ _ rfl rfl c d e he.symm h)).trans ?_; try dsimp only
    refine (stepT (sp55_bad a b _ _ rfl rfl c d e he.symm h)).trans ?_; try dsimp only
    refine (stepB same).trans ?_; try dsimp only
    rw [Bool.not_true, cond_false]
    refine (stepB same).trans ?_; try dsimp only
    rw [Bool.not_true, cond_false]
    refine (stepB same).trans ?_; try dsimp only
    rw [Bool.not_true, cond_false]
    exact h15

/-- NatsCheck. -/
theorem check_true (l k : List Nat) (hl : isBy l) (hk : isBy k) (c c' : Option Nat) (x : Int) : sp16 [.list l.length c (nb l), .list k.length c' (nb k), .v (.int .i64 x)] = some (.v (.bool true)) := by
  simp only [sp16]
  unfold F16
  by_cases h1 : 80 < l.length
  · rw [decide_eq_true (by omega), cond_true]
    exact fin_true
  rw [decide_eq_false (by omega), cond_false]
  by_cases h2 : 80 < k.length
  · rw [decide_eq_true (by omega), cond_true]
    exact fin_true
  rw [decide_eq_false (by omega), cond_false, F16_16_j3_e]
  refine (stepI (sp43_eq l _ rfl c)).trans ?_; try dsimp only
  refine (stepI (sp68_eq l _ rfl c)).trans ?_; try dsimp only
  rw [show (checkN l != checkN l) = false by simp, cond_false]
  by_cases h : checkN l = 0
  · rw [show (checkN l == 0) = true by simp [h], cond_true]
    refine (stepI (sp43_eq k _ rfl c')).trans ?_; try dsimp only
    exact check_j9 l k c c' x _ (by rw [if_pos h])
  · rw [show (checkN l == 0) = false by simp [h], cond_false]
    exact check_j9 l k c c' x _ (by rw [if_neg h])
end Go.Ev
