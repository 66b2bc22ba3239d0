/-
  Lists of policies, of qualifiers, of nodes held against each other.
-/
import Derived.Test.YtkefahdbckjajaaGreatDoorEzU1
import Derived.Test.YtkefahdbckjajaaGreatDoorEzGa
set_option linter.unusedSimpArgs false
set_option linter.unusedVariables false
set_option maxRecDepth 100000
namespace Go.Ev
open Go

theorem drop_eq_iff {α : Type} {a b : List α} {k : Nat} (ha : k < a.length) (hb : k < b.length) : a.drop k = b.drop k ↔ a[k] = b[k] ∧ a.drop (k + 1) = b.drop (k + 1) := by
  rw [List.drop_eq_getElem_cons ha, List.drop_eq_getElem_cons hb, List.cons.injEq]
/-! ### Lists of numbers -/
theorem ints_loop {m : Nat} {a b : List Int} (hl : a.length = b.length) (hB : a.length < 1000000000) (ac bc : Option Nat) : ∀ (c k : Nat), a.length - k < c → k ≤ a.length →
    Zg0 m c a.length ac (ints a) b.length bc (ints b) (k : Int) = some (.v (.bool (decide (a.drop k = b.drop k))))
  | 0, k, hc, hk => by omega
  | c + 1, k, hc, hk => by
    rw [Zse]
    simp only [Int.toNat_natCast, Nat.mul_one]
    by_cases hlt : k < a.length
    · have hlt2 : k < b.length := by omega
      have ih := ints_loop (m := m) hl hB ac bc c (k + 1) (by omega) (by omega)
      have hd := drop_eq_iff hlt hlt2
      have hga : a.getD k 0 = a[k] := by simp [hlt]
      have hgb : b.getD k 0 = b[k] := by simp [hlt2]
      refine st_cT (decide_eq_true (by omega)) ?_
      refine st_if (by omega) ?_
      refine st_bind ((ints_get hlt).trans (by rw [hga])) ?_
      refine st_if (by omega) ?_
      refine st_bind ((ints_get hlt2).trans (by rw [hgb])) ?_
      by_cases he : a[k] = b[k]
      · refine st_cF (i_bnf he) ?_
        rw [wrap_succ (by omega), ih]
        have : decide (a.drop k = b.drop k) = decide (a.drop (k + 1) = b.drop (k + 1)) := by
          rw [decide_eq_decide, hd]; exact ⟨fun q => q.2, fun q => ⟨he, q⟩⟩
        rw [this]
      · refine st_cT (i_bne he) ?_
        rw [decide_eq_false (fun q => he (hd.1 q).1)]
    · obtain rfl : k = a.length := by omega
      refine st_cF (decide_eq_false (by omega)) ?_
      rw [List.drop_length, List.drop_eq_nil_of_le (by omega)]; rfl
theorem Zv3 {a b : List Int} (hB : a.length < 1000000000) (ac : Nat) (bc : Option Nat) : Z2p [.list a.length (some ac) (ints a), .list b.length bc (ints b)] = some (.v (.bool (decide (ac = a.length) && decide (a = b)))) := by
  show Zk3 M a.length (some ac) (ints a) b.length bc (ints b) = _
  unfold Zk3
  by_cases hl : a.length = b.length
  · refine st_cF (i_bnf (by omega)) ?_
    show cond (((ac : Nat) : Int) != ((a.length : Nat) : Int)) _ _ = _
    by_cases hc : ac = a.length
    · refine st_cF (i_bnf (by omega)) ?_
      rw [Zrg, decide_eq_true hc, Bool.true_and]
      have := ints_loop (m := M) hl hB (some ac) bc M 0 (by unfold M; omega) (by omega)
      rwa [List.drop_zero, List.drop_zero] at this
    · refine st_cT (i_bne (by omega)) ?_
      rw [decide_eq_false hc]; rfl
  · refine st_cT (i_bne (by omega)) ?_
    rw [decide_eq_false (fun e => hl (by rw [e]) : ¬ a = b), Bool.and_false]
end Go.Ev
