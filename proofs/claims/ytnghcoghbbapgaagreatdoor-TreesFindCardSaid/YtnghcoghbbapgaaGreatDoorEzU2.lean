/-
 Lists of policies, of qualifiers, of nodes held against each other.
-/
import Derived.Test.YtnghcoghbbapgaaGreatDoorEzU1
import Derived.Test.YtnghcoghbbapgaaGreatDoorEzGa
set_option linter.unusedSimpArgs false
set_option linter.unusedVariables false
set_option maxRecDepth 100000
namespace Go.Ev
open Go
theorem Z1iu {α : Type} {a b : List α} {k : Nat} (ha : k < a.length) (hb : k < b.length) : a.drop k = b.drop k ↔ a[k] = b[k] ∧ a.drop (k + 1) = b.drop (k + 1) := by
 rw [List.drop_eq_getElem_cons ha, List.drop_eq_getElem_cons hb, List.cons.injEq]
theorem Z1jk {m : Nat} {a b : List Oid} (ha : ∀ x, x ∈ a → x.ok) (hb : ∀ x, x ∈ b → x.ok) (hl : a.length = b.length) (hB : a.length < 1000000000) (ac bc : Option Nat) : ∀ (c k : Nat), a.length - k < c → k ≤ a.length →
  Zcl m c a.length ac (oidsC a) b.length bc (oidsC b) (k : Int) = some (.v (.int .i64 (b01 (decide (a.drop k = b.drop k)))))
 | 0, k, hc, hk => by omega
 | c + 1, k, hc, hk => by
  have hla := Zip ha
  have hlb := Zip hb
  rw [Z135]
  simp only [Int.toNat_natCast]
  by_cases hlt : k < a.length
  ·have hlt2 : k < b.length := by omega
   have ih := Z1jk (m := m) ha hb hl hB ac bc c (k + 1) (by omega) (by omega)
   have hd := Z1iu hlt hlt2
   refine st_cT (decide_eq_true (by omega)) ?_
   refine st_if (by omega) ?_
   refine st_if (by omega) ?_
   refine st_if (by omega) ?_
   refine st_if (by omega) ?_
   rw [Zn0 ha hlt, Zn0 hb hlt2]
   refine Z1 (oid_eq (ha _ (List.getElem_mem hlt)) (hb _ (List.getElem_mem hlt2))) ?_
   by_cases he : a[k] = b[k]
   ·rw [decide_eq_true he]
    refine st_cF rfl ?_
    rw [Z2i (by omega), ih]
    have : decide (a.drop k = b.drop k) = decide (a.drop (k + 1) = b.drop (k + 1)) := by
     rw [decide_eq_decide, hd]; exact ⟨fun q => q.2, fun q => ⟨he, q⟩⟩
    rw [this]
   ·rw [decide_eq_false he]
    refine st_cT rfl ?_
    rw [decide_eq_false (fun q => he (hd.1 q).1)]; rfl
  ·obtain rfl : k = a.length := by omega
   refine st_cF (decide_eq_false (by omega)) ?_
   rw [List.drop_length, List.drop_eq_nil_of_le (by omega)]; rfl
theorem Z1iv {a b : List Oid} (ha : ∀ x, x ∈ a → x.ok) (hb : ∀ x, x ∈ b → x.ok) (hB : a.length < 1000000000) (ac bc : Option Nat) : Z8g [.list a.length ac (oidsC a), .list b.length bc (oidsC b)] = some (.v (.int .i64 (b01 (decide (a = b))))) := by
 show Zj8 M a.length ac (oidsC a) b.length bc (oidsC b) = _
 unfold Zj8
 by_cases hl : a.length = b.length
 ·refine st_cF (i_bnf (by omega)) ?_
  have := Z1jk (m := M) ha hb hl hB ac bc M 0 (by unfold M; omega) (by omega)
  rwa [List.drop_zero, List.drop_zero] at this
 ·refine st_cT (i_bne (by omega)) ?_
  rw [decide_eq_false (fun e => hl (by rw [e]))]; rfl
end Go.Ev