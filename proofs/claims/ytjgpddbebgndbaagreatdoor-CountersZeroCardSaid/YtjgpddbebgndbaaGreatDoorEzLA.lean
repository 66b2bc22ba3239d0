/-
  The counters along a chain: All, Final, Zero.
-/
import Derived.Test.YtjgpddbebgndbaaGreatDoorEzL9
set_option linter.unusedSimpArgs false
set_option linter.unusedVariables false
set_option maxRecDepth 100000
namespace Go.Ev
open Go

abbrev C3 := Int × Int × Int
abbrev ctr3 (c : C3) : List D := ctrC c.1 c.2.1 c.2.2
/-- What a record does to counters. -/
structure Does {α : Type} (f : α → List D) (nx : α → C3 → C3) (wr : α → C3 → Int) (l : List α) : Prop where
  len : ∀ x, x ∈ l → (f x).length = 8
  nx : ∀ x, x ∈ l → ∀ c : C3, sp_counters_next [.agg (ctr3 c), .agg (f x)] = some (.agg (ctr3 (nx x c)))
  wr : ∀ x, x ∈ l → ∀ c : C3, sp_counters_wrap [.agg (ctr3 c), .agg (f x)] = some (.v (.int .i64 (wr x c)))
section
variable {α : Type} {f : α → List D} {nx : α → C3 → C3} {wr : α → C3 → Int} {l : List α}
/-- The number of the first certificate before which a counter is 0, if there is one. -/
def atC (v : Int) (q : Int) (k : Nat) : Int := cond (q == 0) (mm true v ((k + 1 : Nat) : Int)) v
def zeroC {α : Type} (nx : α → C3 → C3) : Int → Int → Int → C3 → Nat → List α → List D
  | a, b, d, _, _, [] => [.v (.int .i64 a), .v (.int .i64 b), .v (.int .i64 d), .v (.int .i64 0)]
  | a, b, d, q, k, x :: r => zeroC nx (atC a q.1 k) (atC b q.2.1 k) (atC d q.2.2 k) (nx x q) (k + 1) r
theorem zero_loop (m : Nat) (h : Does f nx wr l) (hb : l.length ≤ 64) (cp : Option Nat) (un : Nat) (uc : Option Nat) (u : List D) (x y z : Bool) : ∀ (c k : Nat) (a b d : Int) (q : C3), l.length - k < c → k ≤ l.length →
    F_counters_Zero_counters_before_1_2 m c l.length cp ((l.map f).flatten) (l.length : Int) (k : Int) un uc u x y z a b d (ctr3 q) = some (.tup (zeroC nx a b d q k (l.drop k)))
  | 0, k, a, b, d, q, hc, hk => by omega
  | c + 1, k, a, b, d, q, hc, hk => by
    have hl := rows_len (f := f) h.len
    rw [F_counters_Zero_counters_before_1_2_s, F_counters_Zero_j13_e]
    by_cases hlt : k < l.length
    · have e1 : IntKind.wrap .i64 ((k : Int) + 1) = ((k + 1 : Nat) : Int) := wrap_of (by omega) (by omega)
      have hm := List.getElem_mem hlt
      have hi : 0 ≤ (k : Int) ∧ (k : Int) < (l.length : Int) := by omega
      have hl8 : k * 8 + 8 ≤ ((l.map f).flatten).length := by omega
      have ih : ∀ a b d, F_counters_Zero_counters_before_1_2 m c l.length cp ((l.map f).flatten) (l.length : Int) ((k + 1 : Nat) : Int) un uc u x y z a b d (ctr3 (nx l[k] q)) = some (.tup (zeroC nx a b d (nx l[k] q) (k + 1) (l.drop (k + 1)))) := fun a b d => zero_loop m h hb cp un uc u x y z c (k + 1) a b d _ (by omega) (by omega)
      rw [decide_eq_true (by omega), cond_true, e1]
      simp only [Int.toNat_natCast, if_pos hi, if_pos hl8]
      rw [row_get h.len hlt, if_pos (h.len _ hm), if_pos (show (ctr3 q).length = 3 from rfl), h.nx _ hm]
      simp only [Option.bind_some, rdA_v, if_pos (show (ctr3 (nx l[k] q)).length = 3 from rfl), ih, show (ctr3 q)[0]? = some (.v (.int .i64 q.1)) from rfl, show (ctr3 q)[1]? = some (.v (.int .i64 q.2.1)) from rfl, show (ctr3 q)[2]? = some (.v (.int .i64 q.2.2)) from rfl, rdI_v]
      rw [List.drop_eq_getElem_cons hlt, zeroC]
      simp only [atC]
      cases (q.1 == 0) <;> cases (q.2.1 == 0) <;> cases (q.2.2 == 0) <;> rfl
    · rw [decide_eq_false (by omega), cond_false, List.drop_eq_nil_of_le (by omega)]; rfl
end
end Go.Ev
