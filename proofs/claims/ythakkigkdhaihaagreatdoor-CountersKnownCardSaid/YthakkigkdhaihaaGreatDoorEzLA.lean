/-
 The counters along a chain: All, Final, Zero.
-/
import Derived.Test.YthakkigkdhaihaaGreatDoorEzL9
set_option linter.unusedSimpArgs false
set_option linter.unusedVariables false
set_option maxRecDepth 100000
namespace Go.Ev
open Go
abbrev C3 := Int × Int × Int
abbrev ctr3 (c : C3) : List D := ctrC c.1 c.2.1 c.2.2
structure Does {α : Type} (f : α → List D) (nx : α → C3 → C3) (wr : α → C3 → Int) (l : List α) : Prop where
 len : ∀ x, x ∈ l → (f x).length = 8
 nx : ∀ x, x ∈ l → ∀ c : C3, Z1f [.agg (ctr3 c), .agg (f x)] = some (.agg (ctr3 (nx x c)))
 wr : ∀ x, x ∈ l → ∀ c : C3, Z4m [.agg (ctr3 c), .agg (f x)] = some (.v (.int .i64 (wr x c)))
def states {α : Type} (nx : α → C3 → C3) : C3 → List α → List C3
 | _, [] => []
 | c, x :: r => c :: states nx (nx x c) r
theorem Zl4 {α : Type} (nx : α → C3 → C3) : ∀ (c : C3) (l : List α), (states nx c l).length = l.length
 | _, [] => rfl
 | c, x :: r => by simp [states, Zl4 nx (nx x c) r]
def finalC {α : Type} (nx : α → C3 → C3) (wr : α → C3 → Int) : Int → C3 → List α → Int
 | v, _, [] => v
 | _, c, x :: r => finalC nx wr (wr x c) (nx x c) r
section
variable {α : Type} {f : α → List D} {nx : α → C3 → C3} {wr : α → C3 → Int} {l : List α}
theorem Z16q (m : Nat) (h : Does f nx wr l) (hb : l.length ≤ 64) (cp : Option Nat) (un : Nat) (uc : Option Nat) (u : List D) (x y z : Bool) : ∀ (c k : Nat) (v : Int) (q : C3), l.length - k < c → k ≤ l.length →
  Z31 m c l.length cp ((l.map f).flatten) (l.length : Int) (k : Int) un uc u x y z v (ctr3 q) = some (.tup [.v (.int .i64 (finalC nx wr v q (l.drop k))), .v (.int .i64 0)])
 | 0, k, v, q, hc, hk => by omega
 | c + 1, k, v, q, hc, hk => by
  have hl := rows_len (f := f) h.len
  rw [Zdo, Zt1]
  by_cases hlt : k < l.length
  ·have e1 : IntKind.wrap .i64 ((k : Int) + 1) = ((k + 1 : Nat) : Int) := Zbu (by omega) (by omega)
   have hm := List.getElem_mem hlt
   have hi : 0 ≤ (k : Int) ∧ (k : Int) < (l.length : Int) := by omega
   have hl8 : k * 8 + 8 ≤ ((l.map f).flatten).length := by omega
   rw [decide_eq_true (by omega), cond_true, e1]
   simp only [Int.toNat_natCast, if_pos hi, if_pos hl8]
   rw [row_get h.len hlt, if_pos (h.len _ hm), if_pos (show (ctr3 q).length = 3 from rfl), h.wr _ hm, Option.bind_some, rdI_v, Option.bind_some, h.nx _ hm, Option.bind_some, rdA_v, Option.bind_some, if_pos (show (ctr3 (nx l[k] q)).length = 3 from rfl),
    Z16q m h hb cp un uc u x y z c (k + 1) _ _ (by omega) (by omega), List.drop_eq_getElem_cons hlt, finalC]
  ·rw [decide_eq_false (by omega), cond_false, List.drop_eq_nil_of_le (by omega)]; rfl
def atC (v : Int) (q : Int) (k : Nat) : Int := cond (q == 0) (mm true v ((k + 1 : Nat) : Int)) v
def zeroC {α : Type} (nx : α → C3 → C3) : Int → Int → Int → C3 → Nat → List α → List D
 | a, b, d, _, _, [] => [.v (.int .i64 a), .v (.int .i64 b), .v (.int .i64 d), .v (.int .i64 0)]
 | a, b, d, q, k, x :: r => zeroC nx (atC a q.1 k) (atC b q.2.1 k) (atC d q.2.2 k) (nx x q) (k + 1) r
theorem Z1bn (m : Nat) (h : Does f nx wr l) (hb : l.length ≤ 64) (cp : Option Nat) (un : Nat) (uc : Option Nat) (u : List D) (x y z : Bool) : ∀ (c k : Nat) (a b d : Int) (q : C3), l.length - k < c → k ≤ l.length →
  Zp m c l.length cp ((l.map f).flatten) (l.length : Int) (k : Int) un uc u x y z a b d (ctr3 q) = some (.tup (zeroC nx a b d q k (l.drop k)))
 | 0, k, a, b, d, q, hc, hk => by omega
 | c + 1, k, a, b, d, q, hc, hk => by
  have hl := rows_len (f := f) h.len
  rw [Ze8, Zt2]
  by_cases hlt : k < l.length
  ·have e1 : IntKind.wrap .i64 ((k : Int) + 1) = ((k + 1 : Nat) : Int) := Zbu (by omega) (by omega)
   have hm := List.getElem_mem hlt
   have hi : 0 ≤ (k : Int) ∧ (k : Int) < (l.length : Int) := by omega
   have hl8 : k * 8 + 8 ≤ ((l.map f).flatten).length := by omega
   have ih : ∀ a b d, Zp m c l.length cp ((l.map f).flatten) (l.length : Int) ((k + 1 : Nat) : Int) un uc u x y z a b d (ctr3 (nx l[k] q)) = some (.tup (zeroC nx a b d (nx l[k] q) (k + 1) (l.drop (k + 1)))) := fun a b d => Z1bn m h hb cp un uc u x y z c (k + 1) a b d _ (by omega) (by omega)
   rw [decide_eq_true (by omega), cond_true, e1]
   simp only [Int.toNat_natCast, if_pos hi, if_pos hl8]
   rw [row_get h.len hlt, if_pos (h.len _ hm), if_pos (show (ctr3 q).length = 3 from rfl), h.nx _ hm]
   simp only [Option.bind_some, rdA_v, if_pos (show (ctr3 (nx l[k] q)).length = 3 from rfl), ih, show (ctr3 q)[0]? = some (.v (.int .i64 q.1)) from rfl, show (ctr3 q)[1]? = some (.v (.int .i64 q.2.1)) from rfl, show (ctr3 q)[2]? = some (.v (.int .i64 q.2.2)) from rfl, rdI_v]
   rw [List.drop_eq_getElem_cons hlt, zeroC]
   simp only [atC]
   cases (q.1 == 0) <;> cases (q.2.1 == 0) <;> cases (q.2.2 == 0) <;> rfl
  ·rw [decide_eq_false (by omega), cond_false, List.drop_eq_nil_of_le (by omega)]; rfl
end
end Go.Ev