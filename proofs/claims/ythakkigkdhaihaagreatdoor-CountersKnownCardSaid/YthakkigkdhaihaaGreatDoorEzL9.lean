/-
 Chains: what their checks return, where those of their records are known; one step.
-/
import Derived.Test.YthakkigkdhaihaaGreatDoorEzL8
set_option linter.unusedSimpArgs false
set_option linter.unusedVariables false
set_option maxRecDepth 100000
namespace Go.Ev
open Go
def firstL {α : Type} (g : α → Int) : List α → Int
 | [] => 0
 | x :: r => if g x = 0 then firstL g r else g x
def Zl3 {α : Type} (g : α → Int) (l : List α) : Int := if l.length = 0 then 17 else if 64 < l.length then 3 else firstL g l
section
variable {α : Type} {f : α → List D} {g : α → Int} {l : List α}
theorem Z16p (m : Nat) (hf : ∀ x, x ∈ l → (f x).length = 8) (hg : ∀ x, x ∈ l → Z22 [.agg (f x)] = some (.v (.int .i64 (g x)))) (hb : l.length ≤ 64) (cp : Option Nat) : ∀ (c k : Nat), l.length - k < c → k ≤ l.length →
  Zdc m c l.length cp ((l.map f).flatten) (l.length : Int) (k : Int) = some (.v (.int .i64 (firstL g (l.drop k))))
 | 0, k, hc, hk => by omega
 | c + 1, k, hc, hk => by
  have hl := rows_len (f := f) hf
  rw [Zuv]
  by_cases hlt : k < l.length
  ·have e1 : IntKind.wrap .i64 ((k : Int) + 1) = ((k + 1 : Nat) : Int) := Zbu (by omega) (by omega)
   have hm := List.getElem_mem hlt
   rw [decide_eq_true (by omega), cond_true, if_pos (by omega), e1]
   simp only [Int.toNat_natCast]
   rw [if_pos (by omega), row_get hf hlt, if_pos (hf _ hm), hg _ hm, Option.bind_some, rdI_v, Option.bind_some, Z16p m hf hg hb cp c (k + 1) (by omega) (by omega), List.drop_eq_getElem_cons hlt, firstL]
   by_cases h0 : g l[k] = 0
   ·rw [if_pos h0, h0]; rfl
   ·rw [if_neg h0, bne_iff_ne.2 h0]; rfl
  ·rw [decide_eq_false (by omega), cond_false, List.drop_eq_nil_of_le (by omega)]; rfl
theorem Z102 (hf : ∀ x, x ∈ l → (f x).length = 8) (hg : ∀ x, x ∈ l → Z22 [.agg (f x)] = some (.v (.int .i64 (g x)))) (cp : Option Nat) :
  Z9k [.list l.length cp ((l.map f).flatten)] = some (.v (.int .i64 (Zl3 g l))) := by
 show Zh6 M l.length cp ((l.map f).flatten) = _
 unfold Zh6 Zl3
 by_cases h0 : l.length = 0
 ·rw [if_pos h0, h0]; rfl
 ·rw [if_neg h0, show ((l.length : Int) == 0) = false from by rw [beq_eq_false_iff_ne]; omega, cond_false]
  by_cases h1 : 64 < l.length
  ·rw [if_pos h1, decide_eq_true (by omega), cond_true]
  ·rw [if_neg h1, decide_eq_false (by omega), cond_false]
   exact Z16p M hf hg (by omega) cp M 0 (by unfold M; omega) (by omega)
def allErr (g : α → Int) (l : List α) (u : List Oid) : Int := if Zl3 g l = 0 then setErr u else Zl3 g l
theorem Zac (hf : ∀ x, x ∈ l → (f x).length = 8) (hg : ∀ x, x ∈ l → Z22 [.agg (f x)] = some (.v (.int .i64 (g x)))) (cp : Option Nat) {u : List Oid} (hu : ∀ x, x ∈ u → x.ok) (cu : Option Nat) (x y z : Bool) :
  Z2v [.list l.length cp ((l.map f).flatten), .agg (inC u cu x y z)] = some (.v (.int .i64 (allErr g l u))) := by
 show Zes M l.length cp ((l.map f).flatten) u.length cu (oidsC u) x y z = _
 unfold Zes allErr
 rw [Z102 hf hg, Option.bind_some, rdI_v, Option.bind_some, Zwq hu]
 by_cases h0 : Zl3 g l = 0
 ·rw [if_pos h0, h0]; rfl
 ·rw [if_neg h0, bne_iff_ne.2 h0]; rfl
end
section
variable {e m a : Int} {s hp : Bool} {pn : Nat} {pc : Option Nat} {p : List D} {hm : Bool} {mn : Nat} {mc : Option Nat} {mp : List D} {r i y E : Int}
end
end Go.Ev