/-
 The statements about one step, and about all counters of a chain.
-/
import Derived.Test.YthakkigkdhaihaaGreatDoorEzR4
set_option linter.unusedSimpArgs false
set_option linter.unusedVariables false
set_option maxRecDepth 100000
namespace Go.Ev
open Go
theorem Z1hm (c d : C3) : cellsEq [.int, .int, .int] (ctr3 c) (ctr3 d) = some (decide (c = d)) := by
 obtain ⟨a, b, e⟩ := c
 obtain ⟨a', b', e'⟩ := d
 simp only [cellsEq, scalarEq, if_true, Option.bind_some, Option.some.injEq, Prod.mk.injEq]
 by_cases h1 : a = a'
 ·by_cases h2 : b = b'
  ·by_cases h3 : e = e'
   ·subst h1; subst h2; subst h3; simp
   ·rw [i_ne h3]; simp [h3]
  ·rw [i_ne h2]; simp [h2]
 ·rw [i_ne h1]; simp [h1]
theorem t2 {a b : D} : [a, b].length = 2 := rfl
section
variable {l : List Rcd} (h : Chain l) {cp : Option Nat} {u : List Oid} {cu : Option Nat} {x y z : Bool}
theorem Z14o {s : C3} {k : Nat} (hk : k < l.length) : ((((states Rcd.nx s l).map ctr3).flatten).drop (k * 3)).take 3 = ctr3 (stAt l s k) := by
 rw [row_get (fun c _ => Z1dm c) (by rw [Zl4]; exact hk), states_get hk]
theorem Z14p (s : C3) : (((states Rcd.nx s l).map ctr3).flatten).length = l.length * 3 := by
 rw [rows_len (fun c _ => Z1dm c), Zl4]
include h
theorem all_7 {m : Nat} {Z1q : Option Nat} {Z4p : Nat} {Z57 : Option Nat} {Z6o : List D} {Z2l Z2k : Int} : ∀ (c k : Nat), l.length - k < c → k ≤ l.length →
  Z6m m c l.length cp (rcdsC l) l.length Z1q (((states Rcd.nx (c0 l.length x y z) l).map ctr3).flatten) (k : Int) Z4p Z57 Z6o Z2l Z2k (inC u cu x y z) = some (.v (.bool true))
 | 0, k, hc, hk => by omega
 | c + 1, k, hc, hk => by
  have hle := h.le
  have hsl := Z14p (l := l) (c0 l.length x y z)
  rw [Zqj]
  simp only [Int.toNat_natCast]
  by_cases hlt : k < l.length
  ·refine st_cT (decide_eq_true (by omega)) ?_
   refine st_if (by omega) ?_
   refine st_if (by omega) ?_
   rw [Z40 (by omega), Z14o hlt]
   refine Z5 (Zko h cp u cu x y z (by omega)) ?_
   refine Z5 (rdA_v _) ?_
   refine Z5 (Z1hm _ _) ?_
   rw [decide_eq_true rfl]
   refine st_cF rfl ?_
   exact all_7 c (k + 1) (by omega) (by omega)
  ·refine st_cF (decide_eq_false (by omega)) ?_
   exact Z5 Zx5 (Z5 (rdB_v _) rfl)
end
theorem Z1co {l : List Oid} {cp : Option Nat} {x y z : Bool} : (inC l cp x y z).length = 4 := rfl
theorem Z14q {x : Ci} (hx : x.ok) : Z1h [.agg x.cells] = some (.v (.bool true)) := by
 show Z8x M x.l.length x.lc (risC x.l) (x.u : Int) (x.f : Int) = _
 unfold Z8x
 have h := x.chain_ok
 have hall := h.all x.ini_good
 have h1 := Zr6 (Rcd.does x.chain) h.chk none x.ini_ok x.ini.2 x.x x.y x.z
 have h2 := Zns (Rcd.does x.chain) h.chk none x.ini_ok x.ini.2 x.x x.y x.z
 rw [if_pos hall] at h1 h2
 refine Z5 (Z18p hx) ?_
 refine Z5 (rdT_v _) ?_
 refine st_if t2 ?_
 refine Z5 (rdL_v _ _ _) ?_
 refine Z5 (rdA_v _) ?_
 refine st_if Z1co ?_
 refine Z5 h1 ?_
 refine Z5 (rdT_v _) ?_
 refine st_if t2 ?_
 refine Z5 (rdL_v _ _ _) ?_
 refine Z5 (rdI_v _ _) ?_
 refine Z5 h2 ?_
 refine Z5 (rdT_v _) ?_
 refine st_if t2 ?_
 refine Z5 (rdI_v _ _) ?_
 refine Z5 (rdI_v _ _) ?_
 refine st_cF rfl ?_
 refine st_cF rfl ?_
 refine st_cF (i_bnf rfl) ?_
 dsimp only
 rw [Z1ey]
 refine st_cF (i_bnf rfl) ?_
 refine Z5 (Z14n h none x.ini.1 x.ini.2 x.x x.y x.z) ?_
 refine Z5 (rdI_v _ _) ?_
 refine st_cF (i_bnf rfl) ?_
 rw [Zpg]
 have := h.le
 exact all_7 h M 0 (by unfold M; omega) (by omega)
end Go.Ev