/-
 The counters along a chain: what All, Final and Zero return.
-/
import Derived.Test.YthakkigkdhaihaaGreatDoorEzLA
set_option linter.unusedSimpArgs false
set_option linter.unusedVariables false
set_option maxRecDepth 100000
namespace Go.Ev
open Go
abbrev z3 : List D := [.v (.int .i64 0), .v (.int .i64 0), .v (.int .i64 0)]
theorem Zxh (l : List C3) : ((l.map ctr3).flatten).length = l.length * 3 := rows_len fun _ _ => rfl
section
variable {α : Type} {f : α → List D} {nx : α → C3 → C3} {wr : α → C3 → Int} {l : List α}
theorem Z1dl (m : Nat) (h : Does f nx wr l) (hb : l.length ≤ 64) (cp : Option Nat) (un : Nat) (uc : Option Nat) (u : List D) (x y z : Bool) : ∀ (c k : Nat) (dn : List C3) (q : C3), l.length - k < c → k ≤ l.length → dn.length = k →
  Z3a m c l.length cp ((l.map f).flatten) (l.length : Int) (k : Int) un uc u x y z (l.length * 3) ((dn.map ctr3).flatten ++ (List.replicate (l.length - k) z3).flatten) l.length (ctr3 q) =
   some (.tup [.list l.length (some l.length) (((dn ++ states nx q (l.drop k)).map ctr3).flatten), .v (.int .i64 0)])
 | 0, k, dn, q, hc, hk, hd => by omega
 | c + 1, k, dn, q, hc, hk, hd => by
  have hl := rows_len (f := f) h.len
  rw [Zei, Zv1]
  by_cases hlt : k < l.length
  ·have e1 : IntKind.wrap .i64 ((k : Int) + 1) = ((k + 1 : Nat) : Int) := Zbu (by omega) (by omega)
   have hm := List.getElem_mem hlt
   have hi : 0 ≤ (k : Int) ∧ (k : Int) < (l.length : Int) := by omega
   have hl8 : k * 8 + 8 ≤ ((l.map f).flatten).length := by omega
   have h3 : (ctr3 q).length = 3 := rfl
   have hk3 : 0 + k * 3 + 3 ≤ l.length * 3 := by omega
   have hput : putL (l.length * 3) ((dn.map ctr3).flatten ++ (List.replicate (l.length - k) z3).flatten) (0 + k * 3) 3 (ctr3 q) = ((dn ++ [q]).map ctr3).flatten ++ (List.replicate (l.length - (k + 1)) z3).flatten := by
    have hrep : (List.replicate (l.length - k) z3).flatten = z3 ++ (List.replicate (l.length - (k + 1)) z3).flatten := by
     rw [show l.length - k = (l.length - (k + 1)) + 1 by omega, List.replicate_succ, List.flatten_cons]
    have hgen : ((dn.map ctr3).flatten ++ (List.replicate (l.length - k) z3).flatten).take (k * 3) ++ (ctr3 q ++ ((dn.map ctr3).flatten ++ (List.replicate (l.length - k) z3).flatten).drop (k * 3 + 3)) = ((dn ++ [q]).map ctr3).flatten ++ (List.replicate (l.length - (k + 1)) z3).flatten := by
     have hdl : ((dn.map ctr3).flatten).length = k * 3 := by rw [Zxh, hd]
     rw [List.take_left' hdl, ← List.drop_drop, List.drop_left' hdl, hrep, show ∀ xs : List D, (z3 ++ xs).drop 3 = xs from fun _ => rfl]
     simp
    unfold putL
    split
    ·rename_i h0
     have hk0 : k = 0 := by omega
     have hn1 : l.length = 1 := by omega
     subst hk0
     have hdn : dn = [] := List.eq_nil_of_length_eq_zero hd
     subst hdn
     rw [hn1]; simp
    ·rw [Nat.zero_add]; exact hgen
   rw [decide_eq_true (by omega), cond_true, e1]
   simp only [Int.toNat_natCast, if_pos hi, if_pos hl8]
   rw [row_get h.len hlt, if_pos (h.len _ hm)]
   simp only [if_pos h3, if_pos hk3]
   rw [h.nx _ hm, Option.bind_some, rdA_v, Option.bind_some, if_pos (show (ctr3 (nx l[k] q)).length = 3 from rfl), hput, Z1dl m h hb cp un uc u x y z c (k + 1) (dn ++ [q]) _ (by omega) (by omega) (by simp [hd]), List.drop_eq_getElem_cons hlt, states]
   simp
  ·have hkl : k = l.length := by omega
   have hcut : cutL (l.length * 3) ((dn.map ctr3).flatten) 0 (l.length * 3) = (dn.map ctr3).flatten := Zgf (by rw [Zxh, hd, hkl])
   rw [decide_eq_false (by omega), cond_false, List.drop_eq_nil_of_le (by omega), if_pos (by omega), show l.length - k = 0 by omega, List.replicate_zero, List.flatten_nil, List.append_nil, hcut, states, List.append_nil]
theorem Ztn {g : α → Int} {u : List Oid} (h0 : allErr g l u = 0) : 0 < l.length ∧ l.length ≤ 64 := by
 unfold allErr at h0
 by_cases h1 : Zl3 g l = 0
 ·unfold Zl3 at h1
  by_cases h2 : l.length = 0
  ·rw [if_pos h2] at h1; cases h1
  ·rw [if_neg h2] at h1
   by_cases h3 : 64 < l.length
   ·rw [if_pos h3] at h1; cases h1
   ·omega
 ·rw [if_neg h1] at h0; exact absurd h0 h1
theorem Zr6 {g : α → Int} (h : Does f nx wr l) (hg : ∀ x, x ∈ l → Z22 [.agg (f x)] = some (.v (.int .i64 (g x)))) (cp : Option Nat) {u : List Oid} (hu : ∀ x, x ∈ u → x.ok) (cu : Option Nat) (x y z : Bool) :
  Z4c [.list l.length cp ((l.map f).flatten), .agg (inC u cu x y z)] = if allErr g l u = 0 then
   some (.tup [.list l.length (some l.length) (((states nx (cond x 0 (l.length + 1 : Int), cond y 0 (l.length + 1 : Int), cond z 0 (l.length + 1 : Int)) l).map ctr3).flatten), .v (.int .i64 0)]) else some (.tup [.list 0 (some 0) [], .v (.int .i64 (allErr g l u))]) := by
 show Ziy M l.length cp ((l.map f).flatten) u.length cu (oidsC u) x y z = _
 unfold Ziy
 rw [Zac h.len hg cp hu, Option.bind_some, rdI_v, Option.bind_some]
 by_cases h0 : allErr g l u = 0
 ·have hb : l.length ≤ 64 := (Ztn h0).2
  have hw : IntKind.wrap .i64 ((l.length : Int) + 1) = (l.length + 1 : Int) := Zkt (by omega) (by omega)
  rw [if_pos h0, h0, show ((0 : Int) != 0) = false from rfl, cond_false]
  simp only [Int.toNat_natCast]
  rw [if_pos ⟨by omega, by omega, by constructor <;> omega⟩, Zab, Option.bind_some, rdA_v, Option.bind_some, hw]
  have := Z1dl M h hb cp u.length cu (oidsC u) x y z M 0 [] (cond x 0 (l.length + 1 : Int), cond y 0 (l.length + 1 : Int), cond z 0 (l.length + 1 : Int)) (by unfold M; omega) (by omega) rfl
  exact this
 ·rw [if_neg h0, bne_iff_ne.2 h0, cond_true]
theorem Zns {g : α → Int} (h : Does f nx wr l) (hg : ∀ x, x ∈ l → Z22 [.agg (f x)] = some (.v (.int .i64 (g x)))) (cp : Option Nat) {u : List Oid} (hu : ∀ x, x ∈ u → x.ok) (cu : Option Nat) (x y z : Bool) :
  Z18 [.list l.length cp ((l.map f).flatten), .agg (inC u cu x y z)] = if allErr g l u = 0 then
   some (.tup [.v (.int .i64 (finalC nx wr 0 (cond x 0 (l.length + 1 : Int), cond y 0 (l.length + 1 : Int), cond z 0 (l.length + 1 : Int)) l)), .v (.int .i64 0)]) else some (.tup [.v (.int .i64 0), .v (.int .i64 (allErr g l u))]) := by
 show Zet M l.length cp ((l.map f).flatten) u.length cu (oidsC u) x y z = _
 unfold Zet
 rw [Zac h.len hg cp hu, Option.bind_some, rdI_v, Option.bind_some]
 by_cases h0 : allErr g l u = 0
 ·have hb := Ztn h0
  have hw : IntKind.wrap .i64 ((l.length : Int) + 1) = (l.length + 1 : Int) := Zkt (by omega) (by omega)
  rw [if_pos h0, h0, show ((0 : Int) != 0) = false from rfl, cond_false, Zab, Option.bind_some, rdA_v, Option.bind_some, hw]
  exact Z16q M h hb.2 cp u.length cu (oidsC u) x y z M 0 0 (cond x 0 (l.length + 1 : Int), cond y 0 (l.length + 1 : Int), cond z 0 (l.length + 1 : Int)) (by unfold M; omega) (by omega)
 ·rw [if_neg h0, bne_iff_ne.2 h0, cond_true]
theorem Zin {g : α → Int} (h : Does f nx wr l) (hg : ∀ x, x ∈ l → Z22 [.agg (f x)] = some (.v (.int .i64 (g x)))) (cp : Option Nat) {u : List Oid} (hu : ∀ x, x ∈ u → x.ok) (cu : Option Nat) (x y z : Bool) :
  Z1g [.list l.length cp ((l.map f).flatten), .agg (inC u cu x y z)] = if allErr g l u = 0 then
   some (.tup (zeroC nx (l.length + 1) (l.length + 1) (l.length + 1) (cond x 0 (l.length + 1 : Int), cond y 0 (l.length + 1 : Int), cond z 0 (l.length + 1 : Int)) 0 l)) else some (.tup [.v (.int .i64 0), .v (.int .i64 0), .v (.int .i64 0), .v (.int .i64 (allErr g l u))]) := by
 show Zhb M l.length cp ((l.map f).flatten) u.length cu (oidsC u) x y z = _
 unfold Zhb
 rw [Zac h.len hg cp hu, Option.bind_some, rdI_v, Option.bind_some]
 by_cases h0 : allErr g l u = 0
 ·have hb := Ztn h0
  have hw : IntKind.wrap .i64 ((l.length : Int) + 1) = (l.length + 1 : Int) := Zkt (by omega) (by omega)
  rw [if_pos h0, h0, show ((0 : Int) != 0) = false from rfl, cond_false, Zab, Option.bind_some, rdA_v, Option.bind_some, hw]
  exact Z1bn M h hb.2 cp u.length cu (oidsC u) x y z M 0 _ _ _ (cond x 0 (l.length + 1 : Int), cond y 0 (l.length + 1 : Int), cond z 0 (l.length + 1 : Int)) (by unfold M; omega) (by omega)
 ·rw [if_neg h0, bne_iff_ne.2 h0, cond_true]
end
end Go.Ev