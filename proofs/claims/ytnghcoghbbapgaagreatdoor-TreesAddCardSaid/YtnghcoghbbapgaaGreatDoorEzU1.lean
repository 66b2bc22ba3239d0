/-
 The reference's depths, children, and deletions.
-/
import Derived.Test.YtnghcoghbbapgaaGreatDoorEzU0
import Derived.Test.YtnghcoghbbapgaaGreatDoorEzG5
set_option linter.unusedSimpArgs false
set_option linter.unusedVariables false
set_option maxRecDepth 100000
namespace Go.Ev
open Go
def Pt (l : List Cd) (n : Nat) : Prop := ∀ j (h : j < l.length), 0 < j → j < n → 0 ≤ l[j].n.par ∧ l[j].n.par < (j : Int)
theorem Pt.of {l : List Cd} (h : Shape (nds l)) (n : Nat) : Pt l n := fun j hj h0 _ => by
 have := h.par (i := j) (by rw [Z1r]; exact hj) h0
 rw [Zbf hj] at this; omega
theorem Pt.to {l : List Cd} {n : Nat} (h : Pt l n) : To (nds l) n := fun j h0 hj => by
 by_cases hl : j < l.length
 ·have := h j hl h0 hj
  rw [Z1kv hl]; omega
 ·unfold parN
  rw [List.getElem?_eq_none (by rw [Z1r]; omega)]; exact h0
theorem Pt.parN {l : List Cd} {n : Nat} (h : Pt l n) {j : Nat} (hl : j < l.length) (h0 : 0 < j) (hj : j < n) : l[j].n.par = (parN (nds l) j : Int) ∧ Go.Ev.parN (nds l) j < j := by
 have := h j hl h0 hj
 rw [Z1kv hl]; omega
theorem Z1vc {m n : Nat} {l : List Cd} (h : CdsB l) (hp : Pt l n) (cp : Option Nat) : ∀ (c i d : Nat), i < c → i < n → i < l.length → d + i < 1000000 →
  Zo1 m c (i : Int) (d : Int) l.length cp (cdsC l) = some (.v (.int .i64 ((d + dep (nds l) i : Nat) : Int)))
 | 0, i, d, hc, hn, hi, hd => by omega
 | c + 1, i, d, hc, hn, hi, hd => by
  rw [Z1gt]
  simp only [Int.toNat_natCast]
  by_cases h0 : 0 < i
  ·have hpp := hp.parN hi h0 hn
   refine st_cT (decide_eq_true (by omega)) ?_
   refine st_if (by omega) ?_
   refine Z0 (Z8u h.ok hi) ?_
   refine st_cF (decide_eq_false (by omega)) ?_
   refine st_if (by omega) ?_
   refine Z0 (Z8u h.ok hi) ?_
   refine st_cF (decide_eq_false (by omega)) ?_
   rw [Z1er]
   simp only [Int.toNat_natCast]
   refine st_if (by omega) ?_
   refine Z0 (Z8u h.ok hi) ?_
   rw [hpp.1, Z14 (by omega), Z1vc h hp cp c (parN (nds l) i) (d + 1) (by omega) (by omega) (by omega) (by omega), dep_to hp.to hn h0]
   rw [show d + (dep (nds l) (parN (nds l) i) + 1) = d + 1 + dep (nds l) (parN (nds l) i) by omega]
  ·obtain rfl : i = 0 := by omega
   refine st_cF (decide_eq_false (by omega)) ?_
   rw [Z21p]; rfl
theorem Z1ws {n : Nat} {l : List Cd} (h : CdsB l) (hp : Pt l n) (cp : Option Nat) {i : Nat} (hi : i < l.length) (hn : i < n) : Z2n [.agg [.list l.length cp (cdsC l)], .v (.int .i64 (i : Int))] = some (.v (.int .i64 (dep (nds l) i : Int))) := by
 show Zvg M l.length cp (cdsC l) (i : Int) = _
 unfold Zvg
 have hB := h.len
 have := Z1vc (m := M) h hp cp M i 0 (by unfold M; omega) hn hi (by omega)
 rw [Nat.zero_add] at this
 exact this
theorem Z1a4 {l : List Cd} (h : CdsB l) (hs : Shape (nds l)) (cp : Option Nat) {i : Nat} (hi : i < l.length) : Z2n [.agg [.list l.length cp (cdsC l)], .v (.int .i64 (i : Int))] = some (.v (.int .i64 (dep (nds l) i : Int))) :=
 Z1ws h (Pt.of hs (i + 1)) cp hi (by omega)
def b01 (b : Bool) : Int := cond b 1 0
section
variable {l : List Cd} {at_ : List Int}
end
end Go.Ev