/-
 The statement about the start of the tree's state machine.
-/
import Derived.Test.YthakkigkdhaihaaGreatDoorEzS0
set_option linter.unusedSimpArgs false
set_option linter.unusedVariables false
set_option maxRecDepth 100000
namespace Go.Ev
open Go
theorem lives28 : Z9e [] = some (.v (.bool true)) := by kernel_rfl
theorem zero28 : Zr1 [] = some (.v (.int .i64 0)) := by kernel_rfl
def treeC : List D := match Z5o [.agg rootC, .list 0 (some 0) []] with
 | some (.tup (.agg c :: _)) => c
 | _ => []
theorem tDel : Zbq [.agg rootC, .list 0 (some 0) []] = some (.tup [.agg treeC, .v (.int .i64 0)]) := by kernel_rfl
theorem tDelZ : Zbq [.agg [.list 0 (some 0) []], .list 0 (some 0) []] = some (.tup [.agg [.list 0 (some 0) []], .v (.int .i64 0)]) := by kernel_rfl
def tlC : D := match treeC with
 | [x] => x
 | _ => .v (.bool false)
def tcC : List D := match tlC with
 | .list _ _ c => c
 | _ => []
theorem treeC_eq : treeC = [.list 1 (some 1) tcC] := by kernel_rfl
theorem tSame : Z8c [.agg treeC, .agg (cellsOf Zbp)] = some (.v (.int .i64 1)) := by kernel_rfl
def recL : List D := match Z8u [.agg recZ] with
 | some (.agg c) => c
 | _ => []
theorem tCop : Zfv [.agg recZ] = some (.agg recL) := by kernel_rfl
theorem recL_len : recL.length = 8 := by kernel_rfl
theorem tSame23 : Z8d [.agg recL, .agg recZ] = some (.v (.int .i64 1)) := by kernel_rfl
section
variable (n b : Int) (l : List Oid) (x y z : Bool) (w : Int)
theorem st_Tree : Zy [.agg (stC n b l x y z w)] = some (.agg treeC) := by
 show Z4a M (stC n b l x y z w) = _
 unfold Z4a
 refine st_if rfl ?_
 refine Z7 tDel ?_
 rw [treeC_eq]
 rfl
theorem st_Last : Z25 [.agg (stC n b l x y z w)] = some (.agg recL) := by
 show Z8f M (stC n b l x y z w) = _
 unfold Z8f
 refine st_if rfl ?_
 refine Z7 tCop ?_
 refine Z7 rfl ?_
 exact st_if recL_len rfl
theorem st_Counters : Z19 [.agg (stC n b l x y z w)] = some (.agg (startC w x y z)) := rfl
theorem st_Index : Z13 [.agg (stC n b l x y z w)] = some (.v (.int .i64 0)) := rfl
theorem st_Pending : Z1f [.agg (stC n b l x y z w)] = some (.v (.bool false)) := rfl
theorem st_Reason : Z1m [.agg (stC n b l x y z w)] = some (.v (.int .u8 0)) := rfl
theorem st_Peak : Z1a [.agg (stC n b l x y z w)] = some (.v (.int .i64 1)) := rfl
theorem st_Length : Z1n [.agg (stC n b l x y z w)] = some (.v (.int .i64 n)) := rfl
theorem st_Budget : Z1o [.agg (stC n b l x y z w)] = some (.v (.int .i64 b)) := rfl
theorem Z1kh (h : ∀ x, x ∈ l → x.ok) (hb : l.length ≤ 300) : Z1p [.agg (stC n b l x y z w)] = some (.agg (inC l (some l.length) x y z)) := by
 show Z6g M (stC n b l x y z w) = _
 unfold Z6g
 refine st_if rfl ?_
 refine st_if rfl ?_
 refine Z7 rfl ?_
 refine Z7 (Z1go h hb (some l.length)) ?_
 rfl
end
theorem Z1je (n b : Int) {l : List Oid} (h : ∀ x, x ∈ l → x.ok) (hb : l.length ≤ 300) (cp : Option Nat) (x y z : Bool) (w : Int) : Zkh [.agg (stC n b l x y z w), .agg (mC n b l cp x y z w)] = some (.v (.bool true)) := by
 show Zuj Z13 Z1f Z1m Zy Z1a Z8c Z19 Z1n Z1o Z4r Z1p Z8d Z25 M (stC n b l x y z w) (mC n b l cp x y z w) = _
 unfold Zuj
 refine st_if rfl ?_
 refine st_if rfl ?_
 refine Z7 (st_Tree n b l x y z w) ?_
 refine Z7 rfl ?_
 refine st_if (by rw [treeC_eq]; rfl) ?_
 refine Z7 tSame ?_
 refine Z7 rfl ?_
 refine st_cT rfl ?_
 rw [treeC_eq]
 refine Z7 rfl ?_
 show (capO (some 1) fun n6 => _) = _
 simp only [capO]
 refine Z7 rfl ?_
 refine st_cT rfl ?_
 refine Z7 (st_Counters n b l x y z w) ?_
 refine Z7 rfl ?_
 refine Z7 (Z1l5 _ _ _) ?_
 refine st_cT rfl ?_
 refine Z7 (st_Index n b l x y z w) ?_
 refine Z7 rfl ?_
 refine Z7 rfl ?_
 refine st_cT rfl ?_
 refine Z7 (st_Pending n b l x y z w) ?_
 refine Z7 rfl ?_
 refine Z7 rfl ?_
 refine st_cT rfl ?_
 refine Z7 (st_Reason n b l x y z w) ?_
 refine Z7 rfl ?_
 refine Z7 rfl ?_
 refine st_cT rfl ?_
 refine Z7 (st_Peak n b l x y z w) ?_
 refine Z7 rfl ?_
 refine Z7 rfl ?_
 refine st_cT rfl ?_
 refine Z7 (st_Length n b l x y z w) ?_
 refine Z7 rfl ?_
 refine Z7 rfl ?_
 refine st_cT (i_eq rfl) ?_
 refine Z7 (st_Budget n b l x y z w) ?_
 refine Z7 rfl ?_
 refine Z7 rfl ?_
 refine st_cT (i_eq rfl) ?_
 refine Z7 (Z1kh n b l x y z w h hb) ?_
 refine Z7 rfl ?_
 refine Z7 (Z1jd h hb (some l.length) cp x y z) ?_
 refine Z7 rfl ?_
 refine st_cT rfl ?_
 refine Z7 (st_Last n b l x y z w) ?_
 refine Z7 rfl ?_
 refine Z7 tSame23 ?_
 rfl
theorem Z1eb {n : Int} {l : List Oid} {b : Int} (h : n < 1 ∨ 64 < n) : pstErr n l b = 1 := by
 have s : Zqh n l = 1 := if_pos h
 unfold pstErr
 rw [s]
 rfl
theorem Z1ki (n b : Int) {l : List Oid} (h : ∀ x, x ∈ l → x.ok) (hb : l.length ≤ 300) (cp : Option Nat) (x y z : Bool) (h0 : pstErr n l b = 0) :
  Z26 M n b (pstErr n l b) l.length cp (oidsC l) x y z = some (.v (.bool true)) := by
 rw [Zhl]
 refine Z7 (Z1ea n h hb cp x y z b) ?_
 rw [h0, if_pos rfl]
 generalize hw : IntKind.wrap .i64 (n + 1) = w
 refine Z7 rfl ?_
 refine st_if rfl ?_
 refine Z7 rfl ?_
 refine Z7 rfl ?_
 refine st_if rfl ?_
 iterate 22 refine Z7 rfl ?_
 refine st_cF rfl ?_
 refine Z7 zero28 ?_
 refine Z7 rfl ?_
 refine st_cF rfl ?_
 rw [Zfo]
 refine st_cF rfl ?_
 refine Z7 (Z1jc n l cp x y z b) ?_
 rw [hw]
 refine Z7 rfl ?_
 refine Z7 (Z1je n b h hb cp x y z w) ?_
 refine Z7 rfl ?_
 refine st_cT rfl ?_
 refine Z7 lives28 ?_
 rfl
theorem Z1jf (n b : Int) {l : List Oid} (h : ∀ x, x ∈ l → x.ok) (hb : l.length ≤ 300) (cp : Option Nat) (x y z : Bool) (h0 : pstErr n l b ≠ 0) :
  Z26 M n b (pstErr n l b) l.length cp (oidsC l) x y z = some (.v (.bool true)) := by
 rw [Zhl]
 refine Z7 (Z1ea n h hb cp x y z b) ?_
 rw [if_neg h0]
 refine Z7 rfl ?_
 refine st_if rfl ?_
 refine Z7 rfl ?_
 refine Z7 rfl ?_
 refine st_if rfl ?_
 iterate 22 refine Z7 rfl ?_
 refine st_cF (i_bnf rfl) ?_
 refine Z7 zero28 ?_
 refine Z7 rfl ?_
 refine st_cF rfl ?_
 rw [Zfo]
 refine st_cT (i_bne h0) ?_
 refine Z7 rfl ?_
 refine Z7 rfl ?_
 refine st_cT rfl ?_
 refine Z7 rfl ?_
 refine Z7 rfl ?_
 refine st_cT rfl ?_
 have e : Zy [.agg stZ] = some (.agg [.list 0 (some 0) []]) := by
  show Z4a M stZ = _
  unfold Z4a
  refine st_if rfl ?_
  refine Z7 tDelZ ?_
  rfl
 refine Z7 e ?_
 refine Z7 rfl ?_
 refine Z7 rfl ?_
 refine st_cT rfl ?_
 refine Z7 lives28 ?_
 rfl
theorem Z1d2 (n b : Int) {l : List Oid} (h : ∀ x, x ∈ l → x.ok) (cp : Option Nat) (x y z : Bool) : Zec [.v (.int .i64 n), .v (.int .i64 b), .agg (inC l cp x y z)] = some (.v (.bool true)) := by
 show Z8g M n b l.length cp (oidsC l) x y z = _
 unfold Z8g
 by_cases hb : l.length ≤ 300
 ·have key : Z26 M n b (pstErr n l b) l.length cp (oidsC l) x y z = some (.v (.bool true)) := by
   by_cases h0 : pstErr n l b = 0
   ·exact Z1ki n b h hb cp x y z h0
   ·exact Z1jf n b h hb cp x y z h0
  have j6 : ∀ v : Int, (¬ (n < 1 ∨ 64 < n) → v = pstErr n l b) → Z2s M n b v l.length cp (oidsC l) x y z = some (.v (.bool true)) := fun v hv => by
   rw [Zxt]
   by_cases h1 : n < 1
   ·have e : pstErr n l b = 1 := Z1eb (.inl h1)
    refine st_cT (decide_eq_true h1) ?_
    rw [← e]; exact key
   ·refine st_cF (decide_eq_false h1) ?_
    by_cases h2 : n > 64
    ·have e : pstErr n l b = 1 := Z1eb (.inr h2)
     refine st_cT (decide_eq_true h2) ?_
     rw [← e]; exact key
    ·refine st_cF (decide_eq_false h2) ?_
     rw [hv (by omega)]; exact key
  refine st_cF (decide_eq_false (by omega)) ?_
  refine Z7 (Z1bt h cp) ?_
  refine Z7 rfl ?_
  by_cases he : setErr l = 0
  ·refine st_cT (i_eq he) ?_
   have pe : ¬ (n < 1 ∨ 64 < n) → (if b < 1 ∨ 65536 < b then 1 else 0) = pstErr n l b := fun q => by
    have s : Zqh n l = 0 := (if_neg q).trans he
    unfold pstErr
    rw [s, if_pos rfl]
   by_cases h1 : b < 1
   ·refine st_cT (decide_eq_true h1) (j6 _ fun q => ?_)
    rw [← pe q, if_pos (.inl h1)]
   ·refine st_cF (decide_eq_false h1) ?_
    by_cases h2 : b > 65536
    ·refine st_cT (decide_eq_true h2) (j6 _ fun q => ?_)
     rw [← pe q, if_pos (.inr h2)]
    ·refine st_cF (decide_eq_false h2) (j6 _ fun q => ?_)
     rw [← pe q, if_neg (by omega)]; exact he
  ·refine st_cF (i_ne he) (j6 _ fun q => ?_)
   have s : Zqh n l = setErr l := if_neg q
   unfold pstErr
   rw [s, if_neg he]
 ·refine st_cT (decide_eq_true (by omega)) ?_
  refine Z7 lives28 ?_
  rfl
end Go.Ev