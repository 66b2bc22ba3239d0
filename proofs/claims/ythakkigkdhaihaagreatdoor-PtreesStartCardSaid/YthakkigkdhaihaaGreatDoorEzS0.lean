/-
 The state machine of the tree: what it starts with.
-/
import Derived.Test.YthakkigkdhaihaaGreatDoorEzGp
import Derived.Test.YthakkigkdhaihaaGreatDoorEzS
import Derived.Test.YthakkigkdhaihaaGreatDoorEzOe
import Derived.Test.YthakkigkdhaihaaGreatDoorEzL3
set_option linter.unusedSimpArgs false
set_option linter.unusedVariables false
set_option maxRecDepth 100000
namespace Go.Ev
open Go
def b01 (b : Bool) : Int := cond b 1 0
theorem Z1i7 {α : Type} {a b : List α} {k : Nat} (ha : k < a.length) (hb : k < b.length) : a.drop k = b.drop k ↔ a[k] = b[k] ∧ a.drop (k + 1) = b.drop (k + 1) := by
 rw [List.drop_eq_getElem_cons ha, List.drop_eq_getElem_cons hb, List.cons.injEq]
theorem Z1ip {m : Nat} {a b : List Oid} (ha : ∀ x, x ∈ a → x.ok) (hb : ∀ x, x ∈ b → x.ok) (hl : a.length = b.length) (hB : a.length < 1000000000) (ac bc : Option Nat) : ∀ (c k : Nat), a.length - k < c → k ≤ a.length →
  Zcs m c a.length ac (oidsC a) b.length bc (oidsC b) (k : Int) = some (.v (.int .i64 (b01 (decide (a.drop k = b.drop k)))))
 | 0, k, hc, hk => by omega
 | c + 1, k, hc, hk => by
  have hla := Z12d ha
  have hlb := Z12d hb
  rw [Z14z]
  simp only [Int.toNat_natCast]
  by_cases hlt : k < a.length
  ·have hlt2 : k < b.length := by omega
   have ih := Z1ip (m := m) ha hb hl hB ac bc c (k + 1) (by omega) (by omega)
   have hd := Z1i7 hlt hlt2
   refine st_cT (decide_eq_true (by omega)) ?_
   refine st_if (by omega) ?_
   refine st_if (by omega) ?_
   refine st_if (by omega) ?_
   refine st_if (by omega) ?_
   rw [Zvs ha hlt, Zvs hb hlt2]
   refine Z7 (oid_eq (ha _ (List.getElem_mem hlt)) (hb _ (List.getElem_mem hlt2))) ?_
   by_cases he : a[k] = b[k]
   ·rw [decide_eq_true he]
    refine st_cF rfl ?_
    rw [Z1kf (by omega), ih]
    have : decide (a.drop k = b.drop k) = decide (a.drop (k + 1) = b.drop (k + 1)) := by
     rw [decide_eq_decide, hd]; exact ⟨fun q => q.2, fun q => ⟨he, q⟩⟩
    rw [this]
   ·rw [decide_eq_false he]
    refine st_cT rfl ?_
    rw [decide_eq_false (fun q => he (hd.1 q).1)]; rfl
  ·obtain rfl : k = a.length := by omega
   refine st_cF (decide_eq_false (by omega)) ?_
   rw [List.drop_length, List.drop_eq_nil_of_le (by omega)]; rfl
theorem Z1i8 {a b : List Oid} (ha : ∀ x, x ∈ a → x.ok) (hb : ∀ x, x ∈ b → x.ok) (hB : a.length < 1000000000) (ac bc : Option Nat) : Z9a [.list a.length ac (oidsC a), .list b.length bc (oidsC b)] = some (.v (.int .i64 (b01 (decide (a = b))))) := by
 show Zke M a.length ac (oidsC a) b.length bc (oidsC b) = _
 unfold Zke
 by_cases hl : a.length = b.length
 ·refine st_cF (i_bnf (by omega)) ?_
  have := Z1ip (m := M) ha hb hl hB ac bc M 0 (by unfold M; omega) (by omega)
  rwa [List.drop_zero, List.drop_zero] at this
 ·refine st_cT (i_bne (by omega)) ?_
  rw [decide_eq_false (fun e => hl (by rw [e]))]; rfl
theorem Z1go {l : List Oid} (h : ∀ x, x ∈ l → x.ok) (hb : l.length ≤ 300) (cp : Option Nat) : Zr [.list l.length cp (oidsC l)] = some (.list l.length (some l.length) (oidsC l)) := by
 show Z5t M l.length cp (oidsC l) = _
 unfold Z5t
 have hl := Z12d h
 by_cases h0 : l.length = 0
 ·obtain rfl : l = [] := List.eq_nil_of_length_eq_zero h0
  rfl
 ·refine st_cF (i_ne (by omega)) ?_
  simp only [Int.toNat_natCast, Nat.zero_add]
  refine st_if ⟨by omega, by omega, by unfold Zmr; omega⟩ ?_
  refine st_if hl ?_
  refine st_if (by omega) ?_
  refine st_if ⟨by omega, hl⟩ ?_
  refine st_if (by omega) ?_
  have hr : ∀ r : List D, r.length = 17 → (List.flatten (List.replicate l.length r)).length = l.length * 17 := fun r hr => by
   rw [List.length_flatten]; simp [hr]
  have e : ∀ r : List D, r.length = 17 → cutL (l.length * 17) (List.take 0 (List.flatten (List.replicate l.length r)) ++ (oidsC l ++ List.drop (l.length * 17) (List.flatten (List.replicate l.length r)))) 0 (l.length * 17) = oidsC l := fun r q => by
   rw [List.drop_eq_nil_of_le (by rw [hr r q]; omega)]
   simp only [List.take_zero, List.nil_append, List.append_nil]
   unfold cutL
   rw [if_pos ⟨rfl, rfl⟩]
  rw [e _ rfl]
theorem Z1kg (b : Int) : Z4q [.v (.int .i64 b)] = some (.v (.int .i64 (if b < 1 ∨ 65536 < b then 1 else 0))) := by
 show Znx M b = _
 unfold Znx
 by_cases h1 : b < 1
 ·rw [decide_eq_true h1, if_pos (.inl h1)]; rfl
 ·rw [decide_eq_false h1]
  by_cases h2 : b > 65536
  ·rw [decide_eq_true h2, if_pos (.inr h2)]; rfl
  ·rw [decide_eq_false h2, if_neg (by omega)]; rfl
def pstErr (n : Int) (l : List Oid) (b : Int) : Int := if Zqh n l = 0 then (if b < 1 ∨ 65536 < b then 1 else 0) else Zqh n l
def cellsOf : D → List D
 | .agg c => c
 | _ => []
def rootC : List D := cellsOf Zrk
theorem tRoot : Z8a [] = some (.agg rootC) := by kernel_rfl
theorem rRoot : Z8b [] = some (.agg (cellsOf Zbp)) := by kernel_rfl
def recZ : List D := [.v (.bool false), .v (.bool false), .list 0 (some 0) [], .v (.bool false), .list 0 (some 0) [], .v (.int .i64 0), .v (.int .i64 0), .v (.int .i64 0)]
def stC (n b : Int) (l : List Oid) (x y z : Bool) (w : Int) : List D := [.v (.int .i64 n), .v (.int .i64 0), .v (.int .i64 b), .v (.int .i64 1), .v (.bool false), .v (.int .u8 0)] ++ inC l (some l.length) x y z ++ recZ ++ rootC ++ startC w x y z
def stZ : List D := [.v (.int .i64 0), .v (.int .i64 0), .v (.int .i64 0), .v (.int .i64 0), .v (.bool false), .v (.int .u8 0)] ++ [.list 0 (some 0) [], .v (.bool false), .v (.bool false), .v (.bool false)] ++ recZ ++ [.list 0 (some 0) []] ++ ctrC 0 0 0
def mC (n b : Int) (l : List Oid) (cp : Option Nat) (x y z : Bool) (w : Int) : List D := [.v (.int .i64 n), .v (.int .i64 0), .v (.int .i64 0), .v (.int .i64 b), .v (.int .i64 1)] ++ inC l cp x y z ++ cellsOf Zbp ++ startC w x y z ++ recZ ++ [.v (.int .u8 0)]
theorem Z1ea (n : Int) {l : List Oid} (h : ∀ x, x ∈ l → x.ok) (hb : l.length ≤ 300) (cp : Option Nat) (x y z : Bool) (b : Int) : Zbr [.v (.int .i64 n), .agg (inC l cp x y z), .v (.int .i64 b)] =
  some (.tup [.agg (if pstErr n l b = 0 then stC n b l x y z (IntKind.wrap .i64 (n + 1)) else stZ), .v (.int .i64 (pstErr n l b))]) := by
 show Zny Z36 Z4q Zr Z8a M n l.length cp (oidsC l) x y z b = _
 unfold Zny
 refine Z7 (Z15w n h cp x y z) ?_
 generalize IntKind.wrap .i64 (n + 1) = w
 unfold pstErr
 by_cases h1 : Zqh n l = 0
 ·rw [h1]
  simp only [if_true]
  refine Z7 rfl ?_
  refine st_if rfl ?_
  refine Z7 rfl ?_
  refine Z7 rfl ?_
  refine st_if rfl ?_
  refine st_cT rfl ?_
  refine Z7 (Z1kg b) ?_
  refine Z7 rfl ?_
  rw [Zsi]
  by_cases h2 : b < 1 ∨ 65536 < b
  ·simp only [if_pos h2]
   exact st_cT rfl rfl
  ·simp only [if_neg h2]
   refine st_cF rfl ?_
   refine Z7 (Z1go h hb cp) ?_
   refine Z7 rfl ?_
   refine Z7 tRoot ?_
   refine Z7 rfl ?_
   rfl
 ·rw [if_neg h1, if_neg h1]
  refine Z7 rfl ?_
  refine st_if rfl ?_
  refine Z7 rfl ?_
  refine Z7 rfl ?_
  refine st_if rfl ?_
  refine st_cF (i_ne h1) ?_
  rw [Zsi, if_neg h1]
  exact st_cT (i_bne h1) rfl
theorem Z1jc (n : Int) (l : List Oid) (cp : Option Nat) (x y z : Bool) (b : Int) : Zfm [.v (.int .i64 n), .agg (inC l cp x y z), .v (.int .i64 b)] = some (.agg (mC n b l cp x y z (IntKind.wrap .i64 (n + 1)))) := by
 show Zr2 Z59 Z8b M n l.length cp (oidsC l) x y z b = _
 unfold Zr2
 refine Z7 rRoot ?_
 refine Z7 rfl ?_
 refine Z7 (Z1bu n l cp x y z) ?_
 rfl
theorem Z1jd {l : List Oid} (h : ∀ x, x ∈ l → x.ok) (hb : l.length ≤ 300) (c1 c2 : Option Nat) (x y z : Bool) : Z4r [.agg (inC l c1 x y z), .agg (inC l c2 x y z)] = some (.v (.bool true)) := by
 show Znz M l.length c1 (oidsC l) x y z l.length c2 (oidsC l) x y z = _
 unfold Znz
 refine Z7 (Z1i8 h h (by omega) c1 c2) ?_
 rw [decide_eq_true rfl]
 cases x <;> cases y <;> cases z <;> rfl
end Go.Ev