/-
 The statements about prunings: by choices.
-/
import Derived.Test.YtkefahdbckjajaaGreatDoorEzW1
import Derived.Test.YtkefahdbckjajaaGreatDoorEzGd
import Derived.Test.YtkefahdbckjajaaGreatDoorEzGe
set_option linter.unusedSimpArgs false
set_option linter.unusedVariables false
set_option maxRecDepth 100000
namespace Go.Ev
open Go
theorem Zqy {l : List Cd} (d : Nat) : nds (leftC l (stays (nds l) d)) = prune (nds l) d := Z146 _ _
theorem inI_rk (A : Nat → Bool) : ∀ n, (inI A n).length = rk A n
 | 0 => rfl
 | n + 1 => by
  rw [Z18w, rk]
  split
  ·rw [List.length_append, inI_rk A n]; rfl
  ·exact inI_rk A n
theorem Z1q2 {A : Nat → Bool} {n : Nat} {x : Int} : x ∈ inI A n ↔ ∃ j : Nat, j < n ∧ A j = true ∧ x = (j : Int) := by
 unfold inI
 simp only [List.mem_map, List.mem_filter, List.mem_range]
 exact ⟨fun ⟨j, ⟨h1, h2⟩, h3⟩ => ⟨j, h1, h2, h3.symm⟩, fun ⟨j, h1, h2, h3⟩ => ⟨j, ⟨h1, h2⟩, h3.symm⟩⟩
theorem Tr.left {l : List Cd} (h : Tr l) {A : Nat → Bool} (hu : Up (nds l) A) : Tr (leftC l A) :=
 ⟨Zvg h.b _, by rw [Z146]; exact Z1l7 h.t hu, by rw [Zqx]; have := rk_le A l.length; have := h.len; omega⟩
theorem Z1dz {l : List Cd} (h : Tr l) (cp : Option Nat) (d : Nat) {i : Nat} (hi : i < l.length) (hs : stays (nds l) d i = true) {uc : Option Nat} {rc : Option Nat} :
  ∃ k : Int, 0 ≤ k ∧ Z3n [.agg [.list (leftC l (stays (nds l) d)).length uc (cdsC (leftC l (stays (nds l) d)))], .list (line (nds l) i).length rc (oidsC (line (nds l) i))] = some (.v (.int .i64 k)) := by
 have hu := Z13w h.s d
 have ht := h.left hu
 have hin : i < (nds l).length := by rw [Zy]; exact hi
 refine ⟨_, ?_, Z1n9 ht.b ht.s ht.dep uc (Z1n8 h.s h.b.ok.nds hin) rc⟩
 rw [Z146]
 exact Z1mn h.s hu hin hs
theorem Z1kp {l : List Cd} (h : Tr l) (cp : Option Nat) (d : Nat) {uc sc : Option Nat} {m n : Nat} {c : Option Nat} {xs : List D} : ∀ (f k : Nat), (inI (stays (nds l) d) l.length).length - k < f → k ≤ (inI (stays (nds l) d) l.length).length →
  Z9q Z15 Zp Zw Z2c Z3d Z49 Z6w Z38 Z3n Z37 m f (inI (stays (nds l) d) l.length).length sc (ints (inI (stays (nds l) d) l.length)) (k : Int) n c xs [.list l.length cp (cdsC l)] [.list (leftC l (stays (nds l) d)).length uc (cdsC (leftC l (stays (nds l) d)))] = some (.v (.bool true))
 | 0, k, hc, hk => by omega
 | f + 1, k, hc, hk => by
  have hB := h.b.len
  have hil := Z128 (stays (nds l) d) l.length
  rw [Zwz]
  by_cases hlt : k < (inI (stays (nds l) d) l.length).length
  ·obtain ⟨i, hi, hs, he⟩ := Z1q2.1 (Zzd (d := (0 : Int)) hlt)
   have hin : i < (nds l).length := by rw [Zy]; exact hi
   obtain ⟨rc, e1⟩ := Z1gf h.b h.s cp hi (h.dep i hin)
   obtain ⟨q, hq, e2⟩ := Z1dz h cp d hi hs (uc := uc) (rc := rc)
   refine st_cT (decide_eq_true (by omega)) ?_
   refine st_if (by omega) ?_
   rw [Int.toNat_natCast, Nat.mul_one]
   refine Z0 ((Zk5 hlt).trans (by rw [he])) ?_
   refine Z0 e1 ?_
   refine Z0 (rdL_v _ _ _) ?_
   refine Z0 e2 ?_
   refine Z0 (rdI_v _ _) ?_
   refine st_cF (decide_eq_false (by omega)) ?_
   rw [Zu (by omega)]
   exact Z1kp h cp d f (k + 1) (by omega) (by omega)
  ·refine st_cF (decide_eq_false (by omega)) ?_
   refine Z0 Zu8 ?_
   refine Z0 (rdB_v _) ?_
   rfl
theorem Z1gh {rows : List T4} (hr : ∀ t, t ∈ rows → t.ok) (rc : Option Nat) (d : Nat) (cs : List Int) (ac : Option Nat) : Z2u [.agg [.list rows.length rc (t4C rows)], .v (.int .u8 (d : Int)), .list cs.length ac (ints cs)] = some (.v (.bool true)) := by
 show Zfs Z15 Zp Zw Z2c Z3d Z49 Z6w Z38 Z3n Z37 M rows.length rc (t4C rows) (d : Int) cs.length ac (ints cs) = _
 unfold Zfs
 by_cases h40 : 40 < cs.length
 ·refine st_cT (decide_eq_true (by omega)) ?_
  refine Z0 Zu8 ?_
  refine Z0 (rdB_v _) ?_
  rfl
 ·refine st_cF (decide_eq_false (by omega)) ?_
  obtain ⟨l, cp, e1, e2, ht⟩ := Z1jj hr rc
  have hB := ht.b.len
  have hil := Z128 (stays (nds l) (d % 8)) l.length
  have hrk := inI_rk (stays (nds l) (d % 8)) l.length
  obtain ⟨p, pc, p1, p2, p3⟩ := Z1lp ht.b ht.s cp (d % 8)
  refine Z0 e1 ?_
  refine Z0 (Z9p _) ?_
  refine st_if (len1 _) ?_
  rw [dep8]
  refine Z0 (pPrune ht cp d) ?_
  refine Z0 (rdT_v _) ?_
  refine st_if (len2 _ _) ?_
  refine Z0 (gA0 _ _) ?_
  refine Z0 (gI1 _ _ _ _) ?_
  refine st_if (len1 _) ?_
  refine Z0 (Z1p3 ht cp d (by omega) ac) ?_
  refine Z0 (rdT_v _) ?_
  refine st_if (len3 _ _ _) ?_
  refine Z0 (gA0 _ _) ?_
  refine Z0 (gI1 _ _ _ _) ?_
  refine Z0 (gI2 _ _ _ _ _) ?_
  refine st_if (len1 _) ?_
  refine Z0 (Z1du ht.b ht.s cp (d % 8)) ?_
  refine Z0 (rdL_v _ _ _) ?_
  refine st_cF rfl ?_
  refine st_cF rfl ?_
  refine Z0 p1 ?_
  refine Z0 (Z9p _) ?_
  refine Z0 (Z1ki (Zvg ht.b _) p3 _ _) ?_
  refine Z0 (rdB_v _) ?_
  rw [decide_eq_true ((Zqy _).trans p2.symm), decide_eq_true rfl]
  refine st_cF rfl ?_
  refine Z0 (Z14q (Zvg ht.b _) (Zvg ht.b _) _ _) ?_
  refine Z0 (rdI_v _ _) ?_
  rw [decide_eq_true rfl]
  refine st_cF rfl ?_
  refine Z0 (gL0 _ _ _ _) ?_
  dsimp only
  refine st_cF (i_bnf (by rw [Zqx, hrk])) ?_
  refine Z0 (gL0 _ _ _ _) ?_
  dsimp only
  refine st_cF (i_bnf (by rw [Z77 (by omega) (by omega), hrk]; omega)) ?_
  rw [Zvm]
  exact Z1kp ht cp (d % 8) M 0 (by unfold M; omega) (by omega)
end Go.Ev