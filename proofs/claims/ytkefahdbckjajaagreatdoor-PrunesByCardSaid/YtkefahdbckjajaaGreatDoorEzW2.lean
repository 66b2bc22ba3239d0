/-
  The statements about prunings: by choices.
-/
import Derived.Test.YtkefahdbckjajaaGreatDoorEzW1
import Derived.Test.YtkefahdbckjajaaGreatDoorEzGd
import Derived.Test.YtkefahdbckjajaaGreatDoorEzGe
set_option linter.unusedSimpArgs false
set_option linter.unusedVariables false
set_option maxRecDepth 100000
namespace Go.Ev
open Go

theorem Znd {l : List Cd} (d : Nat) : nds (leftC l (stays (nds l) d)) = prune (nds l) d := Z1a3 _ _
theorem rBy {l : List Cd} (h : Tr l) (cp : Option Nat) (d : Nat) {cs : List Int} (hcs : cs.length < 1000000000) (ac : Option Nat) : ∃ r rc, Z53 [.agg [.list l.length cp (cdsC l)], .v (.int .i64 (d : Int)), .list cs.length ac (ints cs)] = some (.tup [.agg [.list r.length rc (cdsC r)], .v (.int .i64 ((l.length - rk (stays (nds l) d) l.length : Nat) : Int))]) ∧ nds r = prune (nds l) d ∧ CdsB r := by
  have hB := h.b.len
  obtain ⟨r, rc, e1, e2, e3⟩ := Z1hg h.b h.s cp d hcs ac
  obtain ⟨_, h2, h3⟩ := Z1b0 h.s d cs (f := M) (by unfold M; omega)
  refine ⟨r, rc, ?_, e2.trans h2, e3⟩
  rw [show l.length - rk (stays (nds l) d) l.length = (pby (nds l) d (chN cs) M tt 0).2 by omega]
  exact e1
theorem Z1hk {rows : List T4} (hr : ∀ t, t ∈ rows → t.ok) (rc : Option Nat) (d : Nat) (cs : List Int) (ac : Option Nat) : Zli [.agg [.list rows.length rc (t4C rows)], .v (.int .u8 (d : Int)), .list cs.length ac (ints cs)] = some (.v (.bool true)) := by
  show Zh3 Z1v Zq Z27 Z4b Z53 M rows.length rc (t4C rows) (d : Int) cs.length ac (ints cs) = _
  unfold Zh3
  by_cases h40 : 40 < cs.length
  · refine st_cT (decide_eq_true (by omega)) ?_
    refine Z0 Zyb ?_
    refine Z0 (rdB_v _) ?_
    rfl
  · refine st_cF (decide_eq_false (by omega)) ?_
    obtain ⟨l, cp, e1, e2, ht⟩ := Z1ik hr rc
    obtain ⟨r, qc, r1, r2, r3⟩ := rBy ht cp (d % 8) (cs := cs) (by omega) ac
    refine Z0 e1 ?_
    refine Z0 (Zaq _) ?_
    refine st_if (len1 _) ?_
    rw [dep8]
    refine Z0 (Z1jo ht cp d (by omega) ac) ?_
    refine Z0 (rdT_v _) ?_
    refine st_if (len3 _ _ _) ?_
    refine Z0 (gA0 _ _) ?_
    refine Z0 (gI1 _ _ _ _) ?_
    refine Z0 (gI2 _ _ _ _ _) ?_
    refine st_if (len1 _) ?_
    refine Z0 r1 ?_
    refine Z0 (rdT_v _) ?_
    refine st_if (len2 _ _) ?_
    refine Z0 (gA0 _ _) ?_
    refine Z0 (gI1 _ _ _ _) ?_
    refine st_if (len1 _) ?_
    refine st_cT rfl ?_
    refine st_cT (i_eq rfl) ?_
    refine Z0 (Z1jf (Zuq ht.b _) r3 _ _) ?_
    refine Z0 (rdB_v _) ?_
    rw [decide_eq_true ((Znd _).trans r2.symm), decide_eq_true rfl]
    refine st_cT rfl ?_
    refine Z0 Zyb ?_
    refine Z0 (rdB_v _) ?_
    rfl

theorem inI_rk (A : Nat → Bool) : ∀ n, (inI A n).length = rk A n
  | 0 => rfl
  | n + 1 => by
    rw [Z186, rk]
    split
    · rw [List.length_append, inI_rk A n]; rfl
    · exact inI_rk A n
theorem Z1on {A : Nat → Bool} {n : Nat} {x : Int} : x ∈ inI A n ↔ ∃ j : Nat, j < n ∧ A j = true ∧ x = (j : Int) := by
  unfold inI
  simp only [List.mem_map, List.mem_filter, List.mem_range]
  exact ⟨fun ⟨j, ⟨h1, h2⟩, h3⟩ => ⟨j, h1, h2, h3.symm⟩, fun ⟨j, h1, h2, h3⟩ => ⟨j, ⟨h1, h2⟩, h3.symm⟩⟩
theorem Tr.left {l : List Cd} (h : Tr l) {A : Nat → Bool} (hu : Up (nds l) A) : Tr (leftC l A) :=
  ⟨Zuq h.b _, by rw [Z1a3]; exact Z1k6 h.t hu, by rw [Zya]; have := rk_le A l.length; have := h.len; omega⟩
theorem Z1d7 {l : List Cd} (h : Tr l) (cp : Option Nat) (d : Nat) {i : Nat} (hi : i < l.length) (hs : stays (nds l) d i = true) {uc : Option Nat} {rc : Option Nat} :
    ∃ k : Int, 0 ≤ k ∧ Z38 [.agg [.list (leftC l (stays (nds l) d)).length uc (cdsC (leftC l (stays (nds l) d)))], .list (line (nds l) i).length rc (oidsC (line (nds l) i))] = some (.v (.int .i64 k)) := by
  have hu := Z130 h.s d
  have ht := h.left hu
  have hin : i < (nds l).length := by rw [Zm]; exact hi
  refine ⟨_, ?_, Z1m7 ht.b ht.s ht.dep uc (Z1m6 h.s h.b.ok.nds hin) rc⟩
  rw [Z1a3]
  exact Z1lm h.s hu hin hs
theorem Z1jp {l : List Cd} (h : Tr l) (cp : Option Nat) (d : Nat) {uc sc : Option Nat} {m n : Nat} {c : Option Nat} {xs : List D} : ∀ (f k : Nat), (inI (stays (nds l) d) l.length).length - k < f → k ≤ (inI (stays (nds l) d) l.length).length →
    Z9a Z1v Zr Zq Z27 Z6l Z4b Z6k Z2x Z38 Z2w m f (inI (stays (nds l) d) l.length).length sc (ints (inI (stays (nds l) d) l.length)) (k : Int) n c xs [.list l.length cp (cdsC l)] [.list (leftC l (stays (nds l) d)).length uc (cdsC (leftC l (stays (nds l) d)))] = some (.v (.bool true))
  | 0, k, hc, hk => by omega
  | f + 1, k, hc, hk => by
    have hB := h.b.len
    have hil := Z15g (stays (nds l) d) l.length
    rw [Zw5]
    by_cases hlt : k < (inI (stays (nds l) d) l.length).length
    · obtain ⟨i, hi, hs, he⟩ := Z1on.1 (Z12x (d := (0 : Int)) hlt)
      have hin : i < (nds l).length := by rw [Zm]; exact hi
      obtain ⟨rc, e1⟩ := Z1fq h.b h.s cp hi (h.dep i hin)
      obtain ⟨q, hq, e2⟩ := Z1d7 h cp d hi hs (uc := uc) (rc := rc)
      refine st_cT (decide_eq_true (by omega)) ?_
      refine st_if (by omega) ?_
      rw [Int.toNat_natCast, Nat.mul_one]
      refine Z0 ((Zjs hlt).trans (by rw [he])) ?_
      refine Z0 e1 ?_
      refine Z0 (rdL_v _ _ _) ?_
      refine Z0 e2 ?_
      refine Z0 (rdI_v _ _) ?_
      refine st_cF (decide_eq_false (by omega)) ?_
      rw [Zj (by omega)]
      exact Z1jp h cp d f (k + 1) (by omega) (by omega)
    · refine st_cF (decide_eq_false (by omega)) ?_
      refine Z0 Zyb ?_
      refine Z0 (rdB_v _) ?_
      rfl
theorem Z1fs {rows : List T4} (hr : ∀ t, t ∈ rows → t.ok) (rc : Option Nat) (d : Nat) (cs : List Int) (ac : Option Nat) : Zkd [.agg [.list rows.length rc (t4C rows)], .v (.int .u8 (d : Int)), .list cs.length ac (ints cs)] = some (.v (.bool true)) := by
  show Zfd Z1v Zr Zq Z27 Z6l Z4b Z6k Z2x Z38 Z2w M rows.length rc (t4C rows) (d : Int) cs.length ac (ints cs) = _
  unfold Zfd
  by_cases h40 : 40 < cs.length
  · refine st_cT (decide_eq_true (by omega)) ?_
    refine Z0 Zyb ?_
    refine Z0 (rdB_v _) ?_
    rfl
  · refine st_cF (decide_eq_false (by omega)) ?_
    obtain ⟨l, cp, e1, e2, ht⟩ := Z1ik hr rc
    have hB := ht.b.len
    have hil := Z15g (stays (nds l) (d % 8)) l.length
    have hrk := inI_rk (stays (nds l) (d % 8)) l.length
    obtain ⟨p, pc, p1, p2, p3⟩ := Z1ko ht.b ht.s cp (d % 8)
    refine Z0 e1 ?_
    refine Z0 (Zaq _) ?_
    refine st_if (len1 _) ?_
    rw [dep8]
    refine Z0 (pPrune ht cp d) ?_
    refine Z0 (rdT_v _) ?_
    refine st_if (len2 _ _) ?_
    refine Z0 (gA0 _ _) ?_
    refine Z0 (gI1 _ _ _ _) ?_
    refine st_if (len1 _) ?_
    refine Z0 (Z1jo ht cp d (by omega) ac) ?_
    refine Z0 (rdT_v _) ?_
    refine st_if (len3 _ _ _) ?_
    refine Z0 (gA0 _ _) ?_
    refine Z0 (gI1 _ _ _ _) ?_
    refine Z0 (gI2 _ _ _ _ _) ?_
    refine st_if (len1 _) ?_
    refine Z0 (Z1kp ht.b ht.s cp (d % 8)) ?_
    refine Z0 (rdL_v _ _ _) ?_
    refine st_cF rfl ?_
    refine st_cF rfl ?_
    refine Z0 p1 ?_
    refine Z0 (Zaq _) ?_
    refine Z0 (Z1jf (Zuq ht.b _) p3 _ _) ?_
    refine Z0 (rdB_v _) ?_
    rw [decide_eq_true ((Znd _).trans p2.symm), decide_eq_true rfl]
    refine st_cF rfl ?_
    refine Z0 (Z13u (Zuq ht.b _) (Zuq ht.b _) _ _) ?_
    refine Z0 (rdI_v _ _) ?_
    rw [decide_eq_true rfl]
    refine st_cF rfl ?_
    refine Z0 (gL0 _ _ _ _) ?_
    dsimp only
    refine st_cF (i_bnf (by rw [Zya, hrk])) ?_
    refine Z0 (gL0 _ _ _ _) ?_
    dsimp only
    refine st_cF (i_bnf (by rw [Z7e (by omega) (by omega), hrk]; omega)) ?_
    rw [Zuv]
    exact Z1jp ht cp (d % 8) M 0 (by unfold M; omega) (by omega)
end Go.Ev
