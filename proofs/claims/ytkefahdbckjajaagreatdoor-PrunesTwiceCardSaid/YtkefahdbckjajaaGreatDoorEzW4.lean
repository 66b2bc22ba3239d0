/-
  The statement about prunings: twice.
-/
import Derived.Test.YtkefahdbckjajaaGreatDoorEzW2
import Derived.Test.YtkefahdbckjajaaGreatDoorEzGf
set_option linter.unusedSimpArgs false
set_option linter.unusedVariables false
set_option maxRecDepth 100000
namespace Go.Ev
open Go

theorem Z1oo {l : List Cd} (h : Tr l) (cp : Option Nat) {k : Nat} (hk : k ≤ 64) : Zr [.agg [.list l.length cp (cdsC l)], .v (.int .i64 (k : Int))] = some (delD (leftC l (stays (nds l) k))) :=
  (Zxy h.b cp _).trans (by rw [Zrv h.e (by omega), if_neg (by decide), Int.toNat_natCast])
theorem Z15s {l : List Cd} (h : Tr l) (cp : Option Nat) (d : Nat) {uc : Option Nat} {m n : Nat} {c : Option Nat} {xs : List D} : ∀ (f i many : Nat), l.length - i < f → i ≤ l.length → many ≤ i → (many = 0 ↔ ∀ j, j < i → dep (nds l) j ≠ d) →
    Z81 Z1v Zr Z27 Z2x Z38 Z2w Z29 m f (d : Int) (many : Int) (i : Int) n c xs [.list l.length cp (cdsC l)] [.list (leftC l (stays (nds l) d)).length uc (cdsC (leftC l (stays (nds l) d)))] = some (.v (.bool true))
  | 0, i, many, hc, hi, hm, hz => by omega
  | f + 1, i, many, hc, hi, hm, hz => by
    have hB := h.b.len
    rw [Ztq]
    refine Z0 (gL0 _ _ _ _) ?_
    dsimp only
    by_cases hlt : i < l.length
    · have hin : i < (nds l).length := by rw [Zm]; exact hlt
      refine st_cT (decide_eq_true (by omega)) ?_
      refine Z0 (Ztp h.b h.s cp hlt) ?_
      refine Z0 (rdI_v _ _) ?_
      by_cases he : dep (nds l) i = d
      · obtain ⟨rc, e1⟩ := Z1fq h.b h.s cp hlt (h.dep i hin)
        obtain ⟨q, hq, e2⟩ := Z1d7 h cp d hlt ((Ze9 h.s hin).2 (.inl (by omega))) (uc := uc) (rc := rc)
        refine st_cT (i_eq (by omega)) ?_
        refine Z0 e1 ?_
        refine Z0 (rdL_v _ _ _) ?_
        refine Z0 e2 ?_
        refine Z0 (rdI_v _ _) ?_
        refine st_cF (decide_eq_false (by omega)) ?_
        rw [Zgr, Zj (by omega), Zj (by omega)]
        exact Z15s h cp d f (i + 1) (many + 1) (by omega) (by omega) (by omega) ⟨fun q => by omega, fun q => absurd he (q i (by omega))⟩
      · refine st_cF (i_ne (by omega)) ?_
        rw [Zgr, Zj (by omega)]
        refine Z15s h cp d f (i + 1) many (by omega) (by omega) (by omega) ⟨fun q j hj => ?_, fun q => hz.2 fun j hj => q j (by omega)⟩
        by_cases hj2 : j = i
        · subst hj2; exact he
        · exact hz.1 q j (by omega)
    · refine st_cF (decide_eq_false (by omega)) ?_
      refine Z0 (gL0 _ _ _ _) ?_
      dsimp only
      have hpe := Z1i5 h.s (d := d)
      rw [Zm] at hpe
      have hll : (leftC l (stays (nds l) d)).length = (prune (nds l) d).length := by rw [← Zm, Znd]
      have hi' : i = l.length := by omega
      rw [hi'] at hz
      refine st_cT ?_ ?_
      · by_cases h0 : many = 0
        · rw [i_eq (by omega), i_eq (by rw [hll]; have := hpe.2 (hz.1 h0); omega)]; rfl
        · rw [i_ne (by omega), i_ne (by rw [hll]; intro q; exact h0 (hz.2 (hpe.1 (by omega))))]; rfl
      · refine Z0 Zyb ?_
        refine Z0 (rdB_v _) ?_
        rfl
theorem Z1b1 {rows : List T4} (hr : ∀ t, t ∈ rows → t.ok) (rc : Option Nat) (d : Nat) {a : Nat} (ha : a < 256) : Zg5 [.agg [.list rows.length rc (t4C rows)], .v (.int .u8 (d : Int)), .v (.int .u8 (a : Int))] = some (.v (.bool true)) := by
  show Zax Z1v Zr Z27 Z2x Z38 Z2w Z29 M rows.length rc (t4C rows) (d : Int) (a : Int) = _
  unfold Zax
  obtain ⟨l, cp, e1, e2, ht⟩ := Z1ik hr rc
  have hB := ht.b.len
  have hd8 := Nat.mod_lt d (show 0 < 8 by omega)
  have hu := Z130 ht.s (d % 8)
  have tu := ht.left hu
  have hml := Nat.mod_lt a (show 0 < d % 8 + 1 by omega)
  have hw := Z130 ht.s (a % (d % 8 + 1))
  have tw := ht.left hw
  refine Z0 e1 ?_
  refine Z0 (Zaq _) ?_
  refine st_if (len1 _) ?_
  rw [dep8]
  refine Z0 (pPrune ht cp d) ?_
  refine Z0 (rdT_v _) ?_
  refine st_if (len2 _ _) ?_
  refine Z0 (gA0 _ _) ?_
  refine Z0 (gI1 _ _ _ _) ?_
  refine st_if (len1 _) ?_
  refine Z0 (pPrune tu _ d) ?_
  refine Z0 (rdT_v _) ?_
  refine st_if (len2 _ _) ?_
  refine Z0 (gA0 _ _) ?_
  refine Z0 (gI1 _ _ _ _) ?_
  refine st_if (len1 _) ?_
  rw [Z1om ha, Zj (by omega)]
  refine st_ifn (by omega) ?_
  rw [Zyj]
  refine Z0 (Z1oo ht cp (k := a % (d % 8 + 1)) (by omega)) ?_
  refine Z0 (rdT_v _) ?_
  refine st_if (len2 _ _) ?_
  refine Z0 (gA0 _ _) ?_
  refine Z0 (gI1 _ _ _ _) ?_
  refine st_if (len1 _) ?_
  refine Z0 (pPrune tw _ d) ?_
  refine Z0 (rdT_v _) ?_
  refine st_if (len2 _ _) ?_
  refine Z0 (gA0 _ _) ?_
  refine Z0 (gI1 _ _ _ _) ?_
  refine st_if (len1 _) ?_
  refine st_cF (i_bnf rfl) ?_
  refine st_cF (i_bnf rfl) ?_
  refine st_cF (i_bnf rfl) ?_
  refine st_cF (i_bnf rfl) ?_
  have s1 : nds (leftC l (stays (nds l) (d % 8))) = nds (leftC (leftC l (stays (nds l) (d % 8))) (stays (nds (leftC l (stays (nds l) (d % 8)))) (d % 8))) := by
    refine Eq.trans ?_ (Znd _).symm
    rw [Znd, Z19t ht.s (Nat.le_refl _)]
  have s2 : nds (leftC l (stays (nds l) (d % 8))) = nds (leftC (leftC l (stays (nds l) (a % (d % 8 + 1)))) (stays (nds (leftC l (stays (nds l) (a % (d % 8 + 1))))) (d % 8))) := by
    refine Eq.trans ?_ (Znd _).symm
    rw [Znd, Znd, Z19t ht.s (by omega)]
  refine Z0 (Z13u (Zuq ht.b _) (Zuq tu.b _) _ _) ?_
  refine Z0 (rdI_v _ _) ?_
  rw [decide_eq_true s1]
  refine st_cF rfl ?_
  refine Z0 (Z13u (Zuq ht.b _) (Zuq tw.b _) _ _) ?_
  refine Z0 (rdI_v _ _) ?_
  rw [decide_eq_true s2]
  refine st_cF rfl ?_
  rw [Ztr]
  exact Z15s ht cp (d % 8) M 0 0 (by unfold M; omega) (by omega) (by omega) ⟨fun _ j hj => by omega, fun _ => rfl⟩
end Go.Ev
