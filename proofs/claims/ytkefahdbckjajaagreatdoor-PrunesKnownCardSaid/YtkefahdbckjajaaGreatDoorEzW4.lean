/-
 The statement about prunings: twice.
-/
import Derived.Test.YtkefahdbckjajaaGreatDoorEzW2
import Derived.Test.YtkefahdbckjajaaGreatDoorEzGf
set_option linter.unusedSimpArgs false
set_option linter.unusedVariables false
set_option maxRecDepth 100000
namespace Go.Ev
open Go
theorem Z1q3 {l : List Cd} (h : Tr l) (cp : Option Nat) {k : Nat} (hk : k ≤ 64) : Zp [.agg [.list l.length cp (cdsC l)], .v (.int .i64 (k : Int))] = some (delD (leftC l (stays (nds l) k))) :=
 (Zu3 h.b cp _).trans (by rw [Zpj h.e (by omega), if_neg (by decide), Int.toNat_natCast])
theorem Z16m {l : List Cd} (h : Tr l) (cp : Option Nat) (d : Nat) {uc : Option Nat} {m n : Nat} {c : Option Nat} {xs : List D} : ∀ (f i many : Nat), l.length - i < f → i ≤ l.length → many ≤ i → (many = 0 ↔ ∀ j, j < i → dep (nds l) j ≠ d) →
  Z8d Z15 Zp Z2c Z38 Z3n Z37 Z2m m f (d : Int) (many : Int) (i : Int) n c xs [.list l.length cp (cdsC l)] [.list (leftC l (stays (nds l) d)).length uc (cdsC (leftC l (stays (nds l) d)))] = some (.v (.bool true))
 | 0, i, many, hc, hi, hm, hz => by omega
 | f + 1, i, many, hc, hi, hm, hz => by
  have hB := h.b.len
  rw [Zuc]
  refine Z0 (gL0 _ _ _ _) ?_
  dsimp only
  by_cases hlt : i < l.length
  ·have hin : i < (nds l).length := by rw [Zy]; exact hlt
   refine st_cT (decide_eq_true (by omega)) ?_
   refine Z0 (Zu7 h.b h.s cp hlt) ?_
   refine Z0 (rdI_v _ _) ?_
   by_cases he : dep (nds l) i = d
   ·obtain ⟨rc, e1⟩ := Z1gf h.b h.s cp hlt (h.dep i hin)
    obtain ⟨q, hq, e2⟩ := Z1dz h cp d hlt ((Z85 h.s hin).2 (.inl (by omega))) (uc := uc) (rc := rc)
    refine st_cT (i_eq (by omega)) ?_
    refine Z0 e1 ?_
    refine Z0 (rdL_v _ _ _) ?_
    refine Z0 e2 ?_
    refine Z0 (rdI_v _ _) ?_
    refine st_cF (decide_eq_false (by omega)) ?_
    rw [Zh5, Zu (by omega), Zu (by omega)]
    exact Z16m h cp d f (i + 1) (many + 1) (by omega) (by omega) (by omega) ⟨fun q => by omega, fun q => absurd he (q i (by omega))⟩
   ·refine st_cF (i_ne (by omega)) ?_
    rw [Zh5, Zu (by omega)]
    refine Z16m h cp d f (i + 1) many (by omega) (by omega) (by omega) ⟨fun q j hj => ?_, fun q => hz.2 fun j hj => q j (by omega)⟩
    by_cases hj2 : j = i
    ·subst hj2; exact he
    ·exact hz.1 q j (by omega)
  ·refine st_cF (decide_eq_false (by omega)) ?_
   refine Z0 (gL0 _ _ _ _) ?_
   dsimp only
   have hpe := Z1al h.s (d := d)
   rw [Zy] at hpe
   have hll : (leftC l (stays (nds l) d)).length = (prune (nds l) d).length := by rw [← Zy, Zqy]
   have hi' : i = l.length := by omega
   rw [hi'] at hz
   refine st_cT ?_ ?_
   ·by_cases h0 : many = 0
    ·rw [i_eq (by omega), i_eq (by rw [hll]; have := hpe.2 (hz.1 h0); omega)]; rfl
    ·rw [i_ne (by omega), i_ne (by rw [hll]; intro q; exact h0 (hz.2 (hpe.1 (by omega))))]; rfl
   ·refine Z0 Zu8 ?_
    refine Z0 (rdB_v _) ?_
    rfl
theorem Z1bq {rows : List T4} (hr : ∀ t, t ∈ rows → t.ok) (rc : Option Nat) (d : Nat) {a : Nat} (ha : a < 256) : Z2a [.agg [.list rows.length rc (t4C rows)], .v (.int .u8 (d : Int)), .v (.int .u8 (a : Int))] = some (.v (.bool true)) := by
 show Zba Z15 Zp Z2c Z38 Z3n Z37 Z2m M rows.length rc (t4C rows) (d : Int) (a : Int) = _
 unfold Zba
 obtain ⟨l, cp, e1, e2, ht⟩ := Z1jj hr rc
 have hB := ht.b.len
 have hd8 := Nat.mod_lt d (show 0 < 8 by omega)
 have hu := Z13w ht.s (d % 8)
 have tu := ht.left hu
 have hml := Nat.mod_lt a (show 0 < d % 8 + 1 by omega)
 have hw := Z13w ht.s (a % (d % 8 + 1))
 have tw := ht.left hw
 refine Z0 e1 ?_
 refine Z0 (Z9p _) ?_
 refine st_if (len1 _) ?_
 rw [dep8]
 refine Z0 (pPrune ht cp d) ?_
 refine Z0 (rdT_v _) ?_
 refine st_if (len2 _ _) ?_
 refine Z0 (gA0 _ _) ?_
 refine Z0 (gI1 _ _ _ _) ?_
 refine st_if (len1 _) ?_
 refine Z0 (pPrune tu _ d) ?_
 refine Z0 (rdT_v _) ?_
 refine st_if (len2 _ _) ?_
 refine Z0 (gA0 _ _) ?_
 refine Z0 (gI1 _ _ _ _) ?_
 refine st_if (len1 _) ?_
 rw [Z1nc ha, Zu (by omega)]
 refine st_ifn (by omega) ?_
 rw [Zv6]
 refine Z0 (Z1q3 ht cp (k := a % (d % 8 + 1)) (by omega)) ?_
 refine Z0 (rdT_v _) ?_
 refine st_if (len2 _ _) ?_
 refine Z0 (gA0 _ _) ?_
 refine Z0 (gI1 _ _ _ _) ?_
 refine st_if (len1 _) ?_
 refine Z0 (pPrune tw _ d) ?_
 refine Z0 (rdT_v _) ?_
 refine st_if (len2 _ _) ?_
 refine Z0 (gA0 _ _) ?_
 refine Z0 (gI1 _ _ _ _) ?_
 refine st_if (len1 _) ?_
 refine st_cF (i_bnf rfl) ?_
 refine st_cF (i_bnf rfl) ?_
 refine st_cF (i_bnf rfl) ?_
 refine st_cF (i_bnf rfl) ?_
 have s1 : nds (leftC l (stays (nds l) (d % 8))) = nds (leftC (leftC l (stays (nds l) (d % 8))) (stays (nds (leftC l (stays (nds l) (d % 8)))) (d % 8))) := by
  refine Eq.trans ?_ (Zqy _).symm
  rw [Zqy, Z1ak ht.s (Nat.le_refl _)]
 have s2 : nds (leftC l (stays (nds l) (d % 8))) = nds (leftC (leftC l (stays (nds l) (a % (d % 8 + 1)))) (stays (nds (leftC l (stays (nds l) (a % (d % 8 + 1))))) (d % 8))) := by
  refine Eq.trans ?_ (Zqy _).symm
  rw [Zqy, Zqy, Z1ak ht.s (by omega)]
 refine Z0 (Z14q (Zvg ht.b _) (Zvg tu.b _) _ _) ?_
 refine Z0 (rdI_v _ _) ?_
 rw [decide_eq_true s1]
 refine st_cF rfl ?_
 refine Z0 (Z14q (Zvg ht.b _) (Zvg tw.b _) _ _) ?_
 refine Z0 (rdI_v _ _) ?_
 rw [decide_eq_true s2]
 refine st_cF rfl ?_
 rw [Zud]
 exact Z16m ht cp (d % 8) M 0 0 (by unfold M; omega) (by omega) (by omega) ⟨fun _ j hj => by omega, fun _ => rfl⟩
end Go.Ev