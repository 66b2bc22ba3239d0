/-
 The examples of the chapter on prunings hold.
-/
import Derived.Test.YtkefahdbckjajaaGreatDoorEzXH
import Derived.Test.YtkefahdbckjajaaGreatDoorEzXI
set_option linter.unusedSimpArgs false
set_option linter.unusedVariables false
set_option maxRecDepth 100000
namespace Go.Ev
open Go
theorem gL0 (n : Nat) (c : Option Nat) (xs r : List D) : rdL (D.list n c xs :: r)[0]? = some ⟨n, c, xs⟩ := rfl
theorem gI0 (k : IntKind) (x : Int) (r : List D) : rdI k (D.v (.int k x) :: r)[0]? = some x := rdI_v k x
theorem gI1 (k : IntKind) (x : Int) (a : D) (r : List D) : rdI k (a :: D.v (.int k x) :: r)[1]? = some x := rdI_v k x
theorem gI2 (k : IntKind) (x : Int) (a b : D) (r : List D) : rdI k (a :: b :: D.v (.int k x) :: r)[2]? = some x := rdI_v k x
theorem gA0 (cs r : List D) : rdA (D.agg cs :: r)[0]? = some cs := rfl
theorem len1 (a : D) : List.length [a] = 1 := rfl
theorem len2 (a b : D) : List.length [a, b] = 2 := rfl
theorem len3 (a b c : D) : List.length [a, b, c] = 3 := rfl
theorem Zqx (l : List Cd) (A : Nat → Bool) : (leftC l A).length = rk A l.length := lc_len (Nat.le_refl _)
theorem Z1bp {l : List Cd} (hs : Shape (nds l)) (d : Nat) (cs : List Int) {f : Nat} (hf : l.length < f) : leftC l (pby (nds l) d (chN cs) f tt 0).1 = leftC l (stays (nds l) d) ∧ left (nds l) (pby (nds l) d (chN cs) f tt 0).1 = prune (nds l) d ∧ (pby (nds l) d (chN cs) f tt 0).2 + rk (stays (nds l) d) l.length = l.length := by
 have hle := rk_le tt (nds l).length
 rw [Zy] at hle
 have hp := pby_ok hs (d := d) (fun k n => chN_lt cs k (n := n)) f tt 0 (Live.all _ _) (by rw [Zy]; omega)
 have hd : ∀ i, i < l.length → (pby (nds l) d (chN cs) f tt 0).1 i = stays (nds l) d i := fun i hi => hp.done i (by rw [Zy]; exact hi)
 have hn := hp.num
 rw [Zy, Z18q hd] at hn
 have ht : rk tt l.length = l.length := by
  have := congrArg List.length (Z1k5 (nds l) hs.par_lt)
  rw [Z5e, Zy] at this; exact this
 refine ⟨Z127 hd hs, Zpq (fun i hi => hp.done i hi) hs.par_lt, by omega⟩
def nd0 (p : Int) (o : Oid) (e : List Oid) : Cd := ⟨⟨p, o, e, []⟩, some e.length, some 0⟩
def forkC : List Cd := [nd0 (-1) anyO [anyO], nd0 0 (polO 0) [polO 1, polO 2], nd0 0 anyO [anyO], nd0 1 (polO 1) [polO 1], nd0 1 (polO 2) [polO 2]]
theorem forkB : CdsB forkC := by
 refine ⟨fun x hx => ?_, by decide, fun x hx => ?_, fun x hx => ?_⟩
 ·simp only [forkC, List.mem_cons, List.not_mem_nil, or_false] at hx
  rcases hx with rfl | rfl | rfl | rfl | rfl <;> exact ⟨by first | exact anyO_ok | exact Zlm 0 | exact Zlm 1 | exact Zlm 2, fun y hy => by
   simp [nd0] at hy
   first
    | (rcases hy with rfl | rfl <;> first | exact Zlm 1 | exact Zlm 2)
    | (subst hy; first | exact anyO_ok | exact Zlm 1 | exact Zlm 2)⟩
 ·simp only [forkC, List.mem_cons, List.not_mem_nil, or_false] at hx
  rcases hx with rfl | rfl | rfl | rfl | rfl <;> decide
 ·simp only [forkC, List.mem_cons, List.not_mem_nil, or_false] at hx
  rcases hx with rfl | rfl | rfl | rfl | rfl <;> decide
theorem forkE : treeErr (nds forkC) = 0 := by decide +kernel
theorem forkS : Shape (nds forkC) := Zfn forkB.ok forkE
theorem lv_fork : Z6a [] = some (.agg [.list 5 (some 5) (cdsC forkC)]) := by kernel_rfl
theorem Zol (d : Int) (h : ¬ (d < 0 ∨ 64 < d)) : planE (nds forkC) d = 0 := Zpj forkE h
theorem lv_c2 : Zk [.agg [.list 5 (some 5) (cdsC forkC)], .v (.int .i64 (2 : Int))] = some (.tup [.list 1 (some 1) (ints [2]), .v (.int .i64 (0 : Int))]) := (Zfo forkB (some 5) 2).trans (by rw [Zol _ (by decide)]; kernel_rfl)
theorem lv_c3 : Zk [.agg [.list 5 (some 5) (cdsC forkC)], .v (.int .i64 (3 : Int))] = some (.tup [.list 3 (some 3) (ints [2, 3, 4]), .v (.int .i64 (0 : Int))]) := (Zfo forkB (some 5) 3).trans (by rw [Zol _ (by decide)]; kernel_rfl)
theorem lv_c1 : Zk [.agg [.list 5 (some 5) (cdsC forkC)], .v (.int .i64 (1 : Int))] = some (.tup [.list 0 (some 0) (ints []), .v (.int .i64 (0 : Int))]) := (Zfo forkB (some 5) 1).trans (by rw [Zol _ (by decide)]; kernel_rfl)
theorem lv_s2 : Z1x [.agg [.list 5 (some 5) (cdsC forkC)], .v (.int .i64 (2 : Int))] = some (.tup [.list 4 (some 4) (ints [0, 1, 3, 4]), .v (.int .i64 (0 : Int))]) := (Z1b9 forkB (some 5) 2).trans (by rw [Zol _ (by decide)]; kernel_rfl)
theorem lv_s3 : Z1x [.agg [.list 5 (some 5) (cdsC forkC)], .v (.int .i64 (3 : Int))] = some (.tup [.list 0 (some 0) (ints []), .v (.int .i64 (0 : Int))]) := (Z1b9 forkB (some 5) 3).trans (by rw [Zol _ (by decide)]; kernel_rfl)
theorem lv_p2_n : (leftC forkC (stays (nds forkC) 2)).length = 4 := by rw [Zqx]; decide +kernel
theorem lv_p2 : Zp [.agg [.list 5 (some 5) (cdsC forkC)], .v (.int .i64 (2 : Int))] = some (.tup [.agg [.list 4 (some 4) (cdsC (leftC forkC (stays (nds forkC) 2)))], .v (.int .i64 (0 : Int))]) := (Zu3 forkB (some 5) 2).trans (by rw [Zol _ (by decide), if_neg (by decide)]; unfold delD; rw [show Int.toNat 2 = 2 from rfl, lv_p2_n])
theorem lv_p3_n : (leftC forkC (stays (nds forkC) 3)).length = 0 := by rw [Zqx]; decide +kernel
theorem lv_p3 : Zp [.agg [.list 5 (some 5) (cdsC forkC)], .v (.int .i64 (3 : Int))] = some (.tup [.agg [.list 0 (some 0) (cdsC (leftC forkC (stays (nds forkC) 3)))], .v (.int .i64 (0 : Int))]) := (Zu3 forkB (some 5) 3).trans (by rw [Zol _ (by decide), if_neg (by decide)]; unfold delD; rw [show Int.toNat 3 = 3 from rfl, lv_p3_n])
theorem lv_p0_n : (leftC forkC (stays (nds forkC) 0)).length = 5 := by rw [Zqx]; decide +kernel
theorem lv_p0 : Zp [.agg [.list 5 (some 5) (cdsC forkC)], .v (.int .i64 (0 : Int))] = some (.tup [.agg [.list 5 (some 5) (cdsC (leftC forkC (stays (nds forkC) 0)))], .v (.int .i64 (0 : Int))]) := (Zu3 forkB (some 5) 0).trans (by rw [Zol _ (by decide), if_neg (by decide)]; unfold delD; rw [show Int.toNat 0 = 0 from rfl, lv_p0_n])
theorem lv_by : Zw [.agg [.list 5 (some 5) (cdsC forkC)], .v (.int .i64 (3 : Int)), .list 2 (some 2) [.v (.int .i64 (1 : Int)), .v (.int .i64 (-1 : Int))]] = some (.tup [.agg [.list 0 (some 0) (cdsC (leftC forkC (stays (nds forkC) 3)))], .v (.int .i64 (5 : Int)), .v (.int .i64 (0 : Int))]) := by
 obtain ⟨h1, _, h2⟩ := Z1bp forkS 3 [1, -1] (f := M + 1) (by unfold M; decide)
 have h3 : rk (stays (nds forkC) 3) forkC.length = 0 := by decide +kernel
 have h4 : (pby (nds forkC) 3 (chN [1, -1]) (M + 1) tt 0).2 = 5 := by rw [h3] at h2; exact h2
 refine (Z12d forkB (some 5) 3 (cs := [1, -1]) (by decide) (some 2)).trans ?_
 rw [Zol _ (by decide), if_neg (by decide)]
 unfold byD
 rw [show Int.toNat 3 = 3 from rfl, h1, h4, lv_p3_n]; rfl
theorem lv_r2_n : remD forkC 2 2 = delD (leftC forkC (del tt 2)) := by unfold remD; rw [if_neg (by decide), if_neg (by decide +kernel)]; rfl
theorem lv_r2 : Z1i [.agg [.list 5 (some 5) (cdsC forkC)], .v (.int .i64 (2 : Int)), .v (.int .i64 (2 : Int))] = some (.tup [.agg [.list (leftC forkC (del tt 2)).length (some (leftC forkC (del tt 2)).length) (cdsC (leftC forkC (del tt 2)))], .v (.int .i64 0)]) := (Zzk forkB (some 5) 2 2).trans (by rw [Zol _ (by decide), if_neg (by decide), lv_r2_n]; rfl)
theorem lv_r1 : Z1i [.agg [.list 5 (some 5) (cdsC forkC)], .v (.int .i64 (2 : Int)), .v (.int .i64 (1 : Int))] = some (.tup [.agg [.list 0 (some 0) []], .v (.int .i64 (21 : Int))]) := (Zzk forkB (some 5) 2 1).trans (by rw [Zol _ (by decide), if_neg (by decide)]; unfold remD; rw [if_neg (by decide), if_pos (by decide +kernel)]; rfl)
theorem lv_r5 : Z1i [.agg [.list 5 (some 5) (cdsC forkC)], .v (.int .i64 (2 : Int)), .v (.int .i64 (5 : Int))] = some (.tup [.agg [.list 0 (some 0) []], .v (.int .i64 (19 : Int))]) := (Zzk forkB (some 5) 2 5).trans (by rw [Zol _ (by decide), if_neg (by decide)]; unfold remD; rw [if_pos (by decide)]; rfl)
theorem lv_c65 : Zk [.agg [.list 5 (some 5) (cdsC forkC)], .v (.int .i64 (65 : Int))] = some (.tup [.list 0 (some 0) [], .v (.int .i64 (1 : Int))]) := (Zfo forkB (some 5) 65).trans (by rw [Za5 forkE (by decide), if_pos (by decide)])
theorem lv_i0 : Z1f [.list 1 (some 1) (ints [2]), .list 1 (some 1) [.v (.int .i64 (2 : Int))]] = some (.v (.bool true)) := (Zzl (a := [2]) (b := [2]) (by decide) 1 (some 1)).trans (by rfl)
theorem lv_i1 : Z1f [.list 3 (some 3) (ints [2, 3, 4]), .list 3 (some 3) [.v (.int .i64 (2 : Int)), .v (.int .i64 (3 : Int)), .v (.int .i64 (4 : Int))]] = some (.v (.bool true)) := (Zzl (a := [2, 3, 4]) (b := [2, 3, 4]) (by decide) 3 (some 3)).trans (by rfl)
theorem lv_i2 : Z1f [.list 4 (some 4) (ints [0, 1, 3, 4]), .list 4 (some 4) [.v (.int .i64 (0 : Int)), .v (.int .i64 (1 : Int)), .v (.int .i64 (3 : Int)), .v (.int .i64 (4 : Int))]] = some (.v (.bool true)) := (Zzl (a := [0, 1, 3, 4]) (b := [0, 1, 3, 4]) (by decide) 4 (some 4)).trans (by rfl)
theorem Zsj (n : Nat) (c : Option Nat) (cs : List D) : Z2k [.agg [.list n c cs]] = some (.v (.int .i64 (n : Int))) := rfl
theorem lv_16 : Zlx Zk Z1x Zp Zw Z1i Z1f Z2k Z6a M = some (.v (.bool true)) := by
 rw [Z12b]
 repeat (first | with_reducible refine Z0 (lv_fork) ?_ | with_reducible refine Z0 (lv_c2) ?_ | with_reducible refine Z0 (lv_c3) ?_ | with_reducible refine Z0 (lv_c1) ?_ | with_reducible refine Z0 (lv_s2) ?_ | with_reducible refine Z0 (lv_s3) ?_ | with_reducible refine Z0 (lv_p2) ?_ | with_reducible refine Z0 (lv_p3) ?_ | with_reducible refine Z0 (lv_p0) ?_ | with_reducible refine Z0 (lv_by) ?_ | with_reducible refine Z0 (lv_r2) ?_ | with_reducible refine Z0 (lv_r1) ?_ | with_reducible refine Z0 (lv_r5) ?_ | with_reducible refine Z0 (lv_c65) ?_ | with_reducible refine Z0 (lv_i0) ?_ | with_reducible refine Z0 (lv_i1) ?_ | with_reducible refine Z0 (lv_i2) ?_ | with_reducible refine Z0 (Zsj _ _ _) ?_ | with_reducible refine Z0 (gL0 _ _ _ _ ) ?_ | with_reducible refine Z0 (gI0 _ _ _ ) ?_ | with_reducible refine Z0 (gI1 _ _ _ _ ) ?_ | with_reducible refine Z0 (gI2 _ _ _ _ _ ) ?_ | with_reducible refine Z0 (gA0 _ _ ) ?_ | with_reducible refine Z0 (Z9p _ ) ?_ | with_reducible refine Z0 (rdT_v _ ) ?_ | with_reducible refine Z0 (rdI_v _ _ ) ?_ | with_reducible refine Z0 (rdB_v _ ) ?_ | with_reducible refine Z0 (rdL_v _ _ _ ) ?_ | with_reducible refine st_if (len1 _) ?_ | with_reducible refine st_if (len2 _ _) ?_ | with_reducible refine st_if (len3 _ _ _) ?_ | ((with_reducible refine st_cF (i_bnf ?_) ?_); exact rfl) | ((with_reducible refine st_cT (i_eq ?_) ?_); exact rfl) | ((with_reducible refine st_cF ?_ ?_); exact rfl) | ((with_reducible refine st_cT ?_ ?_); exact rfl))
 rfl
theorem lv_10 : Zlw Zk Z1x Zp Zw Z1i Z1f Z2k Z6a M = some (.v (.bool true)) := by
 rw [Z12c]
 repeat (first | with_reducible refine Z0 (lv_fork) ?_ | with_reducible refine Z0 (lv_c2) ?_ | with_reducible refine Z0 (lv_c3) ?_ | with_reducible refine Z0 (lv_c1) ?_ | with_reducible refine Z0 (lv_s2) ?_ | with_reducible refine Z0 (lv_s3) ?_ | with_reducible refine Z0 (lv_p2) ?_ | with_reducible refine Z0 (lv_p3) ?_ | with_reducible refine Z0 (lv_p0) ?_ | with_reducible refine Z0 (lv_by) ?_ | with_reducible refine Z0 (lv_r2) ?_ | with_reducible refine Z0 (lv_r1) ?_ | with_reducible refine Z0 (lv_r5) ?_ | with_reducible refine Z0 (lv_c65) ?_ | with_reducible refine Z0 (lv_i0) ?_ | with_reducible refine Z0 (lv_i1) ?_ | with_reducible refine Z0 (lv_i2) ?_ | with_reducible refine Z0 (Zsj _ _ _) ?_ | with_reducible refine Z0 (gL0 _ _ _ _ ) ?_ | with_reducible refine Z0 (gI0 _ _ _ ) ?_ | with_reducible refine Z0 (gI1 _ _ _ _ ) ?_ | with_reducible refine Z0 (gI2 _ _ _ _ _ ) ?_ | with_reducible refine Z0 (gA0 _ _ ) ?_ | with_reducible refine Z0 (Z9p _ ) ?_ | with_reducible refine Z0 (rdT_v _ ) ?_ | with_reducible refine Z0 (rdI_v _ _ ) ?_ | with_reducible refine Z0 (rdB_v _ ) ?_ | with_reducible refine Z0 (rdL_v _ _ _ ) ?_ | with_reducible refine st_if (len1 _) ?_ | with_reducible refine st_if (len2 _ _) ?_ | with_reducible refine st_if (len3 _ _ _) ?_ | ((with_reducible refine st_cF (i_bnf ?_) ?_); exact rfl) | ((with_reducible refine st_cT (i_eq ?_) ?_); exact rfl) | ((with_reducible refine st_cF ?_ ?_); exact rfl) | ((with_reducible refine st_cT ?_ ?_); exact rfl))
 with_reducible exact lv_16
theorem lv_6 : Zok Zk Z1x Zp Zw Z1i Z1f Z2k Z6a M = some (.v (.bool true)) := by
 rw [Z14p]
 repeat (first | with_reducible refine Z0 (lv_fork) ?_ | with_reducible refine Z0 (lv_c2) ?_ | with_reducible refine Z0 (lv_c3) ?_ | with_reducible refine Z0 (lv_c1) ?_ | with_reducible refine Z0 (lv_s2) ?_ | with_reducible refine Z0 (lv_s3) ?_ | with_reducible refine Z0 (lv_p2) ?_ | with_reducible refine Z0 (lv_p3) ?_ | with_reducible refine Z0 (lv_p0) ?_ | with_reducible refine Z0 (lv_by) ?_ | with_reducible refine Z0 (lv_r2) ?_ | with_reducible refine Z0 (lv_r1) ?_ | with_reducible refine Z0 (lv_r5) ?_ | with_reducible refine Z0 (lv_c65) ?_ | with_reducible refine Z0 (lv_i0) ?_ | with_reducible refine Z0 (lv_i1) ?_ | with_reducible refine Z0 (lv_i2) ?_ | with_reducible refine Z0 (Zsj _ _ _) ?_ | with_reducible refine Z0 (gL0 _ _ _ _ ) ?_ | with_reducible refine Z0 (gI0 _ _ _ ) ?_ | with_reducible refine Z0 (gI1 _ _ _ _ ) ?_ | with_reducible refine Z0 (gI2 _ _ _ _ _ ) ?_ | with_reducible refine Z0 (gA0 _ _ ) ?_ | with_reducible refine Z0 (Z9p _ ) ?_ | with_reducible refine Z0 (rdT_v _ ) ?_ | with_reducible refine Z0 (rdI_v _ _ ) ?_ | with_reducible refine Z0 (rdB_v _ ) ?_ | with_reducible refine Z0 (rdL_v _ _ _ ) ?_ | with_reducible refine st_if (len1 _) ?_ | with_reducible refine st_if (len2 _ _) ?_ | with_reducible refine st_if (len3 _ _ _) ?_ | ((with_reducible refine st_cF (i_bnf ?_) ?_); exact rfl) | ((with_reducible refine st_cT (i_eq ?_) ?_); exact rfl) | ((with_reducible refine st_cF ?_ ?_); exact rfl) | ((with_reducible refine st_cT ?_ ?_); exact rfl))
 with_reducible exact lv_10
theorem Zu8 : Z15 [] = some (.v (.bool true)) := by
 show Zpn Zk Z1x Zp Zw Z1i Z1f Z2k Z6a M = _
 unfold Zpn
 repeat (first | with_reducible refine Z0 (lv_fork) ?_ | with_reducible refine Z0 (lv_c2) ?_ | with_reducible refine Z0 (lv_c3) ?_ | with_reducible refine Z0 (lv_c1) ?_ | with_reducible refine Z0 (lv_s2) ?_ | with_reducible refine Z0 (lv_s3) ?_ | with_reducible refine Z0 (lv_p2) ?_ | with_reducible refine Z0 (lv_p3) ?_ | with_reducible refine Z0 (lv_p0) ?_ | with_reducible refine Z0 (lv_by) ?_ | with_reducible refine Z0 (lv_r2) ?_ | with_reducible refine Z0 (lv_r1) ?_ | with_reducible refine Z0 (lv_r5) ?_ | with_reducible refine Z0 (lv_c65) ?_ | with_reducible refine Z0 (lv_i0) ?_ | with_reducible refine Z0 (lv_i1) ?_ | with_reducible refine Z0 (lv_i2) ?_ | with_reducible refine Z0 (Zsj _ _ _) ?_ | with_reducible refine Z0 (gL0 _ _ _ _ ) ?_ | with_reducible refine Z0 (gI0 _ _ _ ) ?_ | with_reducible refine Z0 (gI1 _ _ _ _ ) ?_ | with_reducible refine Z0 (gI2 _ _ _ _ _ ) ?_ | with_reducible refine Z0 (gA0 _ _ ) ?_ | with_reducible refine Z0 (Z9p _ ) ?_ | with_reducible refine Z0 (rdT_v _ ) ?_ | with_reducible refine Z0 (rdI_v _ _ ) ?_ | with_reducible refine Z0 (rdB_v _ ) ?_ | with_reducible refine Z0 (rdL_v _ _ _ ) ?_ | with_reducible refine st_if (len1 _) ?_ | with_reducible refine st_if (len2 _ _) ?_ | with_reducible refine st_if (len3 _ _ _) ?_ | ((with_reducible refine st_cF (i_bnf ?_) ?_); exact rfl) | ((with_reducible refine st_cT (i_eq ?_) ?_); exact rfl) | ((with_reducible refine st_cF ?_ ?_); exact rfl) | ((with_reducible refine st_cT ?_ ?_); exact rfl))
 with_reducible exact lv_6
end Go.Ev