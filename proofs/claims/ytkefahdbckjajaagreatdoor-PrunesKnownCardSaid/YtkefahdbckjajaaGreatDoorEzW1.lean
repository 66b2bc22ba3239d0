/-
 The statements about prunings: childless nodes, and those that stay.
-/
import Derived.Test.YtkefahdbckjajaaGreatDoorEzU8
import Derived.Test.YtkefahdbckjajaaGreatDoorEzGc
set_option linter.unusedSimpArgs false
set_option linter.unusedVariables false
set_option maxRecDepth 100000
namespace Go.Ev
open Go
theorem Z1nc {n : Nat} (h : n < 256) : IntKind.wrap .i64 (n : Int) = (n : Int) := Z77 (by omega) (by omega)
theorem dep8 (d : Nat) : IntKind.wrap .i64 (Int.tmod (d : Int) (8 : Int)) = ((d % 8 : Nat) : Int) := by
 rw [show (8 : Int) = ((8 : Nat) : Int) from rfl, Zv6]
 have := Nat.mod_lt d (show 0 < 8 by omega)
 exact Z77 (by omega) (by omega)
section
variable {l : List Cd}
theorem Tr.s (h : Tr l) : Shape (nds l) := h.t.valid.shape
theorem Tr.e (h : Tr l) : treeErr (nds l) = 0 := (Z1ai h.b.ok.nds).2 h.t.valid
theorem Tr.dep (h : Tr l) : ∀ i, i < (nds l).length → Go.Ev.dep (nds l) i ≤ 64 := h.t.valid.dep
theorem plan8 (h : Tr l) (d : Nat) : planE (nds l) ((d % 8 : Nat) : Int) = 0 := by
 have := Nat.mod_lt d (show 0 < 8 by omega)
 exact Zpj h.e (by omega)
theorem Z1lq (h : Tr l) (cp : Option Nat) (d : Nat) : Zk [.agg [.list l.length cp (cdsC l)], .v (.int .i64 ((d % 8 : Nat) : Int))] = some (.tup [.list (clI (nds l) tt (d % 8) l.length).length (some (clI (nds l) tt (d % 8) l.length).length) (ints (clI (nds l) tt (d % 8) l.length)), .v (.int .i64 0)]) :=
 (Zfo h.b cp _).trans (by rw [plan8 h, if_neg (by decide), Int.toNat_natCast])
theorem pStays (h : Tr l) (cp : Option Nat) (d : Nat) : Z1x [.agg [.list l.length cp (cdsC l)], .v (.int .i64 ((d % 8 : Nat) : Int))] = some (.tup [.list (inI (stays (nds l) (d % 8)) l.length).length (some (inI (stays (nds l) (d % 8)) l.length).length) (ints (inI (stays (nds l) (d % 8)) l.length)), .v (.int .i64 0)]) :=
 (Z1b9 h.b cp _).trans (by rw [plan8 h, if_neg (by decide), Int.toNat_natCast])
theorem pPrune (h : Tr l) (cp : Option Nat) (d : Nat) : Zp [.agg [.list l.length cp (cdsC l)], .v (.int .i64 ((d % 8 : Nat) : Int))] = some (delD (leftC l (stays (nds l) (d % 8)))) :=
 (Zu3 h.b cp _).trans (by rw [plan8 h, if_neg (by decide), Int.toNat_natCast])
theorem Z1pz (h : Tr l) (cp : Option Nat) (d : Nat) {q : Nat} (hq : q < l.length) (hc : chl (nds l) tt (d % 8) q = true) : Z1i [.agg [.list l.length cp (cdsC l)], .v (.int .i64 ((d % 8 : Nat) : Int)), .v (.int .i64 (q : Int))] = some (delD (leftC l (del tt q))) :=
 (Zzk h.b cp _ _).trans (by
  rw [plan8 h, if_neg (by decide)]
  unfold remD
  rw [if_neg (by omega), Int.toNat_natCast, Int.toNat_natCast, if_neg (by rw [hc]; decide)])
theorem Z1p3 (h : Tr l) (cp : Option Nat) (d : Nat) {cs : List Int} (hcs : cs.length < 1000000000) (ac : Option Nat) : Zw [.agg [.list l.length cp (cdsC l)], .v (.int .i64 ((d % 8 : Nat) : Int)), .list cs.length ac (ints cs)] =
  some (.tup [.agg [.list (leftC l (stays (nds l) (d % 8))).length (some (leftC l (stays (nds l) (d % 8))).length) (cdsC (leftC l (stays (nds l) (d % 8))))], .v (.int .i64 ((l.length - rk (stays (nds l) (d % 8)) l.length : Nat) : Int)), .v (.int .i64 0)]) := by
 have hB := h.b.len
 obtain ⟨h1, _, h3⟩ := Z1bp h.s (d % 8) cs (f := M + 1) (by unfold M; omega)
 refine (Z12d h.b cp _ hcs ac).trans ?_
 rw [plan8 h, if_neg (by decide), Int.toNat_natCast]
 unfold byD
 rw [h1, show (pby (nds l) (d % 8) (chN cs) (M + 1) tt 0).2 = l.length - rk (stays (nds l) (d % 8)) l.length by omega]
theorem Z1q0 {N : List Nd} {A : Nat → Bool} {d n : Nat} {x : Int} : x ∈ clI N A d n ↔ ∃ j : Nat, j < n ∧ chl N A d j = true ∧ x = (j : Int) := by
 unfold clI
 simp only [List.mem_map, List.mem_filter, List.mem_range]
 exact ⟨fun ⟨j, ⟨h1, h2⟩, h3⟩ => ⟨j, h1, h2, h3.symm⟩, fun ⟨j, h1, h2, h3⟩ => ⟨j, ⟨h1, h2⟩, h3.symm⟩⟩
end
theorem Z1q1 {l : List Cd} (h : Tr l) {d q : Nat} (hq : q < l.length) (hc : chl (nds l) tt d q = true) : nds (leftC l (del tt q)) = nds (leftR l (kpF l [(q : Int)])) := by
 have hn : q < (nds l).length := by rw [Zy]; exact hq
 have hk : kid (nds l) tt q = false := by unfold chl at hc; simp only [Bool.and_eq_true, Bool.not_eq_true'] at hc; exact hc.2
 rw [Z146, nds_rDelete]
 unfold delR
 refine Zpq (fun i hi => ?_) h.s.par_lt
 rw [Z13u h.s hn hk i hi]
 unfold del; rfl
theorem chl_j7 {l : List Cd} (h : Tr l) (cp : Option Nat) (a d : Nat) (ha : a < 256) {x : Option Nat} {n : Nat} {c : Option Nat} {xs : List D} :
  Z8l Z15 Zk Z1x Z39 Z1i Z2c Z1f Z3d Z49 Z50 M (a : Int) ((d % 8 : Nat) : Int) (clI (nds l) tt (d % 8) l.length).length x (ints (clI (nds l) tt (d % 8) l.length)) n c xs [.list l.length cp (cdsC l)] = some (.v (.bool true)) := by
 have hB := h.b.len
 have hcl := Zyv (nds l) tt (d % 8) l.length
 rw [Zpo]
 by_cases h0 : (clI (nds l) tt (d % 8) l.length).length = 0
 ·refine st_cT (i_eq (by omega)) ?_
  refine Z0 Zu8 ?_
  refine Z0 (rdB_v _) ?_
  rfl
 ·refine st_cF (i_ne (by omega)) ?_
  refine st_ifn (by omega) ?_
  rw [Z1nc ha, Zv6]
  have hlt := Nat.mod_lt a (show 0 < (clI (nds l) tt (d % 8) l.length).length by omega)
  refine st_if (by omega) ?_
  rw [Int.toNat_natCast, Nat.mul_one]
  obtain ⟨q, hq, hc, he⟩ := Z1q0.1 (Zzd (d := (0 : Int)) hlt)
  refine Z0 ((Zk5 hlt).trans (by rw [he])) ?_
  refine Z0 (Z1pz h cp d hq hc) ?_
  refine Z0 (rdT_v _) ?_
  refine st_if (len2 _ _) ?_
  refine Z0 (gA0 _ _) ?_
  refine Z0 (gI1 _ _ _ _) ?_
  refine st_if (len1 _) ?_
  refine st_cT rfl ?_
  refine Z0 (Z1bj (at_ := [(q : Int)]) h.b h.s (by simp) cp (some 1)) ?_
  refine Z0 (Z9p _) ?_
  refine Z0 (Z1ki (Zvg h.b _) (Z1je h.b _) _ _) ?_
  refine Z0 (rdB_v _) ?_
  rw [decide_eq_true (Z1q1 h hq hc), decide_eq_true rfl]
  refine st_cT rfl ?_
  refine Z0 Zu8 ?_
  refine Z0 (rdB_v _) ?_
  rfl
theorem Z12e {rows : List T4} (hr : ∀ t, t ∈ rows → t.ok) (rc : Option Nat) {d a : Nat} (ha : a < 256) : Z1l [.agg [.list rows.length rc (t4C rows)], .v (.int .u8 (d : Int)), .v (.int .u8 (a : Int))] = some (.v (.bool true)) := by
 show Z7q Z15 Zk Z1x Z39 Z1i Z2c Z1f Z3d Z49 Z50 M rows.length rc (t4C rows) (d : Int) (a : Int) = _
 unfold Z7q
 obtain ⟨l, cp, e1, e2, ht⟩ := Z1jj hr rc
 have hB := ht.b.len
 have hcl := Zyv (nds l) tt (d % 8) l.length
 have hil := Z128 (stays (nds l) (d % 8)) l.length
 refine Z0 e1 ?_
 refine Z0 (Z9p _) ?_
 refine st_if (len1 _) ?_
 rw [dep8]
 refine Z0 (Z1lq ht cp d) ?_
 refine Z0 (rdT_v _) ?_
 refine st_if (len2 _ _) ?_
 refine Z0 (gL0 _ _ _ _) ?_
 refine Z0 (gI1 _ _ _ _) ?_
 refine Z0 (pStays ht cp d) ?_
 refine Z0 (rdT_v _) ?_
 refine st_if (len2 _ _) ?_
 refine Z0 (gL0 _ _ _ _) ?_
 refine Z0 (gI1 _ _ _ _) ?_
 refine st_cF rfl ?_
 refine st_cF rfl ?_
 refine Z0 (Zt1 ht.b ht.s cp (d % 8)) ?_
 refine Z0 (rdL_v _ _ _) ?_
 refine Z0 (Zzl (a := clI (nds l) tt (d % 8) l.length) (b := clI (nds l) tt (d % 8) l.length) (by omega) _ _) ?_
 refine Z0 (rdB_v _) ?_
 rw [decide_eq_true rfl, decide_eq_true rfl]
 refine st_cF rfl ?_
 refine Z0 (Z1du ht.b ht.s cp (d % 8)) ?_
 refine Z0 (rdL_v _ _ _) ?_
 refine Z0 (Zzl (a := inI (stays (nds l) (d % 8)) l.length) (b := inI (stays (nds l) (d % 8)) l.length) (by omega) _ _) ?_
 refine Z0 (rdB_v _) ?_
 rw [decide_eq_true rfl, decide_eq_true rfl]
 refine st_cF rfl ?_
 with_reducible exact chl_j7 ht cp a d ha
end Go.Ev