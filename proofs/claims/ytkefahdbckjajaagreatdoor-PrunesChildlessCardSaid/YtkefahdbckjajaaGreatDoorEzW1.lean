/-
  The statements about prunings: childless nodes, and those that stay.
-/
import Derived.Test.YtkefahdbckjajaaGreatDoorEzU8
import Derived.Test.YtkefahdbckjajaaGreatDoorEzGc
set_option linter.unusedSimpArgs false
set_option linter.unusedVariables false
set_option maxRecDepth 100000
namespace Go.Ev
open Go

theorem wrapU8i {n : Nat} (h : n < 256) : IntKind.wrap .i64 (n : Int) = (n : Int) := wrap_id (by omega) (by omega)
theorem dep8 (d : Nat) : IntKind.wrap .i64 (Int.tmod (d : Int) (8 : Int)) = ((d % 8 : Nat) : Int) := by
  rw [show (8 : Int) = ((8 : Nat) : Int) from rfl, tmod_nat]
  have := Nat.mod_lt d (show 0 < 8 by omega)
  exact wrap_id (by omega) (by omega)
section
variable {l : List Cd}
theorem Tr.s (h : Tr l) : Shape (nds l) := h.t.valid.shape
theorem Tr.e (h : Tr l) : treeErr (nds l) = 0 := (valid_iff h.b.ok.nds).2 h.t.valid
theorem Tr.dep (h : Tr l) : ∀ i, i < (nds l).length → Go.Ev.dep (nds l) i ≤ 64 := h.t.valid.dep
theorem plan8 (h : Tr l) (d : Nat) : planE (nds l) ((d % 8 : Nat) : Int) = 0 := by
  have := Nat.mod_lt d (show 0 < 8 by omega)
  exact planE_ok h.e (by omega)
theorem pChildless (h : Tr l) (cp : Option Nat) (d : Nat) : Ze [.agg [.list l.length cp (cdsC l)], .v (.int .i64 ((d % 8 : Nat) : Int))] = some (.tup [.list (clI (nds l) tt (d % 8) l.length).length (some (clI (nds l) tt (d % 8) l.length).length) (ints (clI (nds l) tt (d % 8) l.length)), .v (.int .i64 0)]) :=
  (Zg6 h.b cp _).trans (by rw [plan8 h, if_neg (by decide), Int.toNat_natCast])
theorem pStays (h : Tr l) (cp : Option Nat) (d : Nat) : Zz [.agg [.list l.length cp (cdsC l)], .v (.int .i64 ((d % 8 : Nat) : Int))] = some (.tup [.list (inI (stays (nds l) (d % 8)) l.length).length (some (inI (stays (nds l) (d % 8)) l.length).length) (ints (inI (stays (nds l) (d % 8)) l.length)), .v (.int .i64 0)]) :=
  (Zww h.b cp _).trans (by rw [plan8 h, if_neg (by decide), Int.toNat_natCast])
theorem pRemove (h : Tr l) (cp : Option Nat) (d : Nat) {q : Nat} (hq : q < l.length) (hc : chl (nds l) tt (d % 8) q = true) : Zp [.agg [.list l.length cp (cdsC l)], .v (.int .i64 ((d % 8 : Nat) : Int)), .v (.int .i64 (q : Int))] = some (delD (leftC l (del tt q))) :=
  (Zqe h.b cp _ _).trans (by
    rw [plan8 h, if_neg (by decide)]
    unfold remD
    rw [if_neg (by omega), Int.toNat_natCast, Int.toNat_natCast, if_neg (by rw [hc]; decide)])
theorem clI_mem {N : List Nd} {A : Nat → Bool} {d n : Nat} {x : Int} : x ∈ clI N A d n ↔ ∃ j : Nat, j < n ∧ chl N A d j = true ∧ x = (j : Int) := by
  unfold clI
  simp only [List.mem_map, List.mem_filter, List.mem_range]
  exact ⟨fun ⟨j, ⟨h1, h2⟩, h3⟩ => ⟨j, h1, h2, h3.symm⟩, fun ⟨j, h1, h2, h3⟩ => ⟨j, ⟨h1, h2⟩, h3.symm⟩⟩
end
/-- What the choice of a node, and its removal, come to. -/
theorem del_one {l : List Cd} (h : Tr l) {d q : Nat} (hq : q < l.length) (hc : chl (nds l) tt d q = true) : nds (leftC l (del tt q)) = nds (leftR l (kpF l [(q : Int)])) := by
  have hn : q < (nds l).length := by rw [nds_len]; exact hq
  have hk : kid (nds l) tt q = false := by unfold chl at hc; simp only [Bool.and_eq_true, Bool.not_eq_true'] at hc; exact hc.2
  rw [nds_leftC, nds_rDelete]
  unfold delR
  refine left_congr (fun i hi => ?_) h.s.par_lt
  rw [und_childless h.s hn hk i hi]
  unfold del; rfl
theorem chl_j7 {l : List Cd} (h : Tr l) (cp : Option Nat) (a d : Nat) (ha : a < 256) {x : Option Nat} {n : Nat} {c : Option Nat} {xs : List D} :
    Z5z Z4o Ze Zz Z31 Zp Z5b Z1h Z4n Z5c Z46 M (a : Int) ((d % 8 : Nat) : Int) (clI (nds l) tt (d % 8) l.length).length x (ints (clI (nds l) tt (d % 8) l.length)) n c xs [.list l.length cp (cdsC l)] = some (.v (.bool true)) := by
  have hB := h.b.len
  have hcl := clI_len (nds l) tt (d % 8) l.length
  rw [Zk3]
  by_cases h0 : (clI (nds l) tt (d % 8) l.length).length = 0
  · refine st_cT (i_eq (by omega)) ?_
    refine st_bind Z102 ?_
    refine st_bind (rdB_v _) ?_
    rfl
  · refine st_cF (i_ne (by omega)) ?_
    refine st_ifn (by omega) ?_
    rw [wrapU8i ha, tmod_nat]
    have hlt := Nat.mod_lt a (show 0 < (clI (nds l) tt (d % 8) l.length).length by omega)
    refine st_if (by omega) ?_
    rw [Int.toNat_natCast, Nat.mul_one]
    obtain ⟨q, hq, hc, he⟩ := clI_mem.1 (getD_mem (d := (0 : Int)) hlt)
    refine st_bind ((ints_get hlt).trans (by rw [he])) ?_
    refine st_bind (pRemove h cp d hq hc) ?_
    refine st_bind (rdT_v _) ?_
    refine st_if (len2 _ _) ?_
    refine st_bind (gA0 _ _) ?_
    refine st_bind (gI1 _ _ _ _) ?_
    refine st_if (len1 _) ?_
    refine st_cT rfl ?_
    refine st_bind (Z106 (at_ := [(q : Int)]) h.b h.s (by simp) cp (some 1)) ?_
    refine st_bind (rdA_some _) ?_
    refine st_bind (Z10m (leftC_b h.b _) (leftR_b h.b _) _ _) ?_
    refine st_bind (rdB_v _) ?_
    rw [decide_eq_true (del_one h hq hc), decide_eq_true rfl]
    refine st_cT rfl ?_
    refine st_bind Z102 ?_
    refine st_bind (rdB_v _) ?_
    rfl
theorem Zry {rows : List T4} (hr : ∀ t, t ∈ rows → t.ok) (rc : Option Nat) {d a : Nat} (ha : a < 256) : Z7a [.agg [.list rows.length rc (t4C rows)], .v (.int .u8 (d : Int)), .v (.int .u8 (a : Int))] = some (.v (.bool true)) := by
  show Z5d Z4o Ze Zz Z31 Zp Z5b Z1h Z4n Z5c Z46 M rows.length rc (t4C rows) (d : Int) (a : Int) = _
  unfold Z5d
  obtain ⟨l, cp, e1, e2, ht⟩ := law_TOf hr rc
  have hB := ht.b.len
  have hcl := clI_len (nds l) tt (d % 8) l.length
  have hil := inI_len (stays (nds l) (d % 8)) l.length
  refine st_bind e1 ?_
  refine st_bind (rdA_some _) ?_
  refine st_if (len1 _) ?_
  rw [dep8]
  refine st_bind (pChildless ht cp d) ?_
  refine st_bind (rdT_v _) ?_
  refine st_if (len2 _ _) ?_
  refine st_bind (gL0 _ _ _ _) ?_
  refine st_bind (gI1 _ _ _ _) ?_
  refine st_bind (pStays ht cp d) ?_
  refine st_bind (rdT_v _) ?_
  refine st_if (len2 _ _) ?_
  refine st_bind (gL0 _ _ _ _) ?_
  refine st_bind (gI1 _ _ _ _) ?_
  refine st_cF rfl ?_
  refine st_cF rfl ?_
  refine st_bind (Zyg ht.b ht.s cp (d % 8)) ?_
  refine st_bind (rdL_v _ _ _) ?_
  refine st_bind (Zte (a := clI (nds l) tt (d % 8) l.length) (b := clI (nds l) tt (d % 8) l.length) (by omega) _ _) ?_
  refine st_bind (rdB_v _) ?_
  rw [decide_eq_true rfl, decide_eq_true rfl]
  refine st_cF rfl ?_
  refine st_bind (Z10c ht.b ht.s cp (d % 8)) ?_
  refine st_bind (rdL_v _ _ _) ?_
  refine st_bind (Zte (a := inI (stays (nds l) (d % 8)) l.length) (b := inI (stays (nds l) (d % 8)) l.length) (by omega) _ _) ?_
  refine st_bind (rdB_v _) ?_
  rw [decide_eq_true rfl, decide_eq_true rfl]
  refine st_cF rfl ?_
  with_reducible exact chl_j7 ht cp a d ha
end Go.Ev
