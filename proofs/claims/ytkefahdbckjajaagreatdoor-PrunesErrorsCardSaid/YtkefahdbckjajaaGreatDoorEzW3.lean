/-
  The statement about prunings: errors.
-/
import Derived.Test.YtkefahdbckjajaaGreatDoorEzU9
import Derived.Test.YtkefahdbckjajaaGreatDoorEzW1
import Derived.Test.YtkefahdbckjajaaGreatDoorEzY4
import Derived.Test.YtkefahdbckjajaaGreatDoorEzGb
set_option linter.unusedSimpArgs false
set_option linter.unusedVariables false
set_option maxRecDepth 100000
namespace Go.Ev
open Go
section
variable {l : List Cd}
theorem err_27 (h : CdsB l) (cp : Option Nat) (d at_ : Int) (w : Int) (hw : w = if planE (nds l) d ≠ 0 then planE (nds l) d else if at_ < 0 ∨ (l.length : Int) ≤ at_ then 19 else if chl (nds l) tt d.toNat at_.toNat = true then 0 else 21) :
    Z4h Z1i Z1w Zf Zu Zq Zm Z18 Zj M d at_ w l.length cp (cdsC l) = some (.v (.bool true)) := by
  rw [Zj4]
  have lv : ∀ {r : Option D}, some (D.v (.bool true)) = r → ((Z1i []).bind fun d51 => (rdB (some d51)).bind fun b52 => some (D.v (.bool b52))) = r := fun e => by
    refine st_bind Zqt ?_
    refine st_bind (rdB_v _) ?_
    exact e
  have fin : ∀ (n : Nat) (c : Option Nat) (cs : List D) (e : Int), Zj [.agg [.list l.length cp (cdsC l)], .v (.int .i64 d), .v (.int .i64 at_)] = some (.tup [.agg [.list n c cs], .v (.int .i64 e)]) → e = w → (w ≠ 0 → n = 0) →
      ((Zj [(D.agg [(D.list l.length cp (cdsC l))]), (D.v (.int .i64 d)), (D.v (.int .i64 at_))]).bind fun d47 =>
        (rdT d47).bind fun r48 => if List.length r48 = 2 then (rdA r48[0]?).bind fun c49 => (rdI .i64 r48[1]?).bind fun x50 => if (List.length c49) = 1 then
          cond (x50 == w) (cond (w == (0 : Int)) ((Z1i []).bind fun d51 => (rdB (some d51)).bind fun b52 => some (D.v (.bool b52)))
            ((rdL c49[0]?).bind fun q53 => cond (((q53.n : Nat) : Int) == (0 : Int)) ((Z1i []).bind fun d54 => (rdB (some d54)).bind fun b55 => some (D.v (.bool b55))) (some (D.v (.bool false))))) (some (D.v (.bool false)))
          else none else none) = some (D.v (.bool true)) := fun n c cs e he h1 h2 => by
    refine st_bind he ?_
    refine st_bind (rdT_v _) ?_
    refine st_if (len2 _ _) ?_
    refine st_bind (gA0 _ _) ?_
    refine st_bind (gI1 _ _ _ _) ?_
    refine st_if (len1 _) ?_
    refine st_cT (i_eq h1) ?_
    by_cases h0 : w = 0
    · refine st_cT (i_eq h0) ?_
      exact lv rfl
    · refine st_cF (i_ne h0) ?_
      refine st_bind (gL0 _ _ _ _) ?_
      refine st_cT (i_eq (by have := h2 h0; dsimp only; omega)) ?_
      exact lv rfl
  have hR := Znz h cp d at_
  by_cases hpl : planE (nds l) d = 0
  · rw [if_neg (by simp [hpl])] at hR hw
    unfold remD at hR
    by_cases hr : at_ < 0 ∨ (l.length : Int) ≤ at_
    · rw [if_pos hr] at hR hw
      exact fin _ _ _ _ hR hw.symm (fun _ => rfl)
    · rw [if_neg hr] at hR hw
      cases hc : chl (nds l) tt d.toNat at_.toNat with
      | false =>
        rw [hc] at hR hw
        rw [if_pos rfl] at hR
        rw [if_neg (by decide)] at hw
        exact fin _ _ _ _ hR hw.symm (fun _ => rfl)
      | true =>
        rw [hc] at hR hw
        rw [if_neg (by decide)] at hR
        rw [if_pos rfl] at hw
        exact fin _ _ _ _ hR hw.symm (fun q => absurd hw q)
  · rw [if_pos hpl] at hR hw
    exact fin _ _ _ _ hR hw.symm (fun _ => rfl)
theorem err_23 (h : CdsB l) (hpl : ∀ d : Int, planE (nds l) d = 0 → Shape (nds l)) (cp : Option Nat) {d at_ : Int} (hd : planE (nds l) d = 0) (hr : ¬ (at_ < 0 ∨ (l.length : Int) ≤ at_)) (qc : Option Nat) : ∀ (c k : Nat), (clI (nds l) tt d.toNat l.length).length - k < c → k ≤ (clI (nds l) tt d.toNat l.length).length → ∀ w : Int, w = (if ((clI (nds l) tt d.toNat l.length).take k).contains at_ then 0 else 21) →
    Z4m Z1i Z1w Zf Zu Zq Zm Z18 Zj M c d at_ w (clI (nds l) tt d.toNat l.length).length qc (ints (clI (nds l) tt d.toNat l.length)) (k : Int) l.length cp (cdsC l) = some (.v (.bool true))
  | 0, k, hc, hk, w, hw => by omega
  | c + 1, k, hc, hk, w, hw => by
    have hB := h.len
    have hcl := clI_len (nds l) tt d.toNat l.length
    rw [Zkl]
    by_cases hlt : k < (clI (nds l) tt d.toNat l.length).length
    · have hg : (clI (nds l) tt d.toNat l.length).getD k 0 = (clI (nds l) tt d.toNat l.length)[k] := by simp [hlt]
      have hc1 : ((clI (nds l) tt d.toNat l.length).take (k + 1)).contains at_ = (((clI (nds l) tt d.toNat l.length).take k).contains at_ || (at_ == (clI (nds l) tt d.toNat l.length)[k])) := by
        rw [List.take_succ_eq_append_getElem hlt, List.contains_append, List.contains_cons, List.contains_nil, Bool.or_false]
      refine st_cT (decide_eq_true (by omega)) ?_
      refine st_if (by omega) ?_
      rw [Int.toNat_natCast, Nat.mul_one]
      refine st_bind ((ints_get hlt).trans (by rw [hg])) ?_
      by_cases he : (clI (nds l) tt d.toNat l.length)[k] = at_
      · refine st_cT (i_eq he) ?_
        rw [Zbd, wrap_succ (by omega)]
        refine err_23 h hpl cp hd hr qc c (k + 1) (by omega) (by omega) 0 ?_
        rw [hc1, he]; simp
      · refine st_cF (i_ne he) ?_
        rw [Zbd, wrap_succ (by omega)]
        refine err_23 h hpl cp hd hr qc c (k + 1) (by omega) (by omega) w ?_
        rw [hc1, i_ne (a := at_) (b := (clI (nds l) tt d.toNat l.length)[k]) (fun q => he q.symm), Bool.or_false]; exact hw
    · refine st_cF (decide_eq_false (by omega)) ?_
      refine err_27 h cp d at_ w ?_
      rw [if_neg (by simp [hd]), if_neg hr, hw, List.take_of_length_le (by omega)]
      by_cases hc : chl (nds l) tt d.toNat at_.toNat = true
      · have : (clI (nds l) tt d.toNat l.length).contains at_ = true := by
          rw [List.contains_iff_mem]
          exact clI_mem.2 ⟨at_.toNat, by omega, hc, by omega⟩
        rw [if_pos this, if_pos hc]
      · have : ¬ (clI (nds l) tt d.toNat l.length).contains at_ = true := by
          rw [List.contains_iff_mem]
          rintro q
          obtain ⟨j, hj, hj2, rfl⟩ := clI_mem.1 q
          exact hc (by rw [Int.toNat_natCast]; exact hj2)
        rw [if_neg this, if_neg hc]
theorem err_17 (h : CdsB l) (cp : Option Nat) (d at_ : Int) :
    Z4g Z1i Z1w Zf Zu Zq Zm Z18 Zj M d at_ (planE (nds l) d) l.length cp (cdsC l) = some (.v (.bool true)) := by
  have hB := h.len
  have hcl := clI_len (nds l) tt d.toNat l.length
  rw [Zj5]
  by_cases hpl : planE (nds l) d = 0
  · have he : treeErr (nds l) = 0 := by
      by_cases q : treeErr (nds l) = 0
      · exact q
      · rw [planE_tree q] at hpl; exact hpl
    have hd : 0 ≤ d ∧ d ≤ 64 := by
      by_cases q : d < 0 ∨ 64 < d
      · rw [planE_deep he q] at hpl; cases hpl
      · omega
    have hs := tree_shape h.ok he
    refine st_cT (i_eq hpl) ?_
    have j19 : (at_ < 0 ∨ (l.length : Int) ≤ at_) → Z2t Z1i Z1w Zf Zu Zq Zm Z18 Zj M d at_ 19 l.length cp (cdsC l) = some (.v (.bool true)) := fun q => by
      rw [Z55]
      refine st_cF (i_ne (by decide)) ?_
      exact err_27 h cp d at_ 19 (by rw [if_neg (by simp [hpl]), if_pos q])
    by_cases a1 : at_ < 0
    · refine st_cT (decide_eq_true a1) ?_
      exact j19 (.inl a1)
    · refine st_cF (decide_eq_false a1) ?_
      by_cases a2 : (l.length : Int) ≤ at_
      · refine st_cT (decide_eq_true a2) ?_
        exact j19 (.inr a2)
      · refine st_cF (decide_eq_false a2) ?_
        rw [Z55]
        refine st_cT (i_eq hpl) ?_
        have hC := Zub h hs cp d.toNat
        rw [show ((d.toNat : Nat) : Int) = d by omega] at hC
        refine st_bind hC ?_
        refine st_bind (rdL_v _ _ _) ?_
        exact err_23 h (fun d q => hs) cp hpl (by omega) none M 0 (by unfold M; omega) (by omega) 21 (by simp)
  · refine st_cF (i_ne hpl) ?_
    rw [Z55]
    refine st_cF (i_ne hpl) ?_
    exact err_27 h cp d at_ _ (by rw [if_pos hpl])
theorem err_11 (h : CdsB l) (cp : Option Nat) (d at_ : Int) :
    Z2s Z1i Z1w Zf Zu Zq Zm Z18 Zj M d at_ (planE (nds l) d) l.length cp (cdsC l) = some (.v (.bool true)) := by
  have hB := h.len
  rw [Zj6]
  have e1 := Zey h cp d
  have e2 := Ztd h cp d
  have e3 := Zqn h cp d
  have e4 := Zth h cp d (cs := []) (by decide) (some 0)
  by_cases hpl : planE (nds l) d = 0
  · rw [if_neg (by simp [hpl])] at e1 e2 e3 e4
    refine st_bind e1 ?_
    refine st_bind (rdT_v _) ?_
    refine st_if (len2 _ _) ?_
    refine st_bind (gL0 _ _ _ _) ?_
    refine st_bind (gI1 _ _ _ _) ?_
    refine st_bind e2 ?_
    refine st_bind (rdT_v _) ?_
    refine st_if (len2 _ _) ?_
    refine st_bind (gL0 _ _ _ _) ?_
    refine st_bind (gI1 _ _ _ _) ?_
    refine st_bind e3 ?_
    refine st_bind (rdT_v _) ?_
    refine st_if (len2 _ _) ?_
    refine st_bind (gA0 _ _) ?_
    refine st_bind (gI1 _ _ _ _) ?_
    refine st_if (len1 _) ?_
    refine st_bind e4 ?_
    refine st_bind (rdT_v _) ?_
    refine st_if (len3 _ _ _) ?_
    refine st_bind (gA0 _ _) ?_
    refine st_bind (gI1 _ _ _ _) ?_
    refine st_bind (gI2 _ _ _ _ _) ?_
    refine st_if (len1 _) ?_
    refine st_cF (i_bnf hpl.symm) ?_
    refine st_cF (i_bnf hpl.symm) ?_
    refine st_cF (i_bnf hpl.symm) ?_
    refine st_cF (i_bnf hpl.symm) ?_
    refine st_cF (i_bnf hpl) ?_
    exact err_17 h cp d at_
  · rw [if_pos hpl] at e1 e2 e3 e4
    refine st_bind e1 ?_
    refine st_bind (rdT_v _) ?_
    refine st_if (len2 _ _) ?_
    refine st_bind (gL0 _ _ _ _) ?_
    refine st_bind (gI1 _ _ _ _) ?_
    refine st_bind e2 ?_
    refine st_bind (rdT_v _) ?_
    refine st_if (len2 _ _) ?_
    refine st_bind (gL0 _ _ _ _) ?_
    refine st_bind (gI1 _ _ _ _) ?_
    refine st_bind e3 ?_
    refine st_bind (rdT_v _) ?_
    refine st_if (len2 _ _) ?_
    refine st_bind (gA0 _ _) ?_
    refine st_bind (gI1 _ _ _ _) ?_
    refine st_if (len1 _) ?_
    refine st_bind e4 ?_
    refine st_bind (rdT_v _) ?_
    refine st_if (len3 _ _ _) ?_
    refine st_bind (gA0 _ _) ?_
    refine st_bind (gI1 _ _ _ _) ?_
    refine st_bind (gI2 _ _ _ _ _) ?_
    refine st_if (len1 _) ?_
    refine st_cF (i_bnf rfl) ?_
    refine st_cF (i_bnf rfl) ?_
    refine st_cF (i_bnf rfl) ?_
    refine st_cF (i_bnf rfl) ?_
    refine st_cT (i_bne hpl) ?_
    refine st_bind (gL0 _ _ _ _) ?_
    refine st_bind (gL0 _ _ _ _) ?_
    refine st_cF (by decide) ?_
    refine st_cF (i_bnf rfl) ?_
    exact err_17 h cp d at_
theorem err_end (h : CdsB l) (cp : Option Nat) (d at_ : Int) (c : Nat) :
    Z3v Z1i Z1w Zf Zu Zq Zm Z18 Zj M (c + 1) d at_ (l.length : Int) l.length cp (cdsC l) = some (.v (.bool true)) := by
  rw [Zdh]
  refine st_cF (decide_eq_false (by omega)) ?_
  refine st_bind (Zvf h cp) ?_
  refine st_bind (rdI_v _ _) ?_
  have e := err_11 h cp d at_
  by_cases he : treeErr (nds l) = 0
  · refine st_cT (i_eq he) ?_
    by_cases a1 : d < 0
    · refine st_cT (decide_eq_true a1) ?_
      rw [planE_deep he (.inl a1)] at e; exact e
    · refine st_cF (decide_eq_false a1) ?_
      by_cases a2 : 64 < d
      · refine st_cT (decide_eq_true a2) ?_
        rw [planE_deep he (.inr a2)] at e; exact e
      · refine st_cF (decide_eq_false a2) ?_
        rw [planE_ok he (by omega)] at e
        rw [he]; exact e
  · refine st_cF (i_ne he) ?_
    rw [planE_tree he] at e; exact e
end
def Gn.cd (x : Gn) : Cd := ⟨⟨x.par, x.pol, x.ex, []⟩, some x.ec, some x.qc⟩
def gC (l : List Gn) : List D := (l.map Gn.cells).flatten
theorem Gn.cells_len {x : Gn} (h : x.ok) : x.cells.length = 20 := by simp [Gn.cells, Oid.cells_len h.1]
theorem gC_at {l : List Gn} (h : ∀ x, x ∈ l → x.ok) {i j : Nat} (hi : i < l.length) (hj : j < 20) : (gC l)[i * 20 + j]? = l[i].cells[j]? := row_at' (f := Gn.cells) (c := 20) (fun x hx => Gn.cells_len (h x hx)) hi hj
theorem Gn.at18 {x : Gn} (h : x.ok) : x.cells[18]? = some (.list x.ex.length (some x.ec) (oidsC x.ex)) := by
  have hok := Oid.cells_len h.1
  unfold Gn.cells
  rw [List.getElem?_cons_succ, List.getElem?_append_right (by omega), hok]; rfl
theorem Gn.at19 {x : Gn} (h : x.ok) : x.cells[19]? = some (.list x.qn (some x.qc) x.qs) := by
  have hok := Oid.cells_len h.1
  unfold Gn.cells
  rw [List.getElem?_cons_succ, List.getElem?_append_right (by omega), hok]; rfl
def Gn.good (x : Gn) : Prop := x.ex.length ≤ 260 ∧ x.qn = 0
theorem gC_cds {l : List Gn} (h : ∀ x, x ∈ l → x.ok) (hg : ∀ x, x ∈ l → x.good) : gC l = cdsC (l.map Gn.cd) := by
  unfold gC cdsC
  rw [List.map_map]
  congr 1
  refine List.map_congr_left fun x hx => ?_
  have h1 := (hg x hx).2
  have h2 := (h x hx).2.2 h1
  unfold Gn.cells
  rw [h1, h2]; rfl
theorem err_loop {l : List Gn} (h : ∀ x, x ∈ l → x.ok) (h70 : l.length ≤ 70) (cp : Option Nat) (d at_ : Int) : ∀ (c i : Nat), l.length - i < c → i ≤ l.length → (∀ j (hj : j < l.length), j < i → l[j].good) →
    Z3v Z1i Z1w Zf Zu Zq Zm Z18 Zj M c d at_ (i : Int) l.length cp (gC l) = some (.v (.bool true))
  | 0, i, hc, hi, hg => by omega
  | c + 1, i, hc, hi, hg => by
    by_cases hlt : i < l.length
    · have hok := h _ (List.getElem_mem hlt)
      rw [Zdh]
      refine st_cT (decide_eq_true (by omega)) ?_
      refine st_if (by omega) ?_
      rw [Int.toNat_natCast]
      refine st_bind (rdL_get ((gC_at h hlt (by omega)).trans (Gn.at18 hok))) ?_
      dsimp only
      by_cases a1 : 260 < l[i].ex.length
      · refine st_cT (decide_eq_true (by omega)) ?_
        refine st_bind Zqt ?_
        refine st_bind (rdB_v _) ?_
        rfl
      · refine st_cF (decide_eq_false (by omega)) ?_
        refine st_if (by omega) ?_
        refine st_bind (rdL_get ((gC_at h hlt (by omega)).trans (Gn.at19 hok))) ?_
        dsimp only
        by_cases a2 : 0 < l[i].qn
        · refine st_cT (decide_eq_true (by omega)) ?_
          refine st_bind Zqt ?_
          refine st_bind (rdB_v _) ?_
          rfl
        · refine st_cF (decide_eq_false (by omega)) ?_
          rw [Zkk, wrap_succ (by omega)]
          refine err_loop h h70 cp d at_ c (i + 1) (by omega) (by omega) fun j hj hji => ?_
          by_cases e : j = i
          · subst e; exact ⟨by omega, by omega⟩
          · exact hg j hj (by omega)
    · obtain rfl : i = l.length := by omega
      have hall : ∀ x, x ∈ l → x.good := fun x hx => by
        obtain ⟨j, hj, rfl⟩ := List.getElem_of_mem hx
        exact hg j hj hj
      rw [gC_cds h hall]
      have hb : CdsB (l.map Gn.cd) := by
        refine ⟨fun x hx => ?_, by rw [List.length_map]; omega, fun x hx => ?_, fun x hx => ?_⟩
        · obtain ⟨y, hy, rfl⟩ := List.mem_map.1 hx
          exact ⟨(h y hy).1, (h y hy).2.1⟩
        · obtain ⟨y, hy, rfl⟩ := List.mem_map.1 hx
          have := (hall y hy).1
          show y.ex.length < _
          omega
        · obtain ⟨y, hy, rfl⟩ := List.mem_map.1 hx
          show ([] : List Bool).length < _
          simp
      have := err_end hb cp d at_ c
      rw [List.length_map] at this
      exact this
theorem Zsg {l : List Gn} (h : ∀ x, x ∈ l → x.ok) (cp : Option Nat) (d at_ : Int) : Zao [.agg [.list l.length cp (gC l)], .v (.int .i64 d), .v (.int .i64 at_)] = some (.v (.bool true)) := by
  show Z63 Z1i Z1w Zf Zu Zq Zm Z18 Zj M l.length cp (gC l) d at_ = _
  unfold Z63
  by_cases h70 : 70 < l.length
  · refine st_cT (decide_eq_true (by omega)) ?_
    refine st_bind Zqt ?_
    refine st_bind (rdB_v _) ?_
    rfl
  · refine st_cF (decide_eq_false (by omega)) ?_
    exact err_loop h (by omega) cp d at_ M 0 (by unfold M; omega) (by omega) (fun j _ hj => by omega)
open Go.Proofs in
theorem row_node : RowOf Tryz.prog 33 Gn.cells Gn.ok := fun n ds h => by
  have ri := RowOf.int u3
  have re := RowOf.slice u30 c29 row_oid
  have rq := RowOf.anySlice (c := 27) u31 (by kernel_rfl)
  have := RowOf.struct (len := 1 + (17 + (1 + 1))) u33 c33 (FieldsOf.cons rfl c3 ri (by simp) (FieldsOf.cons rfl c29 row_oid (by simp) (FieldsOf.cons rfl c30 re (by simp) (FieldsOf.one rfl c31 rq))))
  obtain ⟨⟨p, o, ⟨e, ec⟩, q, qc, qs⟩, ⟨_, ho, ⟨_, _, he⟩, hq⟩, rfl⟩ := this n ds h
  exact ⟨⟨p, o, e, ec, q, qc, qs⟩, ⟨ho, he, fun h0 => List.length_eq_zero_iff.1 (by dsimp only at hq h0; rw [hq, h0])⟩, rfl⟩
open Go.Proofs in
theorem arg_tree {d : D} (h : ArgFits Tryz.prog 24 d) : ∃ (l : List Gn) (c : Nat), (∀ x, x ∈ l → x.ok) ∧ d = .agg [.list l.length (some c) (gC l)] := by
  have rl := RowOf.slice u22 c33 row_node
  have := RowOf.struct (len := 1) u24 c24 (FieldsOf.one rfl c22 rl)
  obtain ⟨⟨l, c⟩, ⟨_, _, hk⟩, rfl⟩ := this.agg ⟨_, u24⟩ h
  exact ⟨l, c, hk, rfl⟩
end Go.Ev
