/-
 TreesAdd.
-/
import Derived.Test.YtnghcoghbbapgaaGreatDoorEzX7
import Derived.Test.YtnghcoghbbapgaaGreatDoorEzH7
import Derived.Test.YtnghcoghbbapgaaGreatDoorEzY4
set_option linter.unusedSimpArgs false
set_option linter.unusedVariables false
set_option maxRecDepth 100000
namespace Go.Ev
open Go Go.Proofs
def Gn.cd (x : Gn) : Cd := ⟨⟨x.par, x.pol, x.ex, []⟩, some x.ec, some x.qc⟩
theorem Gn.cells_len {x : Gn} (h : x.ok) : x.cells.length = 20 := by simp [Gn.cells, Oid.cells_len h.1]
theorem Gn.at18 {x : Gn} (h : x.ok) : x.cells[18]? = some (.list x.ex.length (some x.ec) (oidsC x.ex)) := by
 have hok := Oid.cells_len h.1
 unfold Gn.cells
 rw [List.getElem?_cons_succ, List.getElem?_append_right (by omega), hok]; rfl
theorem Gn.at19 {x : Gn} (h : x.ok) : x.cells[19]? = some (.list x.qn (some x.qc) x.qs) := by
 have hok := Oid.cells_len h.1
 unfold Gn.cells
 rw [List.getElem?_cons_succ, List.getElem?_append_right (by omega), hok]; rfl
theorem row_node : RowOf Tryz.prog 57 Gn.cells Gn.ok := fun n ds h => by
 have ri := RowOf.int u3
 have re := RowOf.slice u31 c35 row_oid
 have rq := RowOf.anySlice (c := 27) u55 (by kernel_rfl)
 have := RowOf.struct (len := 1 + (17 + (1 + 1))) u57 c57 (Zbe.cons rfl c3 ri (by simp) (Zbe.cons rfl c35 row_oid (by simp) (Zbe.cons rfl c31 re (by simp) (Zbe.one rfl c55 rq))))
 obtain ⟨⟨p, o, ⟨e, ec⟩, q, qc, qs⟩, ⟨_, ho, ⟨_, _, he⟩, hq⟩, rfl⟩ := this n ds h
 exact ⟨⟨p, o, e, ec, q, qc, qs⟩, ⟨ho, he, fun h0 => List.length_eq_zero_iff.1 (by dsimp only at hq h0; rw [hq, h0])⟩, rfl⟩
theorem Z22t {d : D} (h : ArgFits Tryz.prog 57 d) : ∃ x : Gn, x.ok ∧ d = .agg x.cells := by
 obtain ⟨x, hx, rfl⟩ := row_node.agg ⟨_, u57⟩ h
 exact ⟨x, hx, rfl⟩
section
variable {r : List Cd} {qc : Option Nat} (hr : Tr r) {x : Cd} (hx : XOk x) (h260 : x.n.ex.length ≤ 260)
include hr hx h260
theorem Z22u (rn : Nat) (rc : Option Nat) (rs : List D) : Za1 Z12 Z16 Z6z Z51 Z5x Z21 Z2s Z4z Z46 Z4y M rn rc rs x.cells [.list r.length qc (cdsC r)] = some (.v (.bool true)) := by
 have _ := h260
 have hB := hr.b.len
 have hl := hr.len
 have hv := hr.t.valid
 have r18 := Zcx (Cd.at18 hx.ok)
 rw [Z16j]
 refine Z0 rfl ?_
 dsimp only
 by_cases h0 : r.length = 0
 ·refine st_cT (i_eq (by omega)) ?_
  refine Z0 Zp9 ?_
  rfl
 ·refine st_cF (i_ne (by omega)) ?_
  refine Z0 r18 ?_
  refine Z0 rfl ?_
  refine st_ifn (by dsimp only; omega) ?_
  refine Z0 r18 ?_
  dsimp only
  rw [Z1a0]
  have hk : x.n.ex.length % r.length < r.length := Nat.mod_lt _ (by omega)
  have e1 := Z1x8 hr.b hv qc hk hx.ok.ex hx.ex x.ec
  have e2 := Z17v hx.ok.ex x.ec
  by_cases q : setErr x.n.ex = 0
  ·have e1 := e1.trans (congrArg some (if_neg (fun e => e q)))
   refine Z0 e1 ?_
   refine Z0 rfl ?_
   refine st_if rfl ?_
   refine Z0 rfl ?_
   refine Z0 (rdI_v _ _) ?_
   refine st_if rfl ?_
   refine Z0 r18 ?_
   refine Z0 e2 ?_
   refine Z0 (rdI_v _ _) ?_
   refine st_cF (i_bnf q) ?_
   refine st_cT rfl ?_
   refine Z0 r18 ?_
   refine Z0 (Z1x9 hr.b qc hx.ok.ex hx.ex x.ec) ?_
   refine Z0 rfl ?_
   have hs := Z1l0 (exC_b (cp_b hr.b) (x.n.ex.length % r.length) hx.ok.ex hx.ex (some x.n.ex.length)) (exC_b hr.b (x.n.ex.length % r.length) hx.ok.ex hx.ex x.ec) r.length none
   rw [Z19p, Z19p, List.length_map, Z23y (d := x.ec), decide_eq_true rfl, decide_eq_true rfl] at hs
   refine Z0 hs ?_
   refine Z0 rfl ?_
   refine st_cT rfl ?_
   refine Z0 Zp9 ?_
   rfl
  ·have e1 := e1.trans (congrArg some (if_pos q))
   refine Z0 e1 ?_
   refine Z0 rfl ?_
   refine st_if rfl ?_
   refine Z0 rfl ?_
   refine Z0 (rdI_v _ _) ?_
   refine st_if rfl ?_
   refine Z0 r18 ?_
   refine Z0 e2 ?_
   refine Z0 (rdI_v _ _) ?_
   refine st_cT (i_bne q) ?_
   refine st_cT (i_eq rfl) ?_
   refine Z0 rfl ?_
   refine st_cT rfl ?_
   refine Z0 Zp9 ?_
   rfl
theorem Z23z (rn : Nat) (rc : Option Nat) (rs : List D) (e1 : Z16 [.agg [.list rn rc rs]] = some (trD r qc)) : Zll Z12 Z16 Z6z Z51 Z5x Z21 Z2s Z4z Z46 Z4y M rn rc rs x.cells = some (.v (.bool true)) := by
 have hB := hr.b.len
 have hl := hr.len
 have hv := hr.t.valid
 have fin := Z22u (qc := qc) hr hx h260 rn rc rs
 rw [Z19q]
 refine Z0 e1 ?_
 refine Z0 rfl ?_
 refine st_if rfl ?_
 have eA := Z1y1 hr.b hv.shape qc hx.ok hx.q
 by_cases q : addE (nds r) x.n = 0
 ·refine Z0 (Z22s hr.b hx hv q qc (by omega)) ?_
  refine Z0 rfl ?_
  refine st_if rfl ?_
  refine Z0 rfl ?_
  refine Z0 (rdI_v _ _) ?_
  refine Z0 (rdI_v _ _) ?_
  refine st_if rfl ?_
  refine Z0 eA ?_
  refine Z0 (rdI_v _ _) ?_
  refine st_cF (i_bnf q) ?_
  refine Z0 (Z1y2 hr.b hv.shape hx (by omega) qc) ?_
  refine Z0 rfl ?_
  refine st_if rfl ?_
  refine Z0 rfl ?_
  refine Z0 (rdI_v _ _) ?_
  refine st_if rfl ?_
  have hva : Valid (nds (adC r x)) := by rw [Z1to]; exact add_valid hv hr.b.ok.nds hx.ok q
  have hba := adC_b hr.b hx (by omega)
  have hla := Z1x4 r x
  have hat := atC_le r x
  have hdl := Z1ha (at_ := [(atC r x : Int)]) hba ((Z183 hba.ok.nds).2 hva) hva.shape (by simp) (fun y hy => by
   have := List.mem_singleton.1 hy
   rw [hla]; omega) (some (r.length + 1)) (some 1)
  rw [hla] at hdl
  refine Z0 hdl ?_
  refine Z0 rfl ?_
  refine st_if rfl ?_
  refine Z0 rfl ?_
  refine Z0 (rdI_v _ _) ?_
  refine st_if rfl ?_
  refine st_cF rfl ?_
  refine st_cF rfl ?_
  refine st_cF (i_bnf rfl) ?_
  have s1 := Z1l0 hba (addC_b hr.b hx.ok hx.ex hx.q (by omega)) (r.length + 1) none
  rw [hla, Z1to, Z1ss, decide_eq_true rfl, decide_eq_true rfl] at s1
  refine Z0 s1 ?_
  refine Z0 rfl ?_
  refine st_cF rfl ?_
  have hw : nds (leftC (adC r x) (kpF (adC r x) [(atC r x : Int)])) = nds r := by
   rw [Z1f3, Z1to]
   have := add_del hv hr.b.ok.nds hx.ok q
   unfold delR at this
   refine Eq.trans ?_ this
   congr 1
   funext i
   unfold kpF
   rw [Z1to]
   rfl
  have s2 := Z1l0 (Z1sr hba (kpF (adC r x) [(atC r x : Int)])) hr.b (leftC (adC r x) (kpF (adC r x) [(atC r x : Int)])).length qc
  rw [hw, decide_eq_true rfl, decide_eq_true rfl] at s2
  refine Z0 s2 ?_
  refine Z0 rfl ?_
  refine st_cF rfl ?_
  exact fin
 ·refine Z0 (Z1x5 hr.b hx hv q qc) ?_
  refine Z0 rfl ?_
  refine st_if rfl ?_
  refine Z0 rfl ?_
  refine Z0 (rdI_v _ _) ?_
  refine Z0 (rdI_v _ _) ?_
  refine st_if rfl ?_
  refine Z0 eA ?_
  refine Z0 (rdI_v _ _) ?_
  refine st_cT (i_bne q) ?_
  refine st_cF (i_bnf rfl) ?_
  refine Z0 rfl ?_
  refine st_cF rfl ?_
  refine st_cF rfl ?_
  exact fin
end
theorem Z1vx {rows : List T4} (hr : ∀ t, t ∈ rows → t.ok) (rc : Option Nat) {x : Gn} (hx : x.ok) :
  Zr6 [.agg [.list rows.length rc (t4C rows)], .agg x.cells] = some (.v (.bool true)) := by
 show Zkd Z12 Z16 Z6z Z51 Z5x Z21 Z2s Z4z Z46 Z4y M rows.length rc (t4C rows) x.cells = _
 unfold Zkd
 refine st_if (Gn.cells_len hx) ?_
 refine Z0 (Zcx (Gn.at18 hx)) ?_
 by_cases h260 : 260 < x.ex.length
 ·refine st_cT (decide_eq_true (by dsimp only; omega)) ?_
  refine Z0 Zp9 ?_
  rfl
 ·refine st_cF (decide_eq_false (by dsimp only; omega)) ?_
  refine Z0 (Zcx (Gn.at19 hx)) ?_
  by_cases hq : 0 < x.qn
  ·refine st_cT (decide_eq_true (by dsimp only; omega)) ?_
   refine Z0 Zp9 ?_
   rfl
  ·refine st_cF (decide_eq_false (by dsimp only; omega)) ?_
   obtain ⟨r, qc, e1, e2, ht⟩ := Z1wv hr rc
   have hq0 : x.qn = 0 := by omega
   have hqs := hx.2.2 hq0
   have ec : x.cells = x.cd.cells := by
    unfold Gn.cells
    rw [hq0, hqs]
    rfl
   have hxo : XOk x.cd := ⟨⟨hx.1, hx.2.1⟩, by show x.ex.length < _; omega, by show 0 < _; omega⟩
   rw [ec]
   exact Z23z (qc := qc) ht hxo (by show x.ex.length ≤ 260; omega) _ _ _ e1
end Go.Ev