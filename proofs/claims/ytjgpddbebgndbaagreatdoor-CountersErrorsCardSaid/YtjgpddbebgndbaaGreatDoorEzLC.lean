/-
  Records, chains and counters that are not valid: the statement.
-/
import Derived.Test.YtjgpddbebgndbaaGreatDoorEzLB
set_option linter.unusedSimpArgs false
set_option linter.unusedVariables false
set_option maxRecDepth 100000
namespace Go.Ev
open Go

theorem put_two {Z A B : List D} (hZ : Z.length = 16) (hA : A.length = 8) (hB : B.length = 8) : putL 16 (putL 16 Z 0 8 A) 8 8 B = A ++ B := by
  have e0 : putL 16 Z 0 8 A = A ++ Z.drop 8 := by
    unfold putL
    rw [if_neg (by omega)]; simp
  rw [e0]
  unfold putL
  rw [if_neg (by omega), List.take_left' hA, List.drop_eq_nil_of_le (by simp; omega), List.append_nil]

def emptyQ : Rcd := ⟨false, false, [], some 0, false, [], some 0, -1, -1, -1⟩
theorem emptyQ_ok : emptyQ.ok := ⟨fun p hp => (nomatch hp), fun p hp => (nomatch hp), fun p hp => (nomatch hp)⟩
def Rcd.nx (q : Rcd) (c : C3) : C3 := (afterC q.s c.1 q.r, afterC q.s c.2.1 q.i, afterC q.s c.2.2 q.y)
def Rcd.wr (q : Rcd) (c : C3) : Int := cond (q.r == 0) 0 (mm false (IntKind.wrap .i64 (c.1 - 1)) 0)
theorem Rcd.does (l : List Rcd) : Does Rcd.cells Rcd.nx Rcd.wr l :=
  ⟨fun _ _ => rfl, fun x _ c => law_counters_next _ _ _ _ _ _ _ _ _ _ _ _ _ _ _, fun x _ c => law_counters_wrap _ _ _ _ _ _ _ _ _ _ _ _ _ _ _⟩

section
variable {q : Rcd} (h : q.ok) {e m a : Int} {u : List Oid} (hu : ∀ x, x ∈ u → x.ok) {cu : Option Nat} {x y z : Bool}
include h hu
theorem errors_19 : F_law24_CountersErrors_j19 M (allErr Rcd.err [emptyQ, q] u) 2 2 q.s q.hp q.ps.length q.pc (polsC q.ps) q.hm q.ms.length q.mc (mapsC q.ms) q.r q.i q.y e m a u.length cu (oidsC u) x y z 16 (([emptyQ, q].map Rcd.cells).flatten) = some (.v (.bool true)) := by
  have hall : ∀ p, p ∈ [emptyQ, q] → p.ok := fun p hp => by
    rcases List.mem_cons.1 hp with rfl | hp
    · exact emptyQ_ok
    · rcases List.mem_cons.1 hp with rfl | hp
      · exact h
      · cases hp
  have hg : ∀ p, p ∈ [emptyQ, q] → sp_records_Check [.agg p.cells] = some (.v (.int .i64 p.err)) := fun p hp => law_records_Check (hall p hp)
  have hcut : cutL 16 (([emptyQ, q].map Rcd.cells).flatten) 0 (2 * 8) = ([emptyQ, q].map Rcd.cells).flatten := rfl
  have h1 := law_counters_All (Rcd.does [emptyQ, q]) hg (some 2) hu cu x y z
  have h2 := law_counters_Final (Rcd.does [emptyQ, q]) hg (some 2) hu cu x y z
  have h3 := law_counters_Zero (Rcd.does [emptyQ, q]) hg (some 2) hu cu x y z
  simp only [show [emptyQ, q].length = 2 from rfl] at h1 h2 h3
  have hs : 0 + 2 * 8 ≤ 16 := by omega
  have l2 : ∀ {x y : D}, [x, y].length = 2 := rfl
  have l4 : ∀ {x y z w : D}, [x, y, z, w].length = 4 := rfl
  rw [F_law24_CountersErrors_j19_e, hcut]
  by_cases h0 : allErr Rcd.err [emptyQ, q] u = 0
  · rw [if_pos h0] at h1 h2 h3
    rw [if_pos hs, h1, Option.bind_some, rdT_v, Option.bind_some, if_pos l2, List.getElem?_cons_zero, rdL_v, Option.bind_some, List.getElem?_cons_succ, List.getElem?_cons_zero, rdI_v, Option.bind_some, if_pos hs, if_pos hs,
      h2, Option.bind_some, rdT_v, Option.bind_some, if_pos l2, List.getElem?_cons_zero, rdI_v, Option.bind_some, List.getElem?_cons_succ, List.getElem?_cons_zero, rdI_v, Option.bind_some, h3, Option.bind_some, rdT_v, Option.bind_some, zeroC, zeroC, zeroC, if_pos l4,
      List.getElem?_cons_zero, rdI_v, Option.bind_some, List.getElem?_cons_succ, List.getElem?_cons_zero, rdI_v, Option.bind_some, List.getElem?_cons_succ, List.getElem?_cons_succ, List.getElem?_cons_zero, rdI_v, Option.bind_some,
      List.getElem?_cons_succ, List.getElem?_cons_succ, List.getElem?_cons_succ, List.getElem?_cons_zero, rdI_v, Option.bind_some, h0, bne_self_eq_false, cond_false, cond_false, cond_false, F_law24_CountersErrors_j24_e, law_lives]
    rfl
  · rw [if_neg h0] at h1 h2 h3
    rw [if_pos hs, h1, Option.bind_some, rdT_v, Option.bind_some, if_pos l2, List.getElem?_cons_zero, rdL_v, Option.bind_some, List.getElem?_cons_succ, List.getElem?_cons_zero, rdI_v, Option.bind_some, if_pos hs, if_pos hs,
      h2, Option.bind_some, rdT_v, Option.bind_some, if_pos l2, List.getElem?_cons_zero, rdI_v, Option.bind_some, List.getElem?_cons_succ, List.getElem?_cons_zero, rdI_v, Option.bind_some, h3, Option.bind_some, rdT_v, Option.bind_some, if_pos l4,
      List.getElem?_cons_zero, rdI_v, Option.bind_some, List.getElem?_cons_succ, List.getElem?_cons_zero, rdI_v, Option.bind_some, List.getElem?_cons_succ, List.getElem?_cons_succ, List.getElem?_cons_zero, rdI_v, Option.bind_some,
      List.getElem?_cons_succ, List.getElem?_cons_succ, List.getElem?_cons_succ, List.getElem?_cons_zero, rdI_v, Option.bind_some, bne_self_eq_false, cond_false, cond_false, cond_false, F_law24_CountersErrors_j24_e, law_lives, show (allErr Rcd.err [emptyQ, q] u == 0) = false from by rw [beq_eq_false_iff_ne]; exact h0]
    rfl

theorem errors_15 : F_law24_CountersErrors_j15 M q.s q.hp q.ps.length q.pc (polsC q.ps) q.hm q.ms.length q.mc (mapsC q.ms) q.r q.i q.y e m a u.length cu (oidsC u) x y z = some (.v (.bool true)) := by
  have hall : ∀ p, p ∈ [emptyQ, q] → p.ok := fun p hp => by
    rcases List.mem_cons.1 hp with rfl | hp
    · exact emptyQ_ok
    · rcases List.mem_cons.1 hp with rfl | hp
      · exact h
      · cases hp
  have hc := law_ref23_Chain (l := [emptyQ, q]) (f := Rcd.cells) (g := Rcd.err) (fun _ _ => rfl) (fun p hp => law_ref23_Check (hall p hp)) (some 2)
  have h19 := errors_19 h hu (e := e) (m := m) (a := a) (cu := cu) (x := x) (y := y) (z := z)
  rw [F_law24_CountersErrors_j15_e, show sp_law24_empty [] = some (.agg emptyQ.cells) from rfl, Option.bind_some, rdA_v, Option.bind_some, if_pos (show emptyQ.cells.length = 8 from rfl)]
  have e1 : ∀ Z : List D, Z.length = 16 → putL 16 (putL 16 Z 0 8 emptyQ.cells) 8 8 q.cells = ([emptyQ, q].map Rcd.cells).flatten := fun Z hZ => by
    have := put_two (A := emptyQ.cells) (B := q.cells) hZ rfl rfl
    rw [this, List.map_cons, List.map_cons, List.map_nil, List.flatten_cons, List.flatten_cons, List.flatten_nil, List.append_nil]
  have e2 := e1 [(D.v (.bool false)), (D.v (.bool false)), (D.list 0 (some 0) []), (D.v (.bool false)), (D.list 0 (some 0) []), (D.v (.int .i64 (0 : Int))), (D.v (.int .i64 (0 : Int))), (D.v (.int .i64 (0 : Int))), (D.v (.bool false)), (D.v (.bool false)), (D.list 0 (some 0) []), (D.v (.bool false)), (D.list 0 (some 0) []), (D.v (.int .i64 (0 : Int))), (D.v (.int .i64 (0 : Int))), (D.v (.int .i64 (0 : Int)))] rfl
  rw [e2]
  simp only [show [emptyQ, q].length = 2 from rfl] at hc
  rw [hc, Option.bind_some, rdI_v, Option.bind_some, law_ref07_Check hu, Option.bind_some, rdI_v, Option.bind_some]
  unfold allErr at h19
  by_cases h0 : chainErr Rcd.err [emptyQ, q] = 0
  · rw [if_pos h0] at h19
    rw [h0, show ((0 : Int) == 0) = true from rfl, cond_true]
    exact h19
  · rw [if_neg h0] at h19
    rw [show (chainErr Rcd.err [emptyQ, q] == 0) = false from by rw [beq_eq_false_iff_ne]; exact h0, cond_false]
    exact h19

theorem errors_11 : F_law24_CountersErrors_j11 M (stepErr e m a q.err) q.s q.hp q.ps.length q.pc (polsC q.ps) q.hm q.ms.length q.mc (mapsC q.ms) q.r q.i q.y e m a u.length cu (oidsC u) x y z = some (.v (.bool true)) := by
  have hl3 : (if stepErr e m a q.err = 0 then ctrC (afterC q.s e q.r) (afterC q.s m q.i) (afterC q.s a q.y) else ctrC 0 0 0).length = 3 := by split <;> rfl
  have h2 : ∀ {x y : D}, [x, y].length = 2 := rfl
  rw [F_law24_CountersErrors_j11_e, law_counters_Next (law_records_Check h), Option.bind_some, rdT_v, Option.bind_some, if_pos h2, List.getElem?_cons_zero, rdA_v, Option.bind_some, List.getElem?_cons_succ, List.getElem?_cons_zero, rdI_v, Option.bind_some, if_pos hl3,
    law_counters_Wrap (law_records_Check h), Option.bind_some, rdT_v, Option.bind_some, if_pos h2, List.getElem?_cons_zero, rdI_v, Option.bind_some, List.getElem?_cons_succ, List.getElem?_cons_zero, rdI_v, Option.bind_some, bne_self_eq_false, cond_false, cond_false]
  exact errors_15 h hu
end

theorem errors_loop {q : Rcd} (hp : ∀ p, p ∈ q.ps → p.id.ok) (hms : ∀ p, p ∈ q.ms → p.ok) (hb : q.ps.length < 1000000) {e m a : Int} {u : List Oid} (hu : ∀ x, x ∈ u → x.ok) {cu : Option Nat} {x y z : Bool} : ∀ (c k : Nat), q.ps.length - k < c → k ≤ q.ps.length → (∀ j (hj : j < q.ps.length), j < k → q.ps[j].qn = 0) →
    F_law24_CountersErrors_4 M c (k : Int) q.s q.hp q.ps.length q.pc (polsC q.ps) q.hm q.ms.length q.mc (mapsC q.ms) q.r q.i q.y e m a u.length cu (oidsC u) x y z = some (.v (.bool true))
  | 0, k, hc, hk, hj => by omega
  | c + 1, k, hc, hk, hj => by
    rw [F_law24_CountersErrors_4_s]
    by_cases hlt : k < q.ps.length
    · have e1 : IntKind.wrap .i64 ((k : Int) + 1) = ((k + 1 : Nat) : Int) := wrap_of (by omega) (by omega)
      rw [decide_eq_true (by omega), cond_true, if_pos (by omega), e1]
      simp only [Int.toNat_natCast]
      rw [polsC_q hp hlt, rdL_v, Option.bind_some]
      by_cases h0 : q.ps[k].qn = 0
      · simp only [h0]
        rw [show decide (((0 : Nat) : Int) > 0) = false from rfl, cond_false]
        exact errors_loop hp hms hb hu c (k + 1) (by omega) (by omega) (fun j hjl hjk => by
          by_cases hjk' : j = k
          · subst hjk'; exact h0
          · exact hj j hjl (by omega))
      · rw [decide_eq_true (show ((q.ps[k].qn : Nat) : Int) > 0 by omega), cond_true, law_lives]; rfl
    · have hq : q.ok := ⟨hp, fun p hpm => by
        obtain ⟨j, hjl, rfl⟩ := List.getElem_of_mem hpm
        exact hj j hjl (by omega), hms⟩
      rw [decide_eq_false (by omega), cond_false, law_law24_check, Option.bind_some, rdI_v, Option.bind_some, law_ref23_Check hq, Option.bind_some, rdI_v, Option.bind_some]
      have h11 := errors_11 hq hu (e := e) (m := m) (a := a) (cu := cu) (x := x) (y := y) (z := z)
      unfold stepErr at h11
      by_cases h0 : ctrErr e m a = 0
      · rw [if_pos h0] at h11
        rw [h0, show ((0 : Int) == 0) = true from rfl, cond_true]; exact h11
      · rw [if_neg h0] at h11
        rw [show (ctrErr e m a == 0) = false from by rw [beq_eq_false_iff_ne]; exact h0, cond_false]
        exact h11

theorem law_CountersErrors (q : Rcd) (hp : ∀ p, p ∈ q.ps → p.id.ok) (hms : ∀ p, p ∈ q.ms → p.ok) (e m a : Int) {u : List Oid} (hu : ∀ x, x ∈ u → x.ok) (cu : Option Nat) (x y z : Bool) :
    sp_law24_CountersErrors [.agg q.cells, .agg (ctrC e m a), .agg (inC u cu x y z)] = some (.v (.bool true)) := by
  show F_law24_CountersErrors M q.s q.hp q.ps.length q.pc (polsC q.ps) q.hm q.ms.length q.mc (mapsC q.ms) q.r q.i q.y e m a u.length cu (oidsC u) x y z = _
  unfold F_law24_CountersErrors
  rw [law_lives, Option.bind_some, rdB_v, Option.bind_some, F_law24_CountersErrors_j3_e]
  by_cases h1 : 70 < q.ps.length
  · rw [decide_eq_true (by omega)]; rfl
  rw [decide_eq_false (by omega), cond_false]
  by_cases h2 : 70 < q.ms.length
  · rw [decide_eq_true (by omega)]; rfl
  rw [decide_eq_false (by omega), cond_false]
  by_cases h3 : 300 < u.length
  · rw [decide_eq_true (by omega)]; rfl
  rw [decide_eq_false (by omega), cond_false]
  exact errors_loop hp hms (by omega) hu M 0 (by unfold M; omega) (by omega) (fun j _ hj => by omega)
end Go.Ev
