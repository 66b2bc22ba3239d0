/-
  Records as plain data: what the policies, qualifiers and records of the examples are.
-/
import Derived.Test.YtjgpddbebgndbaaGreatDoorEzL8
import Derived.Test.YtjgpddbebgndbaaGreatDoorEzG5
set_option linter.unusedSimpArgs false
set_option linter.unusedVariables false
set_option maxRecDepth 100000
namespace Go.Ev
open Go

def anyO : Oid := ⟨5, [2, 5, 29, 32, 0, 0, 0, 0, 0, 0, 0, 0, 0, 0, 0, 0]⟩
def polK (k : Nat) : Oid := ⟨3, [1, 2, 3 + k, 0, 0, 0, 0, 0, 0, 0, 0, 0, 0, 0, 0, 0]⟩
/-- A policy by its number. -/
def polO (k : Nat) : Oid := if k % 7 = 6 then anyO else polK (k % 7)
theorem polO_mod (k : Nat) : ∃ j, j < 7 ∧ polO k = polO j := ⟨k % 7, Nat.mod_lt _ (by omega), by unfold polO; rw [Nat.mod_mod]⟩
theorem polO_ok (k : Nat) : (polO k).ok := by
  obtain ⟨j, hj, e⟩ := polO_mod k
  rw [e]
  match j, hj with
  | 0, _ | 1, _ | 2, _ | 3, _ | 4, _ | 5, _ | 6, _ => exact ⟨by decide, by decide, by decide⟩
theorem polO_good (k : Nat) : (polO k).good = true := by
  obtain ⟨j, hj, e⟩ := polO_mod k
  rw [e]
  match j, hj with
  | 0, _ | 1, _ | 2, _ | 3, _ | 4, _ | 5, _ | 6, _ => decide
theorem anyO_ok : anyO.ok := polO_ok 6
theorem anyO_good : anyO.good = true := polO_good 6
theorem tmod_nat (a b : Nat) : Int.tmod (a : Int) (b : Int) = ((a % b : Nat) : Int) := by rw [Int.tmod_eq_emod_of_nonneg (by omega)]; rfl
theorem tdiv_nat (a b : Nat) : Int.tdiv (a : Int) (b : Int) = ((a / b : Nat) : Int) := by rw [Int.tdiv_eq_ediv_of_nonneg (by omega)]; rfl
theorem law_Any : sp_ref23_Any [] = some (.agg anyO.cells) := rfl
theorem law_Policy (k : Nat) : sp_law23_Policy [.v (.int .u8 (k : Int))] = some (.agg (polO k).cells) := by
  show F_law23_Policy M (k : Int) = _
  unfold F_law23_Policy polO
  rw [show (7 : Int) = ((7 : Nat) : Int) from rfl, tmod_nat]
  have hlt : k % 7 < 7 := Nat.mod_lt _ (by omega)
  generalize k % 7 = j at hlt
  match j, hlt with
  | 0, _ | 1, _ | 2, _ | 3, _ | 4, _ | 5, _ | 6, _ => rfl

/-- Qualifiers by their number. -/
def notesN (k : Nat) : Nat := if k % 4 = 0 then 0 else if k % 4 = 3 then 2 else 1
def notesC (k : Nat) : List D := if k % 4 = 1 then qaC else if k % 4 = 2 then qbC else if k % 4 = 3 then qbC ++ qaC else []
theorem notes_mod (k : Nat) : ∃ j, j < 4 ∧ notesN k = notesN j ∧ notesC k = notesC j := ⟨k % 4, Nat.mod_lt _ (by omega), by unfold notesN; rw [Nat.mod_mod], by unfold notesC; rw [Nat.mod_mod]⟩
theorem notes_ok (k : Nat) : QOk (notesN k) (notesC k) := by
  obtain ⟨j, hj, e1, e2⟩ := notes_mod k
  rw [e1, e2]
  match j, hj with
  | 0, _ => exact QOk.zero _
  | 1, _ => exact ⟨by decide, by decide, fun k hk => by
      obtain rfl : k = 0 := by have : notesN 1 = 1 := rfl; omega
      exact .inl rfl⟩
  | 2, _ => exact ⟨by decide, by decide, fun k hk => by
      obtain rfl : k = 0 := by have : notesN 2 = 1 := rfl; omega
      exact .inr rfl⟩
  | 3, _ => exact ⟨by decide, by decide, fun k hk => by
      have h3 : notesN 3 = 2 := rfl
      match k, hk with
      | 0, _ => exact .inr rfl
      | 1, _ => exact .inl rfl
      | k + 2, hk => omega⟩
theorem law_Notes (k : Nat) : sp_law23_Notes [.v (.int .u8 (k : Int))] = some (.list (notesN k) (some (notesN k)) (notesC k)) := by
  show F_law23_Notes M (k : Int) = _
  unfold F_law23_Notes notesN notesC
  rw [show (4 : Int) = ((4 : Nat) : Int) from rfl, tmod_nat]
  have hlt : k % 4 < 4 := Nat.mod_lt _ (by omega)
  generalize k % 4 = j at hlt
  match j, hlt with
  | 0, _ | 1, _ | 2, _ | 3, _ => rfl
theorem law_count {k : Nat} (hk : k < 256) : sp_law23_count [.v (.int .u8 (k : Int))] = some (.v (.int .i64 (((k % 8 : Nat) : Int) - 1))) := by
  show F_law23_count M (k : Int) = _
  unfold F_law23_count
  rw [show (8 : Int) = ((8 : Nat) : Int) from rfl, tmod_nat, wrap_nat (by omega), wrap_id (by omega) (by omega)]

/-! ### Records -/
def polN (k : Nat) : Pol := ⟨polO k, notesN (k / 7), some (notesN (k / 7)), notesC (k / 7)⟩
def polsOf : List Pol → List Nat → List Pol
  | ps, [] => ps
  | ps, k :: r => if 4 ≤ ps.length then ps else polsOf (if (ps.map Pol.id).contains (polO k) then ps else ps ++ [polN k]) r
def mpO (k : Nat) : Mp := ⟨if k = 254 then anyO else polO (k % 6), if k = 255 then anyO else polO (k / 6 % 6)⟩
def mapsOf : List Mp → List Nat → List Mp
  | ms, [] => ms
  | ms, k :: r => if 4 ≤ ms.length then ms else mapsOf (if ms.contains (mpO k) then ms else ms ++ [mpO k]) r
theorem mpO_ok (k : Nat) : (mpO k).ok := by
  unfold mpO
  refine ⟨?_, ?_⟩ <;> dsimp only <;> split <;> first | exact anyO_ok | exact polO_ok _

structure Ri where
  self : Nat
  p : List Nat
  pc : Option Nat
  m : List Nat
  mc : Option Nat
  c0 : Nat
  c1 : Nat
  c2 : Nat
structure Ri.ok (x : Ri) : Prop where
  self : x.self < 256
  p : ∀ k, k ∈ x.p → k < 256
  m : ∀ k, k ∈ x.m → k < 256
  c0 : x.c0 < 256
  c1 : x.c1 < 256
  c2 : x.c2 < 256
  pl : x.p.length ≤ 9223372036854775807
  ml : x.m.length ≤ 9223372036854775807
def Ri.cells (x : Ri) : List D := [.v (.int .u8 (x.self : Int)), .list x.p.length x.pc (n8 x.p), .list x.m.length x.mc (n8 x.m), .v (.int .u8 (x.c0 : Int)), .v (.int .u8 (x.c1 : Int)), .v (.int .u8 (x.c2 : Int))]
def Ri.rcd (x : Ri) : Rcd :=
  let ps := polsOf [] x.p
  let ms := mapsOf [] x.m
  ⟨(x.self % 2 : Nat) == 1, decide (0 < ps.length), ps, none, decide (0 < ms.length), ms, none, ((x.c0 % 8 : Nat) : Int) - 1, ((x.c1 % 8 : Nat) : Int) - 1, ((x.c2 % 8 : Nat) : Int) - 1⟩

theorem set_put {Z A : List D} {v : D} (hZ : Z.length = 18) (hA : A.length = 17) : (putL 18 Z 0 17 A).set 17 v = A ++ [v] := by
  have e0 : putL 18 Z 0 17 A = A ++ Z.drop 17 := by unfold putL; rw [if_neg (by omega)]; simp
  have : (Z.drop 17).length = 1 := by simp [hZ]
  match hz : Z.drop 17, this with
  | [z], _ => rw [e0, hz, List.set_append_right _ _ (by omega), hA]; rfl
theorem polsC_append (a b : List Pol) : polsC (a ++ b) = polsC a ++ polsC b := by simp [polsC]
theorem polsC_one (p : Pol) : polsC [p] = p.cells := by simp [polsC]
theorem mapsC_append (a b : List Mp) : mapsC (a ++ b) = mapsC a ++ mapsC b := by simp [mapsC]
theorem mapsC_one (p : Mp) : mapsC [p] = p.cells := by simp [mapsC]
theorem put34 {Z A B : List D} (hZ : Z.length = 34) (hA : A.length = 17) (hB : B.length = 17) : putL 34 (putL 34 Z 0 17 A) 17 17 B = A ++ B := by
  have e0 : putL 34 Z 0 17 A = A ++ Z.drop 17 := by unfold putL; rw [if_neg (by omega)]; simp
  rw [e0]; unfold putL
  rw [if_neg (by omega), List.take_left' hA, List.drop_eq_nil_of_le (by simp; omega), List.append_nil]
theorem put34l {A B C : List D} (hA : A.length = 17) (hB : B.length = 17) : putL 34 (A ++ B) 0 17 C = C ++ B := by
  unfold putL
  rw [if_neg (by omega), List.take_zero, List.nil_append, List.drop_left' (by omega)]
theorem put34r {A B C : List D} (hA : A.length = 17) (hB : B.length = 17) : putL 34 (A ++ B) 17 17 C = A ++ C := by
  unfold putL
  rw [if_neg (by omega), List.take_left' hA, List.drop_eq_nil_of_le (by simp; omega), List.append_nil]

section
variable {P : List Nat} (hP : ∀ k, k ∈ P → k < 256) (hl : P.length ≤ 9223372036854775807)
include hP hl
theorem rof_inner {m n0 u0_2 : Nat} {u0_3 : Option Nat} {u0_4 : List D} {x31 : Int} {c33 : List D} {u0_17 u0_18 : Bool} {u0_19 : Nat} {u0_20 : Bool} {u0_21 u0_22 u0_23 y1_1 : Int} {y1_3 : Option Nat} {y1_5 : Nat} {y1_6 : Option Nat} {y1_7 : List D} {y1_8 y1_9 y1_10 : Int} {y1_11 y1_12 y1_13 : Bool} {y1_14 y1_15 y1_16 : Int} {y1_17 y1_18 y1_20 : Bool} {y1_21 y1_22 y1_23 : Int} {i : Nat} (hi : i < P.length) {ps : List Pol} (h4 : ps.length < 4) (hps : ∀ p, p ∈ ps → p.id.ok) : ∀ (c k : Nat), ps.length - k < c → k ≤ ps.length →
    F_law23_R_Of_ref23_Qualifiers_2 m n0 c (i : Int) u0_2 u0_3 u0_4 x31 c33 u0_17 u0_18 u0_19 u0_20 u0_21 u0_22 u0_23 (k : Int) y1_1 P.length y1_3 (n8 P) y1_5 y1_6 y1_7 y1_8 y1_9 y1_10 y1_11 y1_12 y1_13 y1_14 y1_15 y1_16 y1_17 y1_18 ps.length y1_20 y1_21 y1_22 y1_23 (ps.length * 18) (polsC ps) ((polO (P.getD i 0)).cells) =
    F_law23_R_Of_3 m n0 ((i + 1 : Nat) : Int) y1_1 P.length y1_3 (n8 P) y1_5 y1_6 y1_7 y1_8 y1_9 y1_10 y1_11 y1_12 y1_13 y1_14 y1_15 y1_16 y1_17 y1_18
      (if hasFrom (ps.map Pol.id) (polO (P.getD i 0)) k then ps else ps ++ [polN (P.getD i 0)]).length y1_20 y1_21 y1_22 y1_23
      ((if hasFrom (ps.map Pol.id) (polO (P.getD i 0)) k then ps else ps ++ [polN (P.getD i 0)]).length * 18)
      (polsC (if hasFrom (ps.map Pol.id) (polO (P.getD i 0)) k then ps else ps ++ [polN (P.getD i 0)]))
  | 0, k, hc, hk => by omega
  | c + 1, k, hc, hk => by
    have hl' := polsC_len hps
    have hok := polO_ok (P.getD i 0)
    rw [F_law23_R_Of_ref23_Qualifiers_2_s]
    simp only [Int.toNat_natCast, Nat.zero_add, Nat.add_zero, Nat.mul_one]
    by_cases hlt : k < ps.length
    · have hcut : cutL (ps.length * 18) (polsC ps) (k * 18) 17 = ps[k].id.cells := by rw [cutL_eq hl', polsC_id hps hlt]
      rw [wrap_succ (by omega), rof_inner hi h4 hps c (k + 1) (by omega) (by omega), hasFrom_step (k := k) (by simpa using hlt), List.getElem_map, hcut]
      repeat (first | with_reducible refine st_bind (oid_eq (hps _ (List.getElem_mem hlt)) hok) ?_ | with_reducible refine st_if (by omega) ?_ | with_reducible refine st_bind (rdI_v _ _) ?_ | with_reducible refine st_bind (rdB_v _) ?_ | (with_reducible refine st_bind (rdL_v _ _ _) ?_; try dsimp only) | with_reducible refine st_bind (rdA_v _) ?_ | with_reducible refine st_bind (rdT_v _) ?_ | with_reducible refine st_cT (decide_eq_true (by omega)) ?_ | with_reducible refine st_cF (decide_eq_false (by omega)) ?_ | with_reducible refine st_cT (i_eq (by omega)) ?_ | with_reducible refine st_cF (i_ne (by omega)) ?_ | with_reducible refine st_cT (i_bne (by omega)) ?_ | with_reducible refine st_cF (i_bnf (by omega)) ?_ | with_reducible refine st_ifn (by omega) ?_ | (with_reducible refine st_cT ?_ ?_; exact rfl) | (with_reducible refine st_cF ?_ ?_; exact rfl))
      by_cases he : ps[k].id = polO (P.getD i 0)
      · rw [decide_eq_true he]
        repeat (first | (with_reducible refine st_bind (rdL_get (polsC_q hps hlt)) ?_; try dsimp only) | with_reducible refine st_if (by omega) ?_ | with_reducible refine st_bind (rdI_v _ _) ?_ | with_reducible refine st_bind (rdB_v _) ?_ | (with_reducible refine st_bind (rdL_v _ _ _) ?_; try dsimp only) | with_reducible refine st_bind (rdA_v _) ?_ | with_reducible refine st_bind (rdT_v _) ?_ | with_reducible refine st_cT (decide_eq_true (by omega)) ?_ | with_reducible refine st_cF (decide_eq_false (by omega)) ?_ | with_reducible refine st_cT (i_eq (by omega)) ?_ | with_reducible refine st_cF (i_ne (by omega)) ?_ | with_reducible refine st_cT (i_bne (by omega)) ?_ | with_reducible refine st_cF (i_bnf (by omega)) ?_ | with_reducible refine st_ifn (by omega) ?_ | (with_reducible refine st_cT ?_ ?_; exact rfl) | (with_reducible refine st_cF ?_ ?_; exact rfl))
        rw [F_law23_R_Of_j4_e, wrap_succ (by omega)]
        rfl
      · rw [decide_eq_false he]
        rfl
    · have hg : P.getD i 0 < 256 := hP _ (by rw [List.getD_eq_getElem?_getD, List.getElem?_eq_getElem hi]; exact List.getElem_mem hi)
      have h7 : IntKind.wrap .u8 (Int.tdiv ((P.getD i 0 : Nat) : Int) (7 : Int)) = ((P.getD i 0 / 7 : Nat) : Int) := by
        rw [show (7 : Int) = ((7 : Nat) : Int) from rfl, tdiv_nat, wrap_u8_nat (by omega)]
      have hlen := Oid.cells_len hok
      rw [hasFrom_end (by simp; omega)]
      simp only [Bool.false_eq_true, if_false]
      refine st_cF (decide_eq_false (by omega)) ?_
      refine st_if (by omega) ?_
      refine st_bind (n8_get hi) ?_
      rw [h7]
      refine st_bind (law_Notes _) ?_
      refine st_bind (rdL_v _ _ _) ?_
      refine st_if hlen ?_
      dsimp only
      rw [set_put rfl hlen]
      have h18 : ((polO (P.getD i 0)).cells ++ [D.list (notesN (P.getD i 0 / 7)) (some (notesN (P.getD i 0 / 7))) (notesC (P.getD i 0 / 7))]).length = 18 := by rw [List.length_append, hlen]; rfl
      refine st_if h18 ?_
      refine st_if ⟨rfl, trivial, by constructor <;> omega, h18⟩ ?_
      rw [F_law23_R_Of_j4v2_e, wrap_succ (by omega), polsC_append, polsC_one, List.length_append]
      rfl

theorem rof_loop {m : Nat} {y0_1 : Int} {y0_3 : Option Nat} {y0_5 : Nat} {y0_6 : Option Nat} {y0_7 : List D} {y0_8 y0_9 y0_10 : Int} {y0_11 y0_12 y0_13 : Bool} {y0_14 y0_15 y0_16 : Int} {y0_17 y0_18 y0_20 : Bool} {y0_21 y0_22 y0_23 : Int} : ∀ (c i : Nat) (ps : List Pol), P.length - i < c → i ≤ P.length → 4 ≤ m → ps.length ≤ 4 → (∀ p, p ∈ ps → p.id.ok) →
    F_law23_R_Of_3 m c (i : Int) y0_1 P.length y0_3 (n8 P) y0_5 y0_6 y0_7 y0_8 y0_9 y0_10 y0_11 y0_12 y0_13 y0_14 y0_15 y0_16 y0_17 y0_18 ps.length y0_20 y0_21 y0_22 y0_23 (ps.length * 18) (polsC ps) =
    F_law23_R_Of_j9 m y0_1 P.length y0_3 (n8 P) y0_5 y0_6 y0_7 y0_8 y0_9 y0_10 y0_11 y0_12 y0_13 y0_14 y0_15 y0_16 y0_17 y0_18 (polsOf ps (P.drop i)).length y0_20 y0_21 y0_22 y0_23 ((polsOf ps (P.drop i)).length * 18) (polsC (polsOf ps (P.drop i)))
  | 0, i, ps, hc, hi, _, _, _ => by omega
  | c + 1, i, ps, hc, hi, hm, h4, hps => by
    rw [F_law23_R_Of_3_s]
    by_cases hlt : i < P.length
    · rw [List.drop_eq_getElem_cons hlt, polsOf]
      by_cases h : 4 ≤ ps.length
      · rw [if_pos h]
        repeat (first | with_reducible refine st_if (by omega) ?_ | with_reducible refine st_bind (rdI_v _ _) ?_ | with_reducible refine st_bind (rdB_v _) ?_ | (with_reducible refine st_bind (rdL_v _ _ _) ?_; try dsimp only) | with_reducible refine st_bind (rdA_v _) ?_ | with_reducible refine st_bind (rdT_v _) ?_ | with_reducible refine st_cT (decide_eq_true (by omega)) ?_ | with_reducible refine st_cF (decide_eq_false (by omega)) ?_ | with_reducible refine st_cT (i_eq (by omega)) ?_ | with_reducible refine st_cF (i_ne (by omega)) ?_ | with_reducible refine st_cT (i_bne (by omega)) ?_ | with_reducible refine st_cF (i_bnf (by omega)) ?_ | with_reducible refine st_ifn (by omega) ?_ | (with_reducible refine st_cT ?_ ?_; exact rfl) | (with_reducible refine st_cF ?_ ?_; exact rfl))
        rfl
      · rw [if_neg h]
        have hg : P.getD i 0 = P[i] := by rw [List.getD_eq_getElem?_getD, List.getElem?_eq_getElem hlt]; rfl
        refine st_cT (decide_eq_true (by omega)) ?_
        refine st_cT (decide_eq_true (by omega)) ?_
        rw [F_law23_R_Of_j5_e]
        simp only [Int.toNat_natCast, Nat.mul_one]
        refine st_if (by omega) ?_
        refine st_bind (n8_get hlt) ?_
        refine st_bind (law_Policy _) ?_
        refine st_bind (rdA_v _) ?_
        refine st_if (Oid.cells_len (polO_ok _)) ?_
        refine st_if (Oid.cells_len (polO_ok _)) ?_
        refine (rof_inner hP hl hlt (ps := ps) (by omega) hps m 0 (by omega) (by omega)).trans ?_
        rw [hasFrom_zero, hg]
        refine rof_loop c (i + 1) _ (by omega) (by omega) hm ?_ ?_
        · split
          · exact h4
          · simp; omega
        · split
          · exact hps
          · intro p hp
            rcases List.mem_append.1 hp with hp | hp
            · exact hps p hp
            · simp only [List.mem_singleton] at hp; subst hp; exact polO_ok _
    · rw [List.drop_eq_nil_of_le (by omega)]
      repeat (first | with_reducible refine st_if (by omega) ?_ | with_reducible refine st_bind (rdI_v _ _) ?_ | with_reducible refine st_bind (rdB_v _) ?_ | (with_reducible refine st_bind (rdL_v _ _ _) ?_; try dsimp only) | with_reducible refine st_bind (rdA_v _) ?_ | with_reducible refine st_bind (rdT_v _) ?_ | with_reducible refine st_cT (decide_eq_true (by omega)) ?_ | with_reducible refine st_cF (decide_eq_false (by omega)) ?_ | with_reducible refine st_cT (i_eq (by omega)) ?_ | with_reducible refine st_cF (i_ne (by omega)) ?_ | with_reducible refine st_cT (i_bne (by omega)) ?_ | with_reducible refine st_cF (i_bnf (by omega)) ?_ | with_reducible refine st_ifn (by omega) ?_ | (with_reducible refine st_cT ?_ ?_; exact rfl) | (with_reducible refine st_cF ?_ ?_; exact rfl))
      rfl
end

section
variable {P : List Nat} (hl : P.length ≤ 9223372036854775807)
include hl
theorem rof_inner2 {m n0 : Nat} {y3_3 : Int} {y3_4 : Nat} {y3_5 : Option Nat} {y3_6 : List D} {y3_8 : Option Nat} {y3_10 y3_11 y3_12 : Int} {y3_13 y3_14 y3_15 : Bool} {y3_16 y3_17 y3_18 : Int} {y3_19 y3_20 : Bool} {y3_21 : Nat} {y3_22 : Bool} {y3_24 y3_25 y3_26 : Int} {y3_27 : Nat} {y3_28 : List D} {i : Nat} (hi : i < P.length) {ms : List Mp} (h4 : ms.length < 4) (hms : ∀ p, p ∈ ms → p.ok) {q : Mp} (hq : q.ok) : ∀ (c k : Nat) (fr : Bool), ms.length - k < c → k ≤ ms.length →
    F_law23_R_Of_19 m n0 c (i : Int) (cond fr 1 0) (k : Int) y3_3 y3_4 y3_5 y3_6 P.length y3_8 (n8 P) y3_10 y3_11 y3_12 y3_13 y3_14 y3_15 y3_16 y3_17 y3_18 y3_19 y3_20 y3_21 y3_22 ms.length y3_24 y3_25 y3_26 y3_27 y3_28 (ms.length * 34) (mapsC ms) q.cells =
    F_law23_R_Of_10 m n0 ((i + 1 : Nat) : Int) y3_3 y3_4 y3_5 y3_6 P.length y3_8 (n8 P) y3_10 y3_11 y3_12 y3_13 y3_14 y3_15 y3_16 y3_17 y3_18 y3_19 y3_20 y3_21 y3_22
      (if (fr && !hasFrom ms q k) then ms ++ [q] else ms).length y3_24 y3_25 y3_26 y3_27 y3_28 ((if (fr && !hasFrom ms q k) then ms ++ [q] else ms).length * 34) (mapsC (if (fr && !hasFrom ms q k) then ms ++ [q] else ms))
  | 0, k, fr, hc, hk => by omega
  | c + 1, k, fr, hc, hk => by
    have hl' := mapsC_len hms
    rw [F_law23_R_Of_19_s]
    simp only [Int.toNat_natCast, Nat.zero_add, Nat.add_zero, Nat.mul_one]
    by_cases hlt : k < ms.length
    · have hcut : cutL (ms.length * 34) (mapsC ms) (k * 34) 34 = ms[k].cells := by rw [cutL_eq hl', mapsC_get hms hlt]
      rw [hasFrom_step hlt, hcut, F_law23_R_Of_j20_e, F_law23_R_Of_j20_e, wrap_succ (by omega), rof_inner2 hi h4 hms hq c (k + 1) fr (by omega) (by omega)]
      have h0 := rof_inner2 (m := m) (n0 := n0) (y3_3 := y3_3) (y3_4 := y3_4) (y3_5 := y3_5) (y3_6 := y3_6) (y3_8 := y3_8) (y3_10 := y3_10) (y3_11 := y3_11) (y3_12 := y3_12) (y3_13 := y3_13) (y3_14 := y3_14) (y3_15 := y3_15) (y3_16 := y3_16) (y3_17 := y3_17) (y3_18 := y3_18) (y3_19 := y3_19) (y3_20 := y3_20) (y3_21 := y3_21) (y3_22 := y3_22) (y3_24 := y3_24) (y3_25 := y3_25) (y3_26 := y3_26) (y3_27 := y3_27) (y3_28 := y3_28) hi h4 hms hq c (k + 1) false (by omega) (by omega)
      simp only [cond_false] at h0
      rw [h0]
      repeat (first | with_reducible refine st_bind (mp_eq' (hms _ (List.getElem_mem hlt)) hq) ?_ | with_reducible refine st_if (by omega) ?_ | with_reducible refine st_bind (rdI_v _ _) ?_ | with_reducible refine st_bind (rdB_v _) ?_ | (with_reducible refine st_bind (rdL_v _ _ _) ?_; try dsimp only) | with_reducible refine st_bind (rdA_v _) ?_ | with_reducible refine st_bind (rdT_v _) ?_ | with_reducible refine st_cT (decide_eq_true (by omega)) ?_ | with_reducible refine st_cF (decide_eq_false (by omega)) ?_ | with_reducible refine st_cT (i_eq (by omega)) ?_ | with_reducible refine st_cF (i_ne (by omega)) ?_ | with_reducible refine st_cT (i_bne (by omega)) ?_ | with_reducible refine st_cF (i_bnf (by omega)) ?_ | with_reducible refine st_ifn (by omega) ?_ | (with_reducible refine st_cT ?_ ?_; exact rfl) | (with_reducible refine st_cF ?_ ?_; exact rfl))
      by_cases he : ms[k] = q
      · rw [decide_eq_true he]
        cases fr <;> rfl
      · rw [decide_eq_false he]
        rfl
    · rw [hasFrom_end (by omega)]
      have hlen := Mp.cells_len hq
      refine st_cF (decide_eq_false (by omega)) ?_
      cases fr with
      | true =>
        refine st_cT rfl ?_
        refine st_if hlen ?_
        refine st_if ⟨rfl, by first | rfl | trivial, by constructor <;> omega, hlen⟩ ?_
        rw [F_law23_R_Of_j11_e, wrap_succ (by omega)]
        simp only [Bool.not_false, Bool.and_self, if_true, List.length_append, List.length_singleton, mapsC_append, mapsC_one]
      | false =>
        refine st_cF rfl ?_
        rw [F_law23_R_Of_j11v9_e, wrap_succ (by omega)]
        rfl

end
section
variable {P : List Nat} (hP : ∀ k, k ∈ P → k < 256) (hl : P.length ≤ 9223372036854775807)
include hP hl
theorem rof_loop2 {m : Nat} {y2_1 : Int} {y2_2 : Nat} {y2_3 : Option Nat} {y2_4 : List D} {y2_6 : Option Nat} {y2_8 y2_9 y2_10 : Int} {y2_11 y2_12 y2_13 : Bool} {y2_14 y2_15 y2_16 : Int} {y2_17 y2_18 : Bool} {y2_19 : Nat} {y2_20 : Bool} {y2_22 y2_23 y2_24 : Int} {y2_25 : Nat} {y2_26 : List D} : ∀ (c i : Nat) (ms : List Mp), P.length - i < c → i ≤ P.length → 4 ≤ m → ms.length ≤ 4 → (∀ p, p ∈ ms → p.ok) →
    F_law23_R_Of_10 m c (i : Int) y2_1 y2_2 y2_3 y2_4 P.length y2_6 (n8 P) y2_8 y2_9 y2_10 y2_11 y2_12 y2_13 y2_14 y2_15 y2_16 y2_17 y2_18 y2_19 y2_20 ms.length y2_22 y2_23 y2_24 y2_25 y2_26 (ms.length * 34) (mapsC ms) =
    F_law23_R_Of_j25 m y2_1 y2_2 y2_3 y2_4 P.length y2_6 (n8 P) y2_8 y2_9 y2_10 y2_11 y2_12 y2_13 y2_14 y2_15 y2_16 y2_17 y2_18 y2_19 y2_20 (mapsOf ms (P.drop i)).length y2_22 y2_23 y2_24 y2_25 y2_26 ((mapsOf ms (P.drop i)).length * 34) (mapsC (mapsOf ms (P.drop i)))
  | 0, i, ms, hc, hi, _, _, _ => by omega
  | c + 1, i, ms, hc, hi, hm, h4, hms => by
    rw [F_law23_R_Of_10_s]
    by_cases hlt : i < P.length
    · rw [List.drop_eq_getElem_cons hlt, mapsOf]
      by_cases h : 4 ≤ ms.length
      · rw [if_pos h]
        repeat (first | with_reducible refine st_if (by omega) ?_ | with_reducible refine st_bind (rdI_v _ _) ?_ | with_reducible refine st_bind (rdB_v _) ?_ | (with_reducible refine st_bind (rdL_v _ _ _) ?_; try dsimp only) | with_reducible refine st_bind (rdA_v _) ?_ | with_reducible refine st_bind (rdT_v _) ?_ | with_reducible refine st_cT (decide_eq_true (by omega)) ?_ | with_reducible refine st_cF (decide_eq_false (by omega)) ?_ | with_reducible refine st_cT (i_eq (by omega)) ?_ | with_reducible refine st_cF (i_ne (by omega)) ?_ | with_reducible refine st_cT (i_bne (by omega)) ?_ | with_reducible refine st_cF (i_bnf (by omega)) ?_ | with_reducible refine st_ifn (by omega) ?_ | (with_reducible refine st_cT ?_ ?_; exact rfl) | (with_reducible refine st_cF ?_ ?_; exact rfl))
        rfl
      · rw [if_neg h]
        have hg : P.getD i 0 = P[i] := by rw [List.getD_eq_getElem?_getD, List.getElem?_eq_getElem hlt]; rfl
        have hb : P.getD i 0 < 256 := by rw [hg]; exact hP _ (List.getElem_mem hlt)
        refine st_cT (decide_eq_true (by omega)) ?_
        refine st_cT (decide_eq_true (by omega)) ?_
        rw [F_law23_R_Of_j12_e]
        simp only [Int.toNat_natCast, Nat.mul_one]
        have key : F_law23_R_Of_19 m c m (i : Int) 1 0 y2_1 y2_2 y2_3 y2_4 P.length y2_6 (n8 P) y2_8 y2_9 y2_10 y2_11 y2_12 y2_13 y2_14 y2_15 y2_16 y2_17 y2_18 y2_19 y2_20 ms.length y2_22 y2_23 y2_24 y2_25 y2_26 (ms.length * 34) (mapsC ms) (mpO P[i]).cells = F_law23_R_Of_j25 m y2_1 y2_2 y2_3 y2_4 P.length y2_6 (n8 P) y2_8 y2_9 y2_10 y2_11 y2_12 y2_13 y2_14 y2_15 y2_16 y2_17 y2_18 y2_19 y2_20 (mapsOf (if ms.contains (mpO P[i]) then ms else ms ++ [mpO P[i]]) (P.drop (i + 1))).length y2_22 y2_23 y2_24 y2_25 y2_26 ((mapsOf (if ms.contains (mpO P[i]) then ms else ms ++ [mpO P[i]]) (P.drop (i + 1))).length * 34) (mapsC (mapsOf (if ms.contains (mpO P[i]) then ms else ms ++ [mpO P[i]]) (P.drop (i + 1)))) := by
          refine (rof_inner2 hl hlt (ms := ms) (by omega) hms (mpO_ok _) m 0 true (by omega) (by omega)).trans ?_
          have e : (if (true && !hasFrom ms (mpO P[i]) 0) then ms ++ [mpO P[i]] else ms) = if ms.contains (mpO P[i]) then ms else ms ++ [mpO P[i]] := by
            rw [hasFrom_zero]; cases ms.contains (mpO P[i]) <;> rfl
          rw [e]
          refine rof_loop2 c (i + 1) _ (by omega) (by omega) hm ?_ ?_
          · split
            · exact h4
            · simp; omega
          · split
            · exact hms
            · intro p hp
              rcases List.mem_append.1 hp with hp | hp
              · exact hms p hp
              · simp only [List.mem_singleton] at hp; subst hp; exact mpO_ok _
        have h1 : (polO (P[i] % 6)).cells.length = 17 := Oid.cells_len (polO_ok _)
        have h2 : (polO (P[i] / 6 % 6)).cells.length = 17 := Oid.cells_len (polO_ok _)
        have h3 : anyO.cells.length = 17 := rfl
        have t1 : Int.tmod ((P[i] : Nat) : Int) (6 : Int) = ((P[i] % 6 : Nat) : Int) := tmod_nat _ 6
        have t2 : Int.tmod (IntKind.wrap .u8 (Int.tdiv ((P[i] : Nat) : Int) (6 : Int))) (6 : Int) = ((P[i] / 6 % 6 : Nat) : Int) := by
          rw [show Int.tdiv ((P[i] : Nat) : Int) (6 : Int) = ((P[i] / 6 : Nat) : Int) from tdiv_nat _ 6, wrap_u8_nat (by omega)]; exact tmod_nat _ 6
        refine st_if (by omega) ?_
        refine st_bind (n8_get hlt) ?_
        rw [hg, t1]
        refine st_bind (law_Policy _) ?_
        refine st_bind (rdA_v _) ?_
        refine st_if (by omega) ?_
        refine st_bind (n8_get hlt) ?_
        rw [hg, t2]
        refine st_bind (law_Policy _) ?_
        refine st_bind (rdA_v _) ?_
        refine st_if h1 ?_
        refine st_if h2 ?_
        rw [put34 rfl h1 h2]
        refine st_if (by rw [List.length_append]; omega) ?_
        refine st_if (by omega) ?_
        refine st_bind (n8_get hlt) ?_
        rw [hg]
        have h15 : ∀ a, a = (if P[i] = 254 then anyO else polO (P[i] % 6)) → F_law23_R_Of_j15 m c (i : Int) y2_1 y2_2 y2_3 y2_4 P.length y2_6 (n8 P) y2_8 y2_9 y2_10 y2_11 y2_12 y2_13 y2_14 y2_15 y2_16 y2_17 y2_18 y2_19 y2_20 ms.length y2_22 y2_23 y2_24 y2_25 y2_26 (ms.length * 34) (mapsC ms) (a.cells ++ (polO (P[i] / 6 % 6)).cells) = F_law23_R_Of_j25 m y2_1 y2_2 y2_3 y2_4 P.length y2_6 (n8 P) y2_8 y2_9 y2_10 y2_11 y2_12 y2_13 y2_14 y2_15 y2_16 y2_17 y2_18 y2_19 y2_20 (mapsOf (if ms.contains (mpO P[i]) then ms else ms ++ [mpO P[i]]) (P.drop (i + 1))).length y2_22 y2_23 y2_24 y2_25 y2_26 ((mapsOf (if ms.contains (mpO P[i]) then ms else ms ++ [mpO P[i]]) (P.drop (i + 1))).length * 34) (mapsC (mapsOf (if ms.contains (mpO P[i]) then ms else ms ++ [mpO P[i]]) (P.drop (i + 1)))) := fun a ha => by
          have hal : a.cells.length = 17 := by rw [ha]; split <;> assumption
          rw [F_law23_R_Of_j15_e]
          simp only [Int.toNat_natCast, Nat.mul_one]
          refine st_if (by omega) ?_
          refine st_bind (n8_get hlt) ?_
          rw [hg]
          by_cases h5 : P[i] = 255
          · refine st_cT (i_eq (by omega)) ?_
            refine st_bind law_Any ?_
            refine st_bind (rdA_v _) ?_
            refine st_if h3 ?_
            rw [F_law23_R_Of_j17_e, put34r hal h2]
            have e : (mpO P[i]).cells = a.cells ++ anyO.cells := by rw [ha]; unfold mpO Mp.cells; rw [if_pos h5]
            rw [← e]
            exact key
          · refine st_cF (i_ne (by omega)) ?_
            rw [F_law23_R_Of_j17_e]
            have e : (mpO P[i]).cells = a.cells ++ (polO (P[i] / 6 % 6)).cells := by rw [ha]; unfold mpO Mp.cells; rw [if_neg h5]
            rw [← e]
            exact key
        by_cases h4' : P[i] = 254
        · refine st_cT (i_eq (by omega)) ?_
          refine st_bind law_Any ?_
          refine st_bind (rdA_v _) ?_
          refine st_if h3 ?_
          rw [put34l h1 h2]
          exact h15 anyO (by rw [if_pos h4'])
        · refine st_cF (i_ne (by omega)) ?_
          exact h15 _ (by rw [if_neg h4'])
    · rw [List.drop_eq_nil_of_le (by omega)]
      repeat (first | with_reducible refine st_if (by omega) ?_ | with_reducible refine st_bind (rdI_v _ _) ?_ | with_reducible refine st_bind (rdB_v _) ?_ | (with_reducible refine st_bind (rdL_v _ _ _) ?_; try dsimp only) | with_reducible refine st_bind (rdA_v _) ?_ | with_reducible refine st_bind (rdT_v _) ?_ | with_reducible refine st_cT (decide_eq_true (by omega)) ?_ | with_reducible refine st_cF (decide_eq_false (by omega)) ?_ | with_reducible refine st_cT (i_eq (by omega)) ?_ | with_reducible refine st_cF (i_ne (by omega)) ?_ | with_reducible refine st_cT (i_bne (by omega)) ?_ | with_reducible refine st_cF (i_bnf (by omega)) ?_ | with_reducible refine st_ifn (by omega) ?_ | (with_reducible refine st_cT ?_ ?_; exact rfl) | (with_reducible refine st_cF ?_ ?_; exact rfl))
      rfl
end

theorem polsOf_ok : ∀ (l : List Nat) (ps : List Pol), (∀ p, p ∈ ps → p.id.ok) → ∀ p, p ∈ polsOf ps l → p.id.ok
  | [], ps, h => h
  | k :: r, ps, h => by
    unfold polsOf
    split
    · exact h
    · refine polsOf_ok r _ ?_
      split
      · exact h
      · intro p hp
        rcases List.mem_append.1 hp with hp | hp
        · exact h p hp
        · simp only [List.mem_singleton] at hp; subst hp; exact polO_ok _
theorem mapsOf_ok : ∀ (l : List Nat) (ps : List Mp), (∀ p, p ∈ ps → p.ok) → ∀ p, p ∈ mapsOf ps l → p.ok
  | [], ps, h => h
  | k :: r, ps, h => by
    unfold mapsOf
    split
    · exact h
    · refine mapsOf_ok r _ ?_
      split
      · exact h
      · intro p hp
        rcases List.mem_append.1 hp with hp | hp
        · exact h p hp
        · simp only [List.mem_singleton] at hp; subst hp; exact mpO_ok _

theorem law_R_Of {x : Ri} (h : x.ok) : sp_law23_R_Of [.agg x.cells] = some (.agg x.rcd.cells) := by
  show F_law23_R_Of M (x.self : Int) x.p.length x.pc (n8 x.p) x.m.length x.mc (n8 x.m) (x.c0 : Int) (x.c1 : Int) (x.c2 : Int) = _
  unfold F_law23_R_Of
  refine st_bind (law_count h.c0) ?_
  refine st_bind (rdI_v _ _) ?_
  refine st_bind (law_count h.c1) ?_
  refine st_bind (rdI_v _ _) ?_
  refine st_bind (law_count h.c2) ?_
  refine st_bind (rdI_v _ _) ?_
  have h1 := h.pl
  have h2 := h.ml
  refine (rof_loop h.p h.pl (m := M) M 0 [] (by unfold M; omega) (by omega) (by unfold M; omega) (by simp) (fun p hp => nomatch hp)).trans ?_
  rw [F_law23_R_Of_j9_e, List.drop_zero]
  refine (rof_loop2 h.m h.ml (m := M) M 0 [] (by unfold M; omega) (by omega) (by unfold M; omega) (by simp) (fun p hp => nomatch hp)).trans ?_
  rw [F_law23_R_Of_j25_e, List.drop_zero]
  refine st_if (by omega) ?_
  refine st_if (by omega) ?_
  rw [cutL_all (polsC_len (polsOf_ok _ [] (fun p hp => nomatch hp))), cutL_all (mapsC_len (mapsOf_ok _ [] (fun p hp => nomatch hp)))]
  have e : (Int.tmod (x.self : Int) (2 : Int) == (1 : Int)) = ((x.self % 2 : Nat) == 1) := by
    rw [show (2 : Int) = ((2 : Nat) : Int) from rfl, tmod_nat]
    have : x.self % 2 < 2 := Nat.mod_lt _ (by omega)
    generalize x.self % 2 = j at this
    match j, this with
    | 0, _ | 1, _ => rfl
  have g0 : ∀ n : Nat, decide ((n : Int) > 0) = decide (0 < n) := fun n => by congr 1; apply propext; omega
  rw [e, g0, g0]
  rfl
end Go.Ev
