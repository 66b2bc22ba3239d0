/-
 Records as plain data: what the policies, qualifiers and records of the examples are.
-/
import Derived.Test.YthakkigkdhaihaaGreatDoorEzL8
import Derived.Test.YthakkigkdhaihaaGreatDoorEzG5
import Derived.Test.YthakkigkdhaihaaGreatDoorEzO2
set_option linter.unusedSimpArgs false
set_option linter.unusedVariables false
set_option maxRecDepth 100000
namespace Go.Ev
open Go
theorem Z1hg : Z8i [] = some (.agg anyO.cells) := rfl
theorem Ztm (k : Nat) : Z4g [.v (.int .u8 (k : Int))] = some (.agg (polO k).cells) := by
 show Zj1 M (k : Int) = _
 unfold Zj1 polO
 rw [show (7 : Int) = ((7 : Nat) : Int) from rfl, Zhf]
 have hlt : k % 7 < 7 := Nat.mod_lt _ (by omega)
 generalize k % 7 = j at hlt
 match j, hlt with
 | 0, _ | 1, _ | 2, _ | 3, _ | 4, _ | 5, _ | 6, _ => rfl
def notesN (k : Nat) : Nat := if k % 4 = 0 then 0 else if k % 4 = 3 then 2 else 1
def notesC (k : Nat) : List D := if k % 4 = 1 then qaC else if k % 4 = 2 then qbC else if k % 4 = 3 then qbC ++ qaC else []
theorem Z1hh (k : Nat) : ∃ j, j < 4 ∧ notesN k = notesN j ∧ notesC k = notesC j := ⟨k % 4, Nat.mod_lt _ (by omega), by unfold notesN; rw [Nat.mod_mod], by unfold notesC; rw [Nat.mod_mod]⟩
theorem Z1k8 (k : Nat) : QOk (notesN k) (notesC k) := by
 obtain ⟨j, hj, e1, e2⟩ := Z1hh k
 rw [e1, e2]
 match j, hj with
 | 0, _ => exact QOk.zero _
 | 1, _ => exact ⟨by decide, by decide, fun k hk => by
   obtain rfl : k = 0 := by have : notesN 1 = 1 := rfl; omega
   exact .inl rfl⟩
 | 2, _ => exact ⟨by decide, by decide, fun k hk => by
   obtain rfl : k = 0 := by have : notesN 2 = 1 := rfl; omega
   exact .inr rfl⟩
 | 3, _ => exact ⟨by decide, by decide, fun k hk => by
   have h3 : notesN 3 = 2 := rfl
   match k, hk with
   | 0, _ => exact .inr rfl
   | 1, _ => exact .inl rfl
   | k + 2, hk => omega⟩
theorem Z1hi (k : Nat) : Zel [.v (.int .u8 (k : Int))] = some (.list (notesN k) (some (notesN k)) (notesC k)) := by
 show Zl0 M (k : Int) = _
 unfold Zl0 notesN notesC
 rw [show (4 : Int) = ((4 : Nat) : Int) from rfl, Zhf]
 have hlt : k % 4 < 4 := Nat.mod_lt _ (by omega)
 generalize k % 4 = j at hlt
 match j, hlt with
 | 0, _ | 1, _ | 2, _ | 3, _ => rfl
theorem Z14h {k : Nat} (hk : k < 256) : Z6r [.v (.int .u8 (k : Int))] = some (.v (.int .i64 (((k % 8 : Nat) : Int) - 1))) := by
 show Zl1 M (k : Int) = _
 unfold Zl1
 rw [show (8 : Int) = ((8 : Nat) : Int) from rfl, Zhf, Ztl (by omega), Zil (by omega) (by omega)]
def polN (k : Nat) : Pol := ⟨polO k, notesN (k / 7), some (notesN (k / 7)), notesC (k / 7)⟩
def polsOf : List Pol → List Nat → List Pol
 | ps, [] => ps
 | ps, k :: r => if 4 ≤ ps.length then ps else polsOf (if (ps.map Pol.id).contains (polO k) then ps else ps ++ [polN k]) r
def mpO (k : Nat) : Mp := ⟨if k = 254 then anyO else polO (k % 6), if k = 255 then anyO else polO (k / 6 % 6)⟩
def mapsOf : List Mp → List Nat → List Mp
 | ms, [] => ms
 | ms, k :: r => if 4 ≤ ms.length then ms else mapsOf (if ms.contains (mpO k) then ms else ms ++ [mpO k]) r
theorem mpO_ok (k : Nat) : (mpO k).ok := by
 unfold mpO
 refine ⟨?_, ?_⟩ <;> dsimp only <;> split <;> first | exact anyO_ok | exact Zim _
structure Ri where
 self : Nat
 p : List Nat
 pc : Option Nat
 m : List Nat
 mc : Option Nat
 c0 : Nat
 c1 : Nat
 c2 : Nat
structure Ri.ok (x : Ri) : Prop where
 self : x.self < 256
 p : ∀ k, k ∈ x.p → k < 256
 m : ∀ k, k ∈ x.m → k < 256
 c0 : x.c0 < 256
 c1 : x.c1 < 256
 c2 : x.c2 < 256
 pl : x.p.length ≤ 9223372036854775807
 ml : x.m.length ≤ 9223372036854775807
def Ri.cells (x : Ri) : List D := [.v (.int .u8 (x.self : Int)), .list x.p.length x.pc (n8 x.p), .list x.m.length x.mc (n8 x.m), .v (.int .u8 (x.c0 : Int)), .v (.int .u8 (x.c1 : Int)), .v (.int .u8 (x.c2 : Int))]
def Ri.rcd (x : Ri) : Rcd :=
 let ps := polsOf [] x.p
 let ms := mapsOf [] x.m
 ⟨(x.self % 2 : Nat) == 1, decide (0 < ps.length), ps, none, decide (0 < ms.length), ms, none, ((x.c0 % 8 : Nat) : Int) - 1, ((x.c1 % 8 : Nat) : Int) - 1, ((x.c2 % 8 : Nat) : Int) - 1⟩
theorem Z1ne {Z A : List D} {v : D} (hZ : Z.length = 18) (hA : A.length = 17) : (putL 18 Z 0 17 A).set 17 v = A ++ [v] := by
 have e0 : putL 18 Z 0 17 A = A ++ Z.drop 17 := by unfold putL; rw [if_neg (by omega)]; simp
 have : (Z.drop 17).length = 1 := by simp [hZ]
 match hz : Z.drop 17, this with
 | [z], _ => rw [e0, hz, List.set_append_right _ _ (by omega), hA]; rfl
theorem Z1bh (a b : List Pol) : polsC (a ++ b) = polsC a ++ polsC b := by simp [polsC]
theorem Z1hj (p : Pol) : polsC [p] = p.cells := by simp [polsC]
theorem Z1bi (a b : List Mp) : mapsC (a ++ b) = mapsC a ++ mapsC b := by simp [mapsC]
theorem Z1hk (p : Mp) : mapsC [p] = p.cells := by simp [mapsC]
theorem put34 {Z A B : List D} (hZ : Z.length = 34) (hA : A.length = 17) (hB : B.length = 17) : putL 34 (putL 34 Z 0 17 A) 17 17 B = A ++ B := by
 have e0 : putL 34 Z 0 17 A = A ++ Z.drop 17 := by unfold putL; rw [if_neg (by omega)]; simp
 rw [e0]; unfold putL
 rw [if_neg (by omega), List.take_left' hA, List.drop_eq_nil_of_le (by simp; omega), List.append_nil]
theorem put34l {A B C : List D} (hA : A.length = 17) (hB : B.length = 17) : putL 34 (A ++ B) 0 17 C = C ++ B := by
 unfold putL
 rw [if_neg (by omega), List.take_zero, List.nil_append, List.drop_left' (by omega)]
theorem put34r {A B C : List D} (hA : A.length = 17) (hB : B.length = 17) : putL 34 (A ++ B) 17 17 C = A ++ C := by
 unfold putL
 rw [if_neg (by omega), List.take_left' hA, List.drop_eq_nil_of_le (by simp; omega), List.append_nil]
section
variable {P : List Nat} (hP : ∀ k, k ∈ P → k < 256) (hl : P.length ≤ 9223372036854775807)
include hP hl
theorem Z1bj {m n0 Z44 : Nat} {Z5s : Option Nat} {Z5q : List D} {x31 : Int} {c33 : List D} {Zhw Zln : Bool} {Ztu : Nat} {Z11o : Bool} {Z11p Z11q Z11r Zij : Int} {Zk9 : Option Nat} {Zrl : Nat} {Zo2 : Option Nat} {Zr8 : List D} {Zng Zvc Zh3 : Int} {Zhv Zk1 Zh4 : Bool} {Zl2 Zhi Zi1 : Int} {Zg6 Zqg Zqh : Bool} {Zrc Zpe Z11s : Int} {i : Nat} (hi : i < P.length) {ps : List Pol} (h4 : ps.length < 4) (hps : ∀ p, p ∈ ps → p.id.ok) : ∀ (c k : Nat), ps.length - k < c → k ≤ ps.length →
  Z3u m n0 c (i : Int) Z44 Z5s Z5q x31 c33 Zhw Zln Ztu Z11o Z11p Z11q Z11r (k : Int) Zij P.length Zk9 (n8 P) Zrl Zo2 Zr8 Zng Zvc Zh3 Zhv Zk1 Zh4 Zl2 Zhi Zi1 Zg6 Zqg ps.length Zqh Zrc Zpe Z11s (ps.length * 18) (polsC ps) ((polO (P.getD i 0)).cells) =
  Z9p m n0 ((i + 1 : Nat) : Int) Zij P.length Zk9 (n8 P) Zrl Zo2 Zr8 Zng Zvc Zh3 Zhv Zk1 Zh4 Zl2 Zhi Zi1 Zg6 Zqg
   (if Zcp (ps.map Pol.id) (polO (P.getD i 0)) k then ps else ps ++ [polN (P.getD i 0)]).length Zqh Zrc Zpe Z11s
   ((if Zcp (ps.map Pol.id) (polO (P.getD i 0)) k then ps else ps ++ [polN (P.getD i 0)]).length * 18)
   (polsC (if Zcp (ps.map Pol.id) (polO (P.getD i 0)) k then ps else ps ++ [polN (P.getD i 0)]))
 | 0, k, hc, hk => by omega
 | c + 1, k, hc, hk => by
  have hl' := Zx6 hps
  have hok := Zim (P.getD i 0)
  rw [Zhj]
  simp only [Int.toNat_natCast, Nat.zero_add, Nat.add_zero, Nat.mul_one]
  by_cases hlt : k < ps.length
  ·have hcut : cutL (ps.length * 18) (polsC ps) (k * 18) 17 = ps[k].id.cells := by rw [Z17k hl', Z1ik hps hlt]
   rw [Z40 (by omega), Z1bj hi h4 hps c (k + 1) (by omega) (by omega), Znl (k := k) (by simpa using hlt), List.getElem_map, hcut]
   repeat (first | with_reducible refine Z5 (oid_eq (hps _ (List.getElem_mem hlt)) hok) ?_ | with_reducible refine st_if (by omega) ?_ | with_reducible refine Z5 (rdI_v _ _) ?_ | with_reducible refine Z5 (rdB_v _) ?_ | (with_reducible refine Z5 (rdL_v _ _ _) ?_; try dsimp only) | with_reducible refine Z5 (rdA_v _) ?_ | with_reducible refine Z5 (rdT_v _) ?_ | with_reducible refine st_cT (decide_eq_true (by omega)) ?_ | with_reducible refine st_cF (decide_eq_false (by omega)) ?_ | with_reducible refine st_cT (i_eq (by omega)) ?_ | with_reducible refine st_cF (i_ne (by omega)) ?_ | with_reducible refine st_cT (i_bne (by omega)) ?_ | with_reducible refine st_cF (i_bnf (by omega)) ?_ | with_reducible refine st_ifn (by omega) ?_ | ((with_reducible refine st_cT ?_ ?_); exact rfl) | ((with_reducible refine st_cF ?_ ?_); exact rfl))
   by_cases he : ps[k].id = polO (P.getD i 0)
   ·rw [decide_eq_true he]
    repeat (first | (with_reducible refine Z5 (Z1gs (Z1mr hps hlt)) ?_; try dsimp only) | with_reducible refine st_if (by omega) ?_ | with_reducible refine Z5 (rdI_v _ _) ?_ | with_reducible refine Z5 (rdB_v _) ?_ | (with_reducible refine Z5 (rdL_v _ _ _) ?_; try dsimp only) | with_reducible refine Z5 (rdA_v _) ?_ | with_reducible refine Z5 (rdT_v _) ?_ | with_reducible refine st_cT (decide_eq_true (by omega)) ?_ | with_reducible refine st_cF (decide_eq_false (by omega)) ?_ | with_reducible refine st_cT (i_eq (by omega)) ?_ | with_reducible refine st_cF (i_ne (by omega)) ?_ | with_reducible refine st_cT (i_bne (by omega)) ?_ | with_reducible refine st_cF (i_bnf (by omega)) ?_ | with_reducible refine st_ifn (by omega) ?_ | ((with_reducible refine st_cT ?_ ?_); exact rfl) | ((with_reducible refine st_cF ?_ ?_); exact rfl))
    rw [Zzc, Z40 (by omega)]
    rfl
   ·rw [decide_eq_false he]
    rfl
  ·have hg : P.getD i 0 < 256 := hP _ (by rw [List.getD_eq_getElem?_getD, List.getElem?_eq_getElem hi]; exact List.getElem_mem hi)
   have h7 : IntKind.wrap .u8 (Int.tdiv ((P.getD i 0 : Nat) : Int) (7 : Int)) = ((P.getD i 0 / 7 : Nat) : Int) := by
    rw [show (7 : Int) = ((7 : Nat) : Int) from rfl, Z18g, Zpx (by omega)]
   have hlen := Oid.cells_len hok
   rw [Zqc (by simp; omega)]
   simp only [Bool.false_eq_true, if_false]
   refine st_cF (decide_eq_false (by omega)) ?_
   refine st_if (by omega) ?_
   refine Z5 (n8_get hi) ?_
   rw [h7]
   refine Z5 (Z1hi _) ?_
   refine Z5 (rdL_v _ _ _) ?_
   refine st_if hlen ?_
   dsimp only
   rw [Z1ne rfl hlen]
   have h18 : ((polO (P.getD i 0)).cells ++ [D.list (notesN (P.getD i 0 / 7)) (some (notesN (P.getD i 0 / 7))) (notesC (P.getD i 0 / 7))]).length = 18 := by rw [List.length_append, hlen]; rfl
   refine st_if h18 ?_
   refine st_if h18 ?_
   refine st_if ⟨rfl, trivial, by constructor <;> omega, h18⟩ ?_
   rw [Zva, Z40 (by omega), Z1bh, Z1hj, List.length_append]
   rfl
theorem Z1df {m : Nat} {Z3b : Int} {Z2p : Option Nat} {Z48 : Nat} {Z49 : Option Nat} {Z4p : List D} {Z57 Z6o Z2l : Int} {Z2k Z3o Z3y : Bool} {Z45 Zkk Zm1 : Int} {Zm2 Zv6 Zv7 : Bool} {Zv8 Z18h Z18i : Int} : ∀ (c i : Nat) (ps : List Pol), P.length - i < c → i ≤ P.length → 4 ≤ m → ps.length ≤ 4 → (∀ p, p ∈ ps → p.id.ok) →
  Z9p m c (i : Int) Z3b P.length Z2p (n8 P) Z48 Z49 Z4p Z57 Z6o Z2l Z2k Z3o Z3y Z45 Zkk Zm1 Zm2 Zv6 ps.length Zv7 Zv8 Z18h Z18i (ps.length * 18) (polsC ps) =
  Zhk m Z3b P.length Z2p (n8 P) Z48 Z49 Z4p Z57 Z6o Z2l Z2k Z3o Z3y Z45 Zkk Zm1 Zm2 Zv6 (polsOf ps (P.drop i)).length Zv7 Zv8 Z18h Z18i ((polsOf ps (P.drop i)).length * 18) (polsC (polsOf ps (P.drop i)))
 | 0, i, ps, hc, hi, _, _, _ => by omega
 | c + 1, i, ps, hc, hi, hm, h4, hps => by
  rw [Z12d]
  by_cases hlt : i < P.length
  ·rw [List.drop_eq_getElem_cons hlt, polsOf]
   by_cases h : 4 ≤ ps.length
   ·rw [if_pos h]
    repeat (first | with_reducible refine st_if (by omega) ?_ | with_reducible refine Z5 (rdI_v _ _) ?_ | with_reducible refine Z5 (rdB_v _) ?_ | (with_reducible refine Z5 (rdL_v _ _ _) ?_; try dsimp only) | with_reducible refine Z5 (rdA_v _) ?_ | with_reducible refine Z5 (rdT_v _) ?_ | with_reducible refine st_cT (decide_eq_true (by omega)) ?_ | with_reducible refine st_cF (decide_eq_false (by omega)) ?_ | with_reducible refine st_cT (i_eq (by omega)) ?_ | with_reducible refine st_cF (i_ne (by omega)) ?_ | with_reducible refine st_cT (i_bne (by omega)) ?_ | with_reducible refine st_cF (i_bnf (by omega)) ?_ | with_reducible refine st_ifn (by omega) ?_ | ((with_reducible refine st_cT ?_ ?_); exact rfl) | ((with_reducible refine st_cF ?_ ?_); exact rfl))
    rfl
   ·rw [if_neg h]
    have hg : P.getD i 0 = P[i] := by rw [List.getD_eq_getElem?_getD, List.getElem?_eq_getElem hlt]; rfl
    refine st_cT (decide_eq_true (by omega)) ?_
    refine st_cT (decide_eq_true (by omega)) ?_
    rw [Zzd]
    simp only [Int.toNat_natCast, Nat.mul_one]
    refine st_if (by omega) ?_
    refine Z5 (n8_get hlt) ?_
    refine Z5 (Ztm _) ?_
    refine Z5 (rdA_v _) ?_
    refine st_if (Oid.cells_len (Zim _)) ?_
    refine st_if (Oid.cells_len (Zim _)) ?_
    refine (Z1bj hP hl hlt (ps := ps) (by omega) hps m 0 (by omega) (by omega)).trans ?_
    rw [Znm, hg]
    refine Z1df c (i + 1) _ (by omega) (by omega) hm ?_ ?_
    ·split
     ·exact h4
     ·simp; omega
    ·split
     ·exact hps
     ·intro p hp
      rcases List.mem_append.1 hp with hp | hp
      ·exact hps p hp
      ·simp only [List.mem_singleton] at hp; subst hp; exact Zim _
  ·rw [List.drop_eq_nil_of_le (by omega)]
   repeat (first | with_reducible refine st_if (by omega) ?_ | with_reducible refine Z5 (rdI_v _ _) ?_ | with_reducible refine Z5 (rdB_v _) ?_ | (with_reducible refine Z5 (rdL_v _ _ _) ?_; try dsimp only) | with_reducible refine Z5 (rdA_v _) ?_ | with_reducible refine Z5 (rdT_v _) ?_ | with_reducible refine st_cT (decide_eq_true (by omega)) ?_ | with_reducible refine st_cF (decide_eq_false (by omega)) ?_ | with_reducible refine st_cT (i_eq (by omega)) ?_ | with_reducible refine st_cF (i_ne (by omega)) ?_ | with_reducible refine st_cT (i_bne (by omega)) ?_ | with_reducible refine st_cF (i_bnf (by omega)) ?_ | with_reducible refine st_ifn (by omega) ?_ | ((with_reducible refine st_cT ?_ ?_); exact rfl) | ((with_reducible refine st_cF ?_ ?_); exact rfl))
   rfl
end
section
variable {P : List Nat} (hl : P.length ≤ 9223372036854775807)
include hl
theorem Z101 {m n0 : Nat} {Zxa : Int} {Z16m : Nat} {Z14d : Option Nat} {Z16n : List D} {Z1ee : Option Nat} {Z11t Z11u Z11v : Int} {Z11w Z11x Z11y : Bool} {Z11z Z120 Z121 : Int} {Z122 Z123 : Bool} {Z124 : Nat} {Z125 : Bool} {Z127 Z128 Z129 : Int} {Z12a : Nat} {Z12b : List D} {i : Nat} (hi : i < P.length) {ms : List Mp} (h4 : ms.length < 4) (hms : ∀ p, p ∈ ms → p.ok) {q : Mp} (hq : q.ok) : ∀ (c k : Nat) (fr : Bool), ms.length - k < c → k ≤ ms.length →
  Zcs m n0 c (i : Int) (cond fr 1 0) (k : Int) Zxa Z16m Z14d Z16n P.length Z1ee (n8 P) Z11t Z11u Z11v Z11w Z11x Z11y Z11z Z120 Z121 Z122 Z123 Z124 Z125 ms.length Z127 Z128 Z129 Z12a Z12b (ms.length * 34) (mapsC ms) q.cells =
  Z7w m n0 ((i + 1 : Nat) : Int) Zxa Z16m Z14d Z16n P.length Z1ee (n8 P) Z11t Z11u Z11v Z11w Z11x Z11y Z11z Z120 Z121 Z122 Z123 Z124 Z125
   (if (fr && !Zcp ms q k) then ms ++ [q] else ms).length Z127 Z128 Z129 Z12a Z12b ((if (fr && !Zcp ms q k) then ms ++ [q] else ms).length * 34) (mapsC (if (fr && !Zcp ms q k) then ms ++ [q] else ms))
 | 0, k, fr, hc, hk => by omega
 | c + 1, k, fr, hc, hk => by
  have hl' := Zx9 hms
  rw [Zzu]
  simp only [Int.toNat_natCast, Nat.zero_add, Nat.add_zero, Nat.mul_one]
  by_cases hlt : k < ms.length
  ·have hcut : cutL (ms.length * 34) (mapsC ms) (k * 34) 34 = ms[k].cells := by rw [Z17k hl', Z148 hms hlt]
   rw [Znl hlt, hcut, Znn, Znn, Z40 (by omega), Z101 hi h4 hms hq c (k + 1) fr (by omega) (by omega)]
   have h0 := Z101 (m := m) (n0 := n0) (Zxa := Zxa) (Z16m := Z16m) (Z14d := Z14d) (Z16n := Z16n) (Z1ee := Z1ee) (Z11t := Z11t) (Z11u := Z11u) (Z11v := Z11v) (Z11w := Z11w) (Z11x := Z11x) (Z11y := Z11y) (Z11z := Z11z) (Z120 := Z120) (Z121 := Z121) (Z122 := Z122) (Z123 := Z123) (Z124 := Z124) (Z125 := Z125) (Z127 := Z127) (Z128 := Z128) (Z129 := Z129) (Z12a := Z12a) (Z12b := Z12b) hi h4 hms hq c (k + 1) false (by omega) (by omega)
   simp only [cond_false] at h0
   rw [h0]
   repeat (first | with_reducible refine Z5 (mp_eq' (hms _ (List.getElem_mem hlt)) hq) ?_ | with_reducible refine st_if (by omega) ?_ | with_reducible refine Z5 (rdI_v _ _) ?_ | with_reducible refine Z5 (rdB_v _) ?_ | (with_reducible refine Z5 (rdL_v _ _ _) ?_; try dsimp only) | with_reducible refine Z5 (rdA_v _) ?_ | with_reducible refine Z5 (rdT_v _) ?_ | with_reducible refine st_cT (decide_eq_true (by omega)) ?_ | with_reducible refine st_cF (decide_eq_false (by omega)) ?_ | with_reducible refine st_cT (i_eq (by omega)) ?_ | with_reducible refine st_cF (i_ne (by omega)) ?_ | with_reducible refine st_cT (i_bne (by omega)) ?_ | with_reducible refine st_cF (i_bnf (by omega)) ?_ | with_reducible refine st_ifn (by omega) ?_ | ((with_reducible refine st_cT ?_ ?_); exact rfl) | ((with_reducible refine st_cF ?_ ?_); exact rfl))
   by_cases he : ms[k] = q
   ·rw [decide_eq_true he]
    cases fr <;> rfl
   ·rw [decide_eq_false he]
    rfl
  ·rw [Zqc (by omega)]
   have hlen := Mp.cells_len hq
   refine st_cF (decide_eq_false (by omega)) ?_
   cases fr with
   | true =>
    refine st_cT rfl ?_
    refine st_if hlen ?_
    refine st_if ⟨rfl, by first | rfl | trivial, by constructor <;> omega, hlen⟩ ?_
    rw [Zxb, Z40 (by omega)]
    simp only [Bool.not_false, Bool.and_self, if_true, List.length_append, List.length_singleton, Z1bi, Z1hk]
   | false =>
    refine st_cF rfl ?_
    rw [Ztx, Z40 (by omega)]
    rfl
end
section
variable {P : List Nat} (hP : ∀ k, k ∈ P → k < 256) (hl : P.length ≤ 9223372036854775807)
include hP hl
theorem Z1bk {m : Nat} {Zze : Int} {Z15s : Nat} {Z16i : Option Nat} {Z16j : List D} {Z15t : Option Nat} {Z16k Z16l Zm3 : Int} {Zzf Zzg Zzh : Bool} {Zzi Zzj Zzk : Int} {Zzl Zzm : Bool} {Zzn : Nat} {Zzo : Bool} {Zzp Zzq Zzr : Int} {Zzs : Nat} {Zzt : List D} : ∀ (c i : Nat) (ms : List Mp), P.length - i < c → i ≤ P.length → 4 ≤ m → ms.length ≤ 4 → (∀ p, p ∈ ms → p.ok) →
  Z7w m c (i : Int) Zze Z15s Z16i Z16j P.length Z15t (n8 P) Z16k Z16l Zm3 Zzf Zzg Zzh Zzi Zzj Zzk Zzl Zzm Zzn Zzo ms.length Zzp Zzq Zzr Zzs Zzt (ms.length * 34) (mapsC ms) =
  Z66 m Zze Z15s Z16i Z16j P.length Z15t (n8 P) Z16k Z16l Zm3 Zzf Zzg Zzh Zzi Zzj Zzk Zzl Zzm Zzn Zzo (mapsOf ms (P.drop i)).length Zzp Zzq Zzr Zzs Zzt ((mapsOf ms (P.drop i)).length * 34) (mapsC (mapsOf ms (P.drop i)))
 | 0, i, ms, hc, hi, _, _, _ => by omega
 | c + 1, i, ms, hc, hi, hm, h4, hms => by
  rw [Zzv]
  by_cases hlt : i < P.length
  ·rw [List.drop_eq_getElem_cons hlt, mapsOf]
   by_cases h : 4 ≤ ms.length
   ·rw [if_pos h]
    repeat (first | with_reducible refine st_if (by omega) ?_ | with_reducible refine Z5 (rdI_v _ _) ?_ | with_reducible refine Z5 (rdB_v _) ?_ | (with_reducible refine Z5 (rdL_v _ _ _) ?_; try dsimp only) | with_reducible refine Z5 (rdA_v _) ?_ | with_reducible refine Z5 (rdT_v _) ?_ | with_reducible refine st_cT (decide_eq_true (by omega)) ?_ | with_reducible refine st_cF (decide_eq_false (by omega)) ?_ | with_reducible refine st_cT (i_eq (by omega)) ?_ | with_reducible refine st_cF (i_ne (by omega)) ?_ | with_reducible refine st_cT (i_bne (by omega)) ?_ | with_reducible refine st_cF (i_bnf (by omega)) ?_ | with_reducible refine st_ifn (by omega) ?_ | ((with_reducible refine st_cT ?_ ?_); exact rfl) | ((with_reducible refine st_cF ?_ ?_); exact rfl))
    rfl
   ·rw [if_neg h]
    have hg : P.getD i 0 = P[i] := by rw [List.getD_eq_getElem?_getD, List.getElem?_eq_getElem hlt]; rfl
    have hb : P.getD i 0 < 256 := by rw [hg]; exact hP _ (List.getElem_mem hlt)
    refine st_cT (decide_eq_true (by omega)) ?_
    refine st_cT (decide_eq_true (by omega)) ?_
    rw [Zxd]
    simp only [Int.toNat_natCast, Nat.mul_one]
    have key : Zcs m c m (i : Int) 1 0 Zze Z15s Z16i Z16j P.length Z15t (n8 P) Z16k Z16l Zm3 Zzf Zzg Zzh Zzi Zzj Zzk Zzl Zzm Zzn Zzo ms.length Zzp Zzq Zzr Zzs Zzt (ms.length * 34) (mapsC ms) (mpO P[i]).cells = Z66 m Zze Z15s Z16i Z16j P.length Z15t (n8 P) Z16k Z16l Zm3 Zzf Zzg Zzh Zzi Zzj Zzk Zzl Zzm Zzn Zzo (mapsOf (if ms.contains (mpO P[i]) then ms else ms ++ [mpO P[i]]) (P.drop (i + 1))).length Zzp Zzq Zzr Zzs Zzt ((mapsOf (if ms.contains (mpO P[i]) then ms else ms ++ [mpO P[i]]) (P.drop (i + 1))).length * 34) (mapsC (mapsOf (if ms.contains (mpO P[i]) then ms else ms ++ [mpO P[i]]) (P.drop (i + 1)))) := by
     refine (Z101 hl hlt (ms := ms) (by omega) hms (mpO_ok _) m 0 true (by omega) (by omega)).trans ?_
     have e : (if (true && !Zcp ms (mpO P[i]) 0) then ms ++ [mpO P[i]] else ms) = if ms.contains (mpO P[i]) then ms else ms ++ [mpO P[i]] := by
      rw [Znm]; cases ms.contains (mpO P[i]) <;> rfl
     rw [e]
     refine Z1bk c (i + 1) _ (by omega) (by omega) hm ?_ ?_
     ·split
      ·exact h4
      ·simp; omega
     ·split
      ·exact hms
      ·intro p hp
       rcases List.mem_append.1 hp with hp | hp
       ·exact hms p hp
       ·simp only [List.mem_singleton] at hp; subst hp; exact mpO_ok _
    have h1 : (polO (P[i] % 6)).cells.length = 17 := Oid.cells_len (Zim _)
    have h2 : (polO (P[i] / 6 % 6)).cells.length = 17 := Oid.cells_len (Zim _)
    have h3 : anyO.cells.length = 17 := rfl
    have t1 : Int.tmod ((P[i] : Nat) : Int) (6 : Int) = ((P[i] % 6 : Nat) : Int) := Zhf _ 6
    have t2 : Int.tmod (IntKind.wrap .u8 (Int.tdiv ((P[i] : Nat) : Int) (6 : Int))) (6 : Int) = ((P[i] / 6 % 6 : Nat) : Int) := by
     rw [show Int.tdiv ((P[i] : Nat) : Int) (6 : Int) = ((P[i] / 6 : Nat) : Int) from Z18g _ 6, Zpx (by omega)]; exact Zhf _ 6
    refine st_if (by omega) ?_
    refine Z5 (n8_get hlt) ?_
    rw [hg, t1]
    refine Z5 (Ztm _) ?_
    refine Z5 (rdA_v _) ?_
    refine st_if (by omega) ?_
    refine Z5 (n8_get hlt) ?_
    rw [hg, t2]
    refine Z5 (Ztm _) ?_
    refine Z5 (rdA_v _) ?_
    refine st_if h1 ?_
    refine st_if h2 ?_
    rw [put34 rfl h1 h2]
    refine st_if (by rw [List.length_append]; omega) ?_
    refine st_if (by omega) ?_
    refine Z5 (n8_get hlt) ?_
    rw [hg]
    have h15 : ∀ a, a = (if P[i] = 254 then anyO else polO (P[i] % 6)) → Zex m c (i : Int) Zze Z15s Z16i Z16j P.length Z15t (n8 P) Z16k Z16l Zm3 Zzf Zzg Zzh Zzi Zzj Zzk Zzl Zzm Zzn Zzo ms.length Zzp Zzq Zzr Zzs Zzt (ms.length * 34) (mapsC ms) (a.cells ++ (polO (P[i] / 6 % 6)).cells) = Z66 m Zze Z15s Z16i Z16j P.length Z15t (n8 P) Z16k Z16l Zm3 Zzf Zzg Zzh Zzi Zzj Zzk Zzl Zzm Zzn Zzo (mapsOf (if ms.contains (mpO P[i]) then ms else ms ++ [mpO P[i]]) (P.drop (i + 1))).length Zzp Zzq Zzr Zzs Zzt ((mapsOf (if ms.contains (mpO P[i]) then ms else ms ++ [mpO P[i]]) (P.drop (i + 1))).length * 34) (mapsC (mapsOf (if ms.contains (mpO P[i]) then ms else ms ++ [mpO P[i]]) (P.drop (i + 1)))) := fun a ha => by
     have hal : a.cells.length = 17 := by rw [ha]; split <;> assumption
     rw [Zxc]
     simp only [Int.toNat_natCast, Nat.mul_one]
     refine st_if (by omega) ?_
     refine Z5 (n8_get hlt) ?_
     rw [hg]
     by_cases h5 : P[i] = 255
     ·refine st_cT (i_eq (by omega)) ?_
      refine Z5 Z1hg ?_
      refine Z5 (rdA_v _) ?_
      refine st_if h3 ?_
      rw [Znp, put34r hal h2]
      have e : (mpO P[i]).cells = a.cells ++ anyO.cells := by rw [ha]; unfold mpO Mp.cells; rw [if_pos h5]
      rw [← e]
      exact key
     ·refine st_cF (i_ne (by omega)) ?_
      rw [Znp]
      have e : (mpO P[i]).cells = a.cells ++ (polO (P[i] / 6 % 6)).cells := by rw [ha]; unfold mpO Mp.cells; rw [if_neg h5]
      rw [← e]
      exact key
    by_cases h4' : P[i] = 254
    ·refine st_cT (i_eq (by omega)) ?_
     refine Z5 Z1hg ?_
     refine Z5 (rdA_v _) ?_
     refine st_if h3 ?_
     rw [put34l h1 h2]
     exact h15 anyO (by rw [if_pos h4'])
    ·refine st_cF (i_ne (by omega)) ?_
     exact h15 _ (by rw [if_neg h4'])
  ·rw [List.drop_eq_nil_of_le (by omega)]
   repeat (first | with_reducible refine st_if (by omega) ?_ | with_reducible refine Z5 (rdI_v _ _) ?_ | with_reducible refine Z5 (rdB_v _) ?_ | (with_reducible refine Z5 (rdL_v _ _ _) ?_; try dsimp only) | with_reducible refine Z5 (rdA_v _) ?_ | with_reducible refine Z5 (rdT_v _) ?_ | with_reducible refine st_cT (decide_eq_true (by omega)) ?_ | with_reducible refine st_cF (decide_eq_false (by omega)) ?_ | with_reducible refine st_cT (i_eq (by omega)) ?_ | with_reducible refine st_cF (i_ne (by omega)) ?_ | with_reducible refine st_cT (i_bne (by omega)) ?_ | with_reducible refine st_cF (i_bnf (by omega)) ?_ | with_reducible refine st_ifn (by omega) ?_ | ((with_reducible refine st_cT ?_ ?_); exact rfl) | ((with_reducible refine st_cF ?_ ?_); exact rfl))
   rfl
end
theorem polsOf_ok : ∀ (l : List Nat) (ps : List Pol), (∀ p, p ∈ ps → p.id.ok) → ∀ p, p ∈ polsOf ps l → p.id.ok
 | [], ps, h => h
 | k :: r, ps, h => by
  unfold polsOf
  split
  ·exact h
  ·refine polsOf_ok r _ ?_
   split
   ·exact h
   ·intro p hp
    rcases List.mem_append.1 hp with hp | hp
    ·exact h p hp
    ·simp only [List.mem_singleton] at hp; subst hp; exact Zim _
theorem mapsOf_ok : ∀ (l : List Nat) (ps : List Mp), (∀ p, p ∈ ps → p.ok) → ∀ p, p ∈ mapsOf ps l → p.ok
 | [], ps, h => h
 | k :: r, ps, h => by
  unfold mapsOf
  split
  ·exact h
  ·refine mapsOf_ok r _ ?_
   split
   ·exact h
   ·intro p hp
    rcases List.mem_append.1 hp with hp | hp
    ·exact h p hp
    ·simp only [List.mem_singleton] at hp; subst hp; exact mpO_ok _
theorem Z1dg {x : Ri} (h : x.ok) : Zdq [.agg x.cells] = some (.agg x.rcd.cells) := by
 show Znq M (x.self : Int) x.p.length x.pc (n8 x.p) x.m.length x.mc (n8 x.m) (x.c0 : Int) (x.c1 : Int) (x.c2 : Int) = _
 unfold Znq
 refine Z5 (Z14h h.c0) ?_
 refine Z5 (rdI_v _ _) ?_
 refine Z5 (Z14h h.c1) ?_
 refine Z5 (rdI_v _ _) ?_
 refine Z5 (Z14h h.c2) ?_
 refine Z5 (rdI_v _ _) ?_
 have h1 := h.pl
 have h2 := h.ml
 refine (Z1df h.p h.pl (m := M) M 0 [] (by unfold M; omega) (by omega) (by unfold M; omega) (by simp) (fun p hp => nomatch hp)).trans ?_
 rw [Zzw, List.drop_zero]
 refine (Z1bk h.m h.ml (m := M) M 0 [] (by unfold M; omega) (by omega) (by unfold M; omega) (by simp) (fun p hp => nomatch hp)).trans ?_
 rw [Zxe, List.drop_zero]
 refine st_if (by omega) ?_
 refine st_if (by omega) ?_
 rw [Zgf (Zx6 (polsOf_ok _ [] (fun p hp => nomatch hp))), Zgf (Zx9 (mapsOf_ok _ [] (fun p hp => nomatch hp)))]
 have e : (Int.tmod (x.self : Int) (2 : Int) == (1 : Int)) = ((x.self % 2 : Nat) == 1) := by
  rw [show (2 : Int) = ((2 : Nat) : Int) from rfl, Zhf]
  have : x.self % 2 < 2 := Nat.mod_lt _ (by omega)
  generalize x.self % 2 = j at this
  match j, this with
  | 0, _ | 1, _ => rfl
 have g0 : ∀ n : Nat, decide ((n : Int) > 0) = decide (0 < n) := fun n => by congr 1; apply propext; omega
 rw [e, g0, g0]
 rfl
end Go.Ev