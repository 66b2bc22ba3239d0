/-
  The evaluator: EzNB EzNC EzND.
-/
import Derived.Test.YtkefahdbckjajaaGreatDoorEzXG
/-
 Trees pruned by choices.
-/
set_option linter.unusedSimpArgs false
set_option linter.unusedVariables false
set_option maxRecDepth 100000
namespace Go.Ev
open Go
def chI (cs : List Int) (k n : Nat) : Int :=
 let c := if k < cs.length then Int.tmod (cs.getD k 0) (n : Int) else 0
 if c < 0 then c + (n : Int) else c
def chN (cs : List Int) (k n : Nat) : Nat := (chI cs k n).toNat
theorem Z1jg (a : Int) {n : Nat} (h : 0 < n) : -(n : Int) < Int.tmod a (n : Int) ∧ Int.tmod a (n : Int) < (n : Int) := by
 have h1 := Int.tmod_lt_of_pos a (show (0 : Int) < (n : Int) by omega)
 have h2 : -(n : Int) < Int.tmod a (n : Int) := by
  have := Int.tmod_lt_of_pos (-a) (show (0 : Int) < (n : Int) by omega)
  rw [Int.neg_tmod] at this; omega
 exact ⟨h2, h1⟩
theorem chI_lt (cs : List Int) (k : Nat) {n : Nat} (h : 0 < n) : 0 ≤ chI cs k n ∧ chI cs k n < (n : Int) := by
 unfold chI
 have := Z1jg (cs.getD k 0) h
 dsimp only
 split <;> split <;> omega
theorem chN_lt (cs : List Int) (k : Nat) {n : Nat} (h : 0 < n) : chN cs k n < n := by
 have := chI_lt cs k h
 unfold chN; omega
theorem Z10x {m n0 Z7s : Nat} {Za4 : Option Nat} {Ziw : List D} {Zfx : Int} {Z184 : Nat} {Z185 : Option Nat} {Z186 : List D} {Z187 : Nat} {Z188 : Option Nat} {Z189 : List D} {Zi7 : Nat} {Zof : Option Nat} {Zi8 : List D} {Zog Zoh Zoi : Nat} {n : Nat} {N : List Nd} {A : Nat → Bool} {d : Nat} (hn : n < 100000) {r : Option D} (hE : (if (0 + (((clI N A d n).length) * 1)) ≤ ((clI N A d n).length * 1) then
 (Z4f [(D.list ((clI N A d n).length) none (cutL ((clI N A d n).length * 1) (ints (clI N A d n)) 0 (((clI N A d n).length) * 1)))]).bind fun d95 =>
 (rdL (some d95)).bind fun q96 =>
 if (0 + (((clI N A d n).length) * 1)) ≤ ((clI N A d n).length * 1) then
 if (0 + (((clI N A d n).length) * 1)) ≤ ((clI N A d n).length * 1) then
 cond (decide (((q96.n : Nat) : Int) > (0 : Int)))
 (cond (decide (Zfx < ((Z7s : Nat) : Int)))
 (if 0 ≤ Zfx ∧ Zfx < ((Z7s : Nat) : Int) then
 (rdI .i64 Ziw[((Int.toNat Zfx) * 1)]?).bind fun x97 =>
 if ((q96.n : Nat) : Int) = 0 then none else
 cond (decide ((Int.tmod x97 ((q96.n : Nat) : Int)) < (0 : Int)))
 (if 0 ≤ (IntKind.wrap .i64 ((Int.tmod x97 ((q96.n : Nat) : Int)) + ((q96.n : Nat) : Int))) ∧ (IntKind.wrap .i64 ((Int.tmod x97 ((q96.n : Nat) : Int)) + ((q96.n : Nat) : Int))) < ((q96.n : Nat) : Int) then
 (rdI .i64 q96.cs[((Int.toNat (IntKind.wrap .i64 ((Int.tmod x97 ((q96.n : Nat) : Int)) + ((q96.n : Nat) : Int)))) * 1)]?).bind fun x98 =>
 if 0 ≤ x98 ∧ x98 < ((n : Nat) : Int) then
 if 1 = 1 ∧ (0 + ((Int.toNat x98) * 1)) < (n * 1) then
 cond (decide (x98 > (0 : Int)))
 (if 0 ≤ x98 ∧ x98 < ((Zi7 : Nat) : Int) then
 (rdI .i64 Zi8[(((Int.toNat x98) * 20) + 0)]?).bind fun x99 =>
 if 0 ≤ x99 ∧ x99 < ((n : Nat) : Int) then
 (rdI .i64 (ifn (kiF N A) n)[(0 + ((Int.toNat x99) * 1))]?).bind fun x100 =>
 if 0 ≤ x99 ∧ x99 < ((n : Nat) : Int) then
 if 1 = 1 ∧ (0 + ((Int.toNat x99) * 1)) < (n * 1) then
 Zd m n0 Z7s Za4 Ziw (IntKind.wrap .i64 (Zfx + (1 : Int))) Z184 Z185 Z186 Z187 Z188 Z189 (n * 1) (ints (dps N n n)) (n * 1) (List.set (ifn (kiF N A) n) (0 + ((Int.toNat x99) * 1)) (D.v (.int .i64 (IntKind.wrap .i64 (x100 - (1 : Int)))))) (n * 1) (List.set (bfn (fun j => !A j) n) (0 + ((Int.toNat x98) * 1)) (D.v (.bool true))) Zi7 Zof Zi8 ((d : Int)) n Zog n Zoh n Zoi
 else none
 else none
 else none
 else none)
 (Zd m n0 Z7s Za4 Ziw (IntKind.wrap .i64 (Zfx + (1 : Int))) Z184 Z185 Z186 Z187 Z188 Z189 (n * 1) (ints (dps N n n)) (n * 1) (ifn (kiF N A) n) (n * 1) (List.set (bfn (fun j => !A j) n) (0 + ((Int.toNat x98) * 1)) (D.v (.bool true))) Zi7 Zof Zi8 ((d : Int)) n Zog n Zoh n Zoi)
 else none
 else none
 else none)
 (if 0 ≤ (Int.tmod x97 ((q96.n : Nat) : Int)) ∧ (Int.tmod x97 ((q96.n : Nat) : Int)) < ((q96.n : Nat) : Int) then
 (rdI .i64 q96.cs[((Int.toNat (Int.tmod x97 ((q96.n : Nat) : Int))) * 1)]?).bind fun x101 =>
 if 0 ≤ x101 ∧ x101 < ((n : Nat) : Int) then
 if 1 = 1 ∧ (0 + ((Int.toNat x101) * 1)) < (n * 1) then
 cond (decide (x101 > (0 : Int)))
 (if 0 ≤ x101 ∧ x101 < ((Zi7 : Nat) : Int) then
 (rdI .i64 Zi8[(((Int.toNat x101) * 20) + 0)]?).bind fun x102 =>
 if 0 ≤ x102 ∧ x102 < ((n : Nat) : Int) then
 (rdI .i64 (ifn (kiF N A) n)[(0 + ((Int.toNat x102) * 1))]?).bind fun x103 =>
 if 0 ≤ x102 ∧ x102 < ((n : Nat) : Int) then
 if 1 = 1 ∧ (0 + ((Int.toNat x102) * 1)) < (n * 1) then
 Zd m n0 Z7s Za4 Ziw (IntKind.wrap .i64 (Zfx + (1 : Int))) Z184 Z185 Z186 Z187 Z188 Z189 (n * 1) (ints (dps N n n)) (n * 1) (List.set (ifn (kiF N A) n) (0 + ((Int.toNat x102) * 1)) (D.v (.int .i64 (IntKind.wrap .i64 (x103 - (1 : Int)))))) (n * 1) (List.set (bfn (fun j => !A j) n) (0 + ((Int.toNat x101) * 1)) (D.v (.bool true))) Zi7 Zof Zi8 ((d : Int)) n Zog n Zoh n Zoi
 else none
 else none
 else none
 else none)
 (Zd m n0 Z7s Za4 Ziw (IntKind.wrap .i64 (Zfx + (1 : Int))) Z184 Z185 Z186 Z187 Z188 Z189 (n * 1) (ints (dps N n n)) (n * 1) (ifn (kiF N A) n) (n * 1) (List.set (bfn (fun j => !A j) n) (0 + ((Int.toNat x101) * 1)) (D.v (.bool true))) Zi7 Zof Zi8 ((d : Int)) n Zog n Zoh n Zoi)
 else none
 else none
 else none)
 else none)
 (if 0 ≤ (0 : Int) ∧ (0 : Int) < ((q96.n : Nat) : Int) then
 (rdI .i64 q96.cs[0]?).bind fun x104 =>
 if 0 ≤ x104 ∧ x104 < ((n : Nat) : Int) then
 if 1 = 1 ∧ (0 + ((Int.toNat x104) * 1)) < (n * 1) then
 cond (decide (x104 > (0 : Int)))
 (if 0 ≤ x104 ∧ x104 < ((Zi7 : Nat) : Int) then
 (rdI .i64 Zi8[(((Int.toNat x104) * 20) + 0)]?).bind fun x105 =>
 if 0 ≤ x105 ∧ x105 < ((n : Nat) : Int) then
 (rdI .i64 (ifn (kiF N A) n)[(0 + ((Int.toNat x105) * 1))]?).bind fun x106 =>
 if 0 ≤ x105 ∧ x105 < ((n : Nat) : Int) then
 if 1 = 1 ∧ (0 + ((Int.toNat x105) * 1)) < (n * 1) then
 Zd m n0 Z7s Za4 Ziw (IntKind.wrap .i64 (Zfx + (1 : Int))) Z184 Z185 Z186 Z187 Z188 Z189 (n * 1) (ints (dps N n n)) (n * 1) (List.set (ifn (kiF N A) n) (0 + ((Int.toNat x105) * 1)) (D.v (.int .i64 (IntKind.wrap .i64 (x106 - (1 : Int)))))) (n * 1) (List.set (bfn (fun j => !A j) n) (0 + ((Int.toNat x104) * 1)) (D.v (.bool true))) Zi7 Zof Zi8 ((d : Int)) n Zog n Zoh n Zoi
 else none
 else none
 else none
 else none)
 (Zd m n0 Z7s Za4 Ziw (IntKind.wrap .i64 (Zfx + (1 : Int))) Z184 Z185 Z186 Z187 Z188 Z189 (n * 1) (ints (dps N n n)) (n * 1) (ifn (kiF N A) n) (n * 1) (List.set (bfn (fun j => !A j) n) (0 + ((Int.toNat x104) * 1)) (D.v (.bool true))) Zi7 Zof Zi8 ((d : Int)) n Zog n Zoh n Zoi)
 else none
 else none
 else none))
 (Z26 m n0 m Z7s Za4 Ziw Zfx q96 0 n Zoi ((n : Nat) : Int) (0 : Int) Z184 Z185 Z186 Z187 Z188 Z189 (n * 1) (ints (dps N n n)) (n * 1) (ifn (kiF N A) n) (n * 1) (bfn (fun j => !A j) n) Zi7 Zof Zi8 ((d : Int)) n Zog n Zoh 0 [])
 else none
 else none
 else none) = r) : ∀ (c i : Nat), n - i < c → i ≤ n →
    Z1m m n0 c Z7s Za4 Ziw Zfx ((clI N A d i).length) (n : Int) (i : Int) Z184 Z185 Z186 Z187 Z188 Z189 (n * 1) (ints (dps N n n)) (n * 1) (ifn (kiF N A) n) (n * 1) (bfn (fun j => !A j) n) Zi7 Zof Zi8 (d : Int) n Zog n Zoh n Zoi ((clI N A d i).length * 1) (ints (clI N A d i)) = r
  | 0, i, hc, hi => by omega
  | c + 1, i, hc, hi => by
    have hcl := Zyv N A d i
    rw [Zex]
    by_cases hlt : i < n
    · have ih := Z10x (m := m) (n0 := n0) (Z7s := Z7s) (Za4 := Za4) (Ziw := Ziw) (Zfx := Zfx) (Z184 := Z184) (Z185 := Z185) (Z186 := Z186) (Z187 := Z187) (Z188 := Z188) (Z189 := Z189) (Zi7 := Zi7) (Zof := Zof) (Zi8 := Zi8) (Zog := Zog) (Zoh := Zoh) (Zoi := Zoi) (N := N) (A := A) (d := d) hn hE c (i + 1) (by omega) (by omega)
      rw [Z18u, chl_eq] at ih
      simp only [Int.toNat_natCast, Nat.zero_add, Nat.mul_one]
      simp only [Nat.mul_one] at ih
      refine st_cT (decide_eq_true (by omega)) ?_
      refine st_if (by omega) ?_
      refine Z0 (Zlp hlt) ?_
      rw [Zu (by omega), Bool.not_not]
      cases ha : A i with
      | false =>
        refine st_cF rfl ?_
        rw [ha] at ih
        exact ih
      | true =>
        refine st_cT rfl ?_
        refine st_if (by omega) ?_
        refine Z0 (dps_at hlt hlt) ?_
        by_cases hd : dep N i < d
        · refine st_cT (decide_eq_true (by omega)) ?_
          refine st_if (by omega) ?_
          refine Z0 (Zeu hlt) ?_
          by_cases hk : kids N A i = 0
          · refine st_cT (i_eq (by unfold kiF; omega)) ?_
            refine st_if ⟨rfl, by first | rfl | trivial, by constructor <;> omega, by first | rfl | trivial⟩ ?_
            rw [ha, decide_eq_true hd, decide_eq_true hk, if_pos (by decide), List.length_append, List.length_singleton, Z7l, Zhg] at ih
            exact ih
          · refine st_cF (i_ne (by unfold kiF; omega)) ?_
            rw [decide_eq_false hk, Bool.and_false, Bool.and_false, if_neg (by decide)] at ih
            exact ih
        · refine st_cF (decide_eq_false (by omega)) ?_
          rw [decide_eq_false hd, Bool.false_and, Bool.and_false, if_neg (by decide)] at ih
          exact ih
    · obtain rfl : i = n := by omega
      refine st_cF (decide_eq_false (by omega)) ?_
      exact hE

theorem Z172 {m a0_0n : Nat} {a0_0c : Option Nat} {a0_0 : List D} {a1 : Int} {a2n : Nat} {a2c : Option Nat} {a2 : List D} {Z61 : Nat} {Z5a : Option Nat} {Z5r : List D} {Z4r : Nat} {Z5f : Option Nat} {Z5s : List D} {n : Nat} {N : List Nd} {A : Nat → Bool} {d : Nat} (hn : n < 100000) {r : Option D} (hE : (if (0 + (((clI N A d n).length) * 1)) ≤ ((clI N A d n).length * 1) then
 (Z4f [(D.list ((clI N A d n).length) none (cutL ((clI N A d n).length * 1) (ints (clI N A d n)) 0 (((clI N A d n).length) * 1)))]).bind fun d24 =>
 (rdL (some d24)).bind fun q25 =>
 if (0 + (((clI N A d n).length) * 1)) ≤ ((clI N A d n).length * 1) then
 if (0 + (((clI N A d n).length) * 1)) ≤ ((clI N A d n).length * 1) then
 cond (decide (((q25.n : Nat) : Int) > (0 : Int)))
 (cond (decide ((0 : Int) < ((a2n : Nat) : Int)))
 (if 0 ≤ (0 : Int) ∧ (0 : Int) < ((a2n : Nat) : Int) then
 (rdI .i64 a2[0]?).bind fun x26 =>
 if ((q25.n : Nat) : Int) = 0 then none else
 cond (decide ((Int.tmod x26 ((q25.n : Nat) : Int)) < (0 : Int)))
 (if 0 ≤ (IntKind.wrap .i64 ((Int.tmod x26 ((q25.n : Nat) : Int)) + ((q25.n : Nat) : Int))) ∧ (IntKind.wrap .i64 ((Int.tmod x26 ((q25.n : Nat) : Int)) + ((q25.n : Nat) : Int))) < ((q25.n : Nat) : Int) then
 (rdI .i64 q25.cs[((Int.toNat (IntKind.wrap .i64 ((Int.tmod x26 ((q25.n : Nat) : Int)) + ((q25.n : Nat) : Int)))) * 1)]?).bind fun x27 =>
 if 0 ≤ x27 ∧ x27 < ((n : Nat) : Int) then
 if 1 = 1 ∧ (0 + ((Int.toNat x27) * 1)) < (n * 1) then
 cond (decide (x27 > (0 : Int)))
 (if 0 ≤ x27 ∧ x27 < ((Z4r : Nat) : Int) then
 (rdI .i64 Z5s[(((Int.toNat x27) * 20) + 0)]?).bind fun x28 =>
 if 0 ≤ x28 ∧ x28 < ((n : Nat) : Int) then
 (rdI .i64 (ifn (kiF N A) n)[(0 + ((Int.toNat x28) * 1))]?).bind fun x29 =>
 if 0 ≤ x28 ∧ x28 < ((n : Nat) : Int) then
 if 1 = 1 ∧ (0 + ((Int.toNat x28) * 1)) < (n * 1) then
 Zd m m a2n a2c a2 (1 : Int) Z61 Z5a Z5r Z4r Z5f Z5s (n * 1) (ints (dps N n n)) (n * 1) (List.set (ifn (kiF N A) n) (0 + ((Int.toNat x28) * 1)) (D.v (.int .i64 (IntKind.wrap .i64 (x29 - (1 : Int)))))) (n * 1) (List.set (bfn (fun j => !A j) n) (0 + ((Int.toNat x27) * 1)) (D.v (.bool true))) Z4r Z5f Z5s ((d : Int)) n n n n n n
 else none
 else none
 else none
 else none)
 (Zd m m a2n a2c a2 (1 : Int) Z61 Z5a Z5r Z4r Z5f Z5s (n * 1) (ints (dps N n n)) (n * 1) (ifn (kiF N A) n) (n * 1) (List.set (bfn (fun j => !A j) n) (0 + ((Int.toNat x27) * 1)) (D.v (.bool true))) Z4r Z5f Z5s ((d : Int)) n n n n n n)
 else none
 else none
 else none)
 (if 0 ≤ (Int.tmod x26 ((q25.n : Nat) : Int)) ∧ (Int.tmod x26 ((q25.n : Nat) : Int)) < ((q25.n : Nat) : Int) then
 (rdI .i64 q25.cs[((Int.toNat (Int.tmod x26 ((q25.n : Nat) : Int))) * 1)]?).bind fun x170 =>
 if 0 ≤ x170 ∧ x170 < ((n : Nat) : Int) then
 if 1 = 1 ∧ (0 + ((Int.toNat x170) * 1)) < (n * 1) then
 cond (decide (x170 > (0 : Int)))
 (if 0 ≤ x170 ∧ x170 < ((Z4r : Nat) : Int) then
 (rdI .i64 Z5s[(((Int.toNat x170) * 20) + 0)]?).bind fun x171 =>
 if 0 ≤ x171 ∧ x171 < ((n : Nat) : Int) then
 (rdI .i64 (ifn (kiF N A) n)[(0 + ((Int.toNat x171) * 1))]?).bind fun x172 =>
 if 0 ≤ x171 ∧ x171 < ((n : Nat) : Int) then
 if 1 = 1 ∧ (0 + ((Int.toNat x171) * 1)) < (n * 1) then
 Zd m m a2n a2c a2 (1 : Int) Z61 Z5a Z5r Z4r Z5f Z5s (n * 1) (ints (dps N n n)) (n * 1) (List.set (ifn (kiF N A) n) (0 + ((Int.toNat x171) * 1)) (D.v (.int .i64 (IntKind.wrap .i64 (x172 - (1 : Int)))))) (n * 1) (List.set (bfn (fun j => !A j) n) (0 + ((Int.toNat x170) * 1)) (D.v (.bool true))) Z4r Z5f Z5s ((d : Int)) n n n n n n
 else none
 else none
 else none
 else none)
 (Zd m m a2n a2c a2 (1 : Int) Z61 Z5a Z5r Z4r Z5f Z5s (n * 1) (ints (dps N n n)) (n * 1) (ifn (kiF N A) n) (n * 1) (List.set (bfn (fun j => !A j) n) (0 + ((Int.toNat x170) * 1)) (D.v (.bool true))) Z4r Z5f Z5s ((d : Int)) n n n n n n)
 else none
 else none
 else none)
 else none)
 (if 0 ≤ (0 : Int) ∧ (0 : Int) < ((q25.n : Nat) : Int) then
 (rdI .i64 q25.cs[0]?).bind fun x285 =>
 if 0 ≤ x285 ∧ x285 < ((n : Nat) : Int) then
 if 1 = 1 ∧ (0 + ((Int.toNat x285) * 1)) < (n * 1) then
 cond (decide (x285 > (0 : Int)))
 (if 0 ≤ x285 ∧ x285 < ((Z4r : Nat) : Int) then
 (rdI .i64 Z5s[(((Int.toNat x285) * 20) + 0)]?).bind fun x286 =>
 if 0 ≤ x286 ∧ x286 < ((n : Nat) : Int) then
 (rdI .i64 (ifn (kiF N A) n)[(0 + ((Int.toNat x286) * 1))]?).bind fun x287 =>
 if 0 ≤ x286 ∧ x286 < ((n : Nat) : Int) then
 if 1 = 1 ∧ (0 + ((Int.toNat x286) * 1)) < (n * 1) then
 Zd m m a2n a2c a2 (1 : Int) Z61 Z5a Z5r Z4r Z5f Z5s (n * 1) (ints (dps N n n)) (n * 1) (List.set (ifn (kiF N A) n) (0 + ((Int.toNat x286) * 1)) (D.v (.int .i64 (IntKind.wrap .i64 (x287 - (1 : Int)))))) (n * 1) (List.set (bfn (fun j => !A j) n) (0 + ((Int.toNat x285) * 1)) (D.v (.bool true))) Z4r Z5f Z5s ((d : Int)) n n n n n n
 else none
 else none
 else none
 else none)
 (Zd m m a2n a2c a2 (1 : Int) Z61 Z5a Z5r Z4r Z5f Z5s (n * 1) (ints (dps N n n)) (n * 1) (ifn (kiF N A) n) (n * 1) (List.set (bfn (fun j => !A j) n) (0 + ((Int.toNat x285) * 1)) (D.v (.bool true))) Z4r Z5f Z5s ((d : Int)) n n n n n n)
 else none
 else none
 else none))
 (Z23 m m a0_0n a0_0c a0_0 a1 a2n a2c a2 q25 0 n ((n : Nat) : Int) (0 : Int) Z61 Z5a Z5r Z4r Z5f Z5s (n * 1) (ints (dps N n n)) (ifn (kiF N A) n) (bfn (fun j => !A j) n) ((d : Int)) 0 [])
 else none
 else none
 else none) = r) : ∀ (c i : Nat), n - i < c → i ≤ n →
    Z1a m c a0_0n a0_0c a0_0 a1 a2n a2c a2 ((clI N A d i).length) (n : Int) (i : Int) Z61 Z5a Z5r Z4r Z5f Z5s (n * 1) (ints (dps N n n)) (ifn (kiF N A) n) (bfn (fun j => !A j) n) (d : Int) n ((clI N A d i).length * 1) (ints (clI N A d i)) = r
  | 0, i, hc, hi => by omega
  | c + 1, i, hc, hi => by
    have hcl := Zyv N A d i
    rw [Zgh]
    by_cases hlt : i < n
    · have ih := Z172 (m := m) (a0_0n := a0_0n) (a0_0c := a0_0c) (a0_0 := a0_0) (a1 := a1) (a2n := a2n) (a2c := a2c) (a2 := a2) (Z61 := Z61) (Z5a := Z5a) (Z5r := Z5r) (Z4r := Z4r) (Z5f := Z5f) (Z5s := Z5s) (N := N) (A := A) (d := d) hn hE c (i + 1) (by omega) (by omega)
      rw [Z18u, chl_eq] at ih
      simp only [Int.toNat_natCast, Nat.zero_add, Nat.mul_one]
      simp only [Nat.mul_one] at ih
      refine st_cT (decide_eq_true (by omega)) ?_
      refine st_if (by omega) ?_
      refine Z0 (Zlp hlt) ?_
      rw [Zu (by omega), Bool.not_not]
      cases ha : A i with
      | false =>
        refine st_cF rfl ?_
        rw [ha] at ih
        exact ih
      | true =>
        refine st_cT rfl ?_
        refine st_if (by omega) ?_
        refine Z0 (dps_at hlt hlt) ?_
        by_cases hd : dep N i < d
        · refine st_cT (decide_eq_true (by omega)) ?_
          refine st_if (by omega) ?_
          refine Z0 (Zeu hlt) ?_
          by_cases hk : kids N A i = 0
          · refine st_cT (i_eq (by unfold kiF; omega)) ?_
            refine st_if ⟨rfl, by first | rfl | trivial, by constructor <;> omega, by first | rfl | trivial⟩ ?_
            rw [ha, decide_eq_true hd, decide_eq_true hk, if_pos (by decide), List.length_append, List.length_singleton, Z7l, Zhg] at ih
            exact ih
          · refine st_cF (i_ne (by unfold kiF; omega)) ?_
            rw [decide_eq_false hk, Bool.and_false, Bool.and_false, if_neg (by decide)] at ih
            exact ih
        · refine st_cF (decide_eq_false (by omega)) ?_
          rw [decide_eq_false hd, Bool.false_and, Bool.and_false, if_neg (by decide)] at ih
          exact ih
    · obtain rfl : i = n := by omega
      refine st_cF (decide_eq_false (by omega)) ?_
      exact hE
end Go.Ev
/-
 Trees pruned by choices: what the rounds return.
-/
set_option linter.unusedSimpArgs false
set_option linter.unusedVariables false
set_option maxRecDepth 100000
namespace Go.Ev
open Go
def byD (l : List Cd) (r : (Nat → Bool) × Nat) : D := .tup [.agg [.list (leftC l r.1).length (some (leftC l r.1).length) (cdsC (leftC l r.1))], .v (.int .i64 (r.2 : Int)), .v (.int .i64 0)]
theorem Z1ko {m : Nat} {Za4 : Option Nat} {Zzw : Nat} {Z10q : Option Nat} {Z10r : List D} {Z10s : Nat} {Z10t : Option Nat} {Z10u : List D} {Zh2 Zh3 Zl0 : Nat} {l : List Cd} (h : CdsB l) (he : treeErr (nds l) = 0) (hm : l.length < m) {cs : List Int} (hcs : cs.length < 1000000000) {d : Nat} {cp : Option Nat} : ∀ (f k : Nat) (A : Nat → Bool), Live (nds l) d A → rk A l.length < f → k ≤ l.length →  k + rk A l.length ≤ l.length →
    Zd m f cs.length Za4 (ints cs) (k : Int) Zzw Z10q Z10r Z10s Z10t Z10u (l.length * 1) (ints (dps (nds l) l.length l.length)) (l.length * 1) (ifn (kiF (nds l) A) l.length) (l.length * 1) (bfn (fun j => !A j) l.length) l.length cp (cdsC l) (d : Int) l.length Zh2 l.length Zh3 l.length Zl0 = some (byD l (pby (nds l) d (chN cs) f A k))
  | 0, k, A, hA, hf, hk, hkr => by omega
  | f + 1, k, A, hA, hf, hk, hkr => by
    have hB := h.len
    have hs := Zfn h.ok he
    have rem : ∀ q : Nat, q < l.length → chl (nds l) A d q = true → (if 0 ≤ (q : Int) ∧ (q : Int) < (((l.length) : Nat) : Int) then
 if 1 = 1 ∧ (0 + ((Int.toNat (q : Int)) * 1)) < (l.length * 1) then
 cond (decide ((q : Int) > (0 : Int)))
 (if 0 ≤ (q : Int) ∧ (q : Int) < (((l.length) : Nat) : Int) then
 (rdI .i64 (cdsC l)[(((Int.toNat (q : Int)) * 20) + 0)]?).bind fun x99 =>
 if 0 ≤ x99 ∧ x99 < (((l.length) : Nat) : Int) then
 (rdI .i64 (ifn (kiF (nds l) A) l.length)[(0 + ((Int.toNat x99) * 1))]?).bind fun x100 =>
 if 0 ≤ x99 ∧ x99 < (((l.length) : Nat) : Int) then
 if 1 = 1 ∧ (0 + ((Int.toNat x99) * 1)) < (l.length * 1) then
 Zd m f (cs.length) Za4 (ints cs) (IntKind.wrap .i64 (((k : Int)) + (1 : Int))) Zzw Z10q Z10r Z10s Z10t Z10u (l.length * 1) (ints (dps (nds l) l.length l.length)) (l.length * 1) (List.set (ifn (kiF (nds l) A) l.length) (0 + ((Int.toNat x99) * 1)) (D.v (.int .i64 (IntKind.wrap .i64 (x100 - (1 : Int)))))) (l.length * 1) (List.set (bfn (fun j => !A j) l.length) (0 + ((Int.toNat (q : Int)) * 1)) (D.v (.bool true))) (l.length) cp (cdsC l) ((d : Int)) (l.length) Zh2 (l.length) Zh3 (l.length) Zl0
 else none
 else none
 else none
 else none)
 (Zd m f (cs.length) Za4 (ints cs) (IntKind.wrap .i64 (((k : Int)) + (1 : Int))) Zzw Z10q Z10r Z10s Z10t Z10u (l.length * 1) (ints (dps (nds l) l.length l.length)) (l.length * 1) (ifn (kiF (nds l) A) l.length) (l.length * 1) (List.set (bfn (fun j => !A j) l.length) (0 + ((Int.toNat (q : Int)) * 1)) (D.v (.bool true))) (l.length) cp (cdsC l) ((d : Int)) (l.length) Zh2 (l.length) Zh3 (l.length) Zl0)
 else none
 else none) = some (byD l (pby (nds l) d (chN cs) f (del A q) (k + 1))) := fun q hlt hc => by
      have hn : q < (nds l).length := by rw [Zy]; exact hlt
      have ha : A q = true := by unfold chl at hc; cases hq : A q with
        | true => rfl
        | false => rw [hq] at hc; cases hc
      have hrd := rk_del ha (n := l.length)
      rw [if_pos hlt] at hrd
      have ih := Z1ko (m := m) (Za4 := Za4) (Zzw := Zzw) (Z10q := Z10q) (Z10r := Z10r) (Z10s := Z10s) (Z10t := Z10t) (Z10u := Z10u) (Zh2 := Zh2) (Zh3 := Zh3) (Zl0 := Zl0) (cp := cp) h he hm hcs f (k + 1) (del A q) (hA.del hs hn hc) (by omega) (by omega) (by omega)
      simp only [Int.toNat_natCast, Nat.zero_add, Nat.mul_one]
      simp only [Nat.mul_one] at ih
      refine st_if (by omega) ?_
      refine st_if ⟨by first | rfl | trivial, by omega⟩ ?_
      rw [Z14b]
      rw [Zu (by omega)]
      by_cases h0 : 0 < q
      · refine st_cT (decide_eq_true (by omega)) ?_
        have hp := hs.par hn h0
        rw [Z6g hlt] at hp
        have hpt : l[q].n.par.toNat = parN (nds l) q := by omega
        have hko := Z14c h0 hlt ha
        have hkl := Z1b8 (N := nds l) (A := A) (parN (nds l) q)
        rw [Zy] at hkl
        refine st_if (by omega) ?_
        refine Z0 (Z6l h.ok hlt) ?_
        refine st_if (by omega) ?_
        rw [hpt]
        refine Z0 (Zeu (by omega)) ?_
        refine st_if (by omega) ?_
        refine st_if ⟨by first | rfl | trivial, by omega⟩ ?_
        rw [Z77 (by unfold kiF; omega) (by unfold kiF; omega), ki_set h0 hlt ha]
        exact ih
      · refine st_cF (decide_eq_false (by omega)) ?_
        obtain rfl : q = 0 := by omega
        rw [← Z1g0] at ih
        exact ih

    rw [Zsz]
    have hcn : clI (nds l) A d l.length = (clist (nds l) A d).map fun j : Nat => (j : Int) := by rw [← Zy]; rfl
    have hcnl : (clI (nds l) A d l.length).length = (clist (nds l) A d).length := by rw [hcn, List.length_map]
    have hcle := Zyv (nds l) A d l.length
    have hil := Zb5 (clI (nds l) A d l.length)
    refine Z10x (n := l.length) (N := nds l) (A := A) (d := d) hB ?_ m 0 (by omega) (by omega)
    refine st_if (by omega) ?_
    rw [Z5k (by omega)]
    refine Z0 (Z14a (by omega) none) ?_
    refine Z0 (rdL_v _ _ _) ?_
    refine st_if (by omega) ?_
    refine st_if (by omega) ?_
    dsimp only
    by_cases h0 : (clist (nds l) A d).length = 0
    · rw [Z1j2 (List.length_eq_zero_iff.1 h0)]
      refine st_cF (decide_eq_false (by omega)) ?_
      have hgl := Z126 A l.length
      have hgil := Zb5 (goI A l.length)
      refine Zqv (n := l.length) (A := A) hB ?_ m 0 (by omega) (by omega)
      refine st_if (by omega) ?_
      rw [Z5k (by omega)]
      refine Z0 (Zzj h he hA.up cp) ?_
      refine Z0 rfl ?_
      refine st_if rfl ?_
      refine Z0 (Z9p _) ?_
      refine Z0 (rdI_v _ _) ?_
      refine st_if (by omega) ?_
      refine st_if (by omega) ?_
      refine st_if rfl ?_
      refine st_if rfl ?_
      refine st_if rfl ?_
      rfl
    · rw [Z1f6 (fun q => h0 (by rw [q]; rfl))]
      have hpos : 0 < (clist (nds l) A d).length := by omega
      have hq := chN_lt cs k hpos
      have hqi := chI_lt cs k hpos
      have hqN : chI cs k (clist (nds l) A d).length = (chN cs k (clist (nds l) A d).length : Int) := by unfold chN; omega
      have hm := Ztx.1 (Zzd (d := 0) hq)
      have hrem := rem _ (by rw [Zy] at hm; exact hm.1) hm.2
      have get : ∀ u : Int, u = chI cs k (clist (nds l) A d).length → rdI .i64 (ints (clI (nds l) A d l.length))[u.toNat * 1]? = some (((clist (nds l) A d).getD (chN cs k (clist (nds l) A d).length) 0 : Nat) : Int) := fun u hu => by
        rw [hu, hqN, Int.toNat_natCast, Nat.mul_one, Zk5 (by omega), hcn]
        congr 1
        simp [hq]
      rw [hcnl]
      refine st_cT (decide_eq_true (by omega)) ?_
      by_cases hkc : k < cs.length
      · have hmod := Z1jg (cs.getD k 0) hpos
        refine st_cT (decide_eq_true (by omega)) ?_
        refine st_if (by omega) ?_
        
        refine Z0 ((by rw [Int.toNat_natCast, Nat.mul_one]; exact Zk5 hkc)) ?_
        refine st_ifn (by omega) ?_
        have hce : chI cs k (clist (nds l) A d).length = if Int.tmod (cs.getD k 0) ((clist (nds l) A d).length : Int) < 0 then Int.tmod (cs.getD k 0) ((clist (nds l) A d).length : Int) + ((clist (nds l) A d).length : Int) else Int.tmod (cs.getD k 0) ((clist (nds l) A d).length : Int) := by
          unfold chI
          rw [if_pos hkc]
        by_cases hneg : Int.tmod (cs.getD k 0) ((clist (nds l) A d).length : Int) < 0
        · rw [if_pos hneg] at hce
          refine st_cT (decide_eq_true hneg) ?_
          rw [Z77 (by omega) (by omega)]
          refine st_if (by omega) ?_
          refine Z0 (get _ hce.symm) ?_
          exact hrem
        · rw [if_neg hneg] at hce
          refine st_cF (decide_eq_false hneg) ?_
          refine st_if (by omega) ?_
          refine Z0 (get _ hce.symm) ?_
          exact hrem
      · have hce : chI cs k (clist (nds l) A d).length = 0 := by
          unfold chI
          rw [if_neg hkc]; rfl
        refine st_cF (decide_eq_false (by omega)) ?_
        refine st_if (by omega) ?_
        refine Z0 (get 0 hce.symm) ?_
        exact hrem

theorem Z1p2 {m : Nat} {a2c : Option Nat} {l : List Cd} (h : CdsB l) (he : treeErr (nds l) = 0) (hm : l.length + 1 < m) {cs : List Int} (hcs : cs.length < 1000000000) {d : Nat} {cp : Option Nat} {A : Nat → Bool} (hA : Live (nds l) d A) :
    Z1a m m l.length cp (cdsC l) (d : Int) cs.length a2c (ints cs) 0 (l.length : Int) (0 : Int) l.length cp (cdsC l) l.length cp (cdsC l) (l.length * 1) (ints (dps (nds l) l.length l.length)) (ifn (kiF (nds l) A) l.length) (bfn (fun j => !A j) l.length) (d : Int) l.length 0 [] = some (byD l (pby (nds l) d (chN cs) (m + 1) A 0)) := by
    have hB := h.len
    have hs := Zfn h.ok he
    have hrkl := rk_le A l.length
    have rem : ∀ q : Nat, q < l.length → chl (nds l) A d q = true → (if 0 ≤ (q : Int) ∧ (q : Int) < (((l.length) : Nat) : Int) then
 if 1 = 1 ∧ (0 + ((Int.toNat (q : Int)) * 1)) < (l.length * 1) then
 cond (decide ((q : Int) > (0 : Int)))
 (if 0 ≤ (q : Int) ∧ (q : Int) < (((l.length) : Nat) : Int) then
 (rdI .i64 (cdsC l)[(((Int.toNat (q : Int)) * 20) + 0)]?).bind fun x28 =>
 if 0 ≤ x28 ∧ x28 < (((l.length) : Nat) : Int) then
 (rdI .i64 (ifn (kiF (nds l) A) l.length)[(0 + ((Int.toNat x28) * 1))]?).bind fun x29 =>
 if 0 ≤ x28 ∧ x28 < (((l.length) : Nat) : Int) then
 if 1 = 1 ∧ (0 + ((Int.toNat x28) * 1)) < (l.length * 1) then
 Zd m m cs.length a2c (ints cs) (1 : Int) (l.length) cp (cdsC l) (l.length) cp (cdsC l) (l.length * 1) (ints (dps (nds l) l.length l.length)) (l.length * 1) (List.set (ifn (kiF (nds l) A) l.length) (0 + ((Int.toNat x28) * 1)) (D.v (.int .i64 (IntKind.wrap .i64 (x29 - (1 : Int)))))) (l.length * 1) (List.set (bfn (fun j => !A j) l.length) (0 + ((Int.toNat (q : Int)) * 1)) (D.v (.bool true))) (l.length) cp (cdsC l) ((d : Int)) (l.length) (l.length) (l.length) (l.length) (l.length) (l.length)
 else none
 else none
 else none
 else none)
 (Zd m m cs.length a2c (ints cs) (1 : Int) (l.length) cp (cdsC l) (l.length) cp (cdsC l) (l.length * 1) (ints (dps (nds l) l.length l.length)) (l.length * 1) (ifn (kiF (nds l) A) l.length) (l.length * 1) (List.set (bfn (fun j => !A j) l.length) (0 + ((Int.toNat (q : Int)) * 1)) (D.v (.bool true))) (l.length) cp (cdsC l) ((d : Int)) (l.length) (l.length) (l.length) (l.length) (l.length) (l.length))
 else none
 else none) = some (byD l (pby (nds l) d (chN cs) m (del A q) (0 + 1))) := fun q hlt hc => by
      have hn : q < (nds l).length := by rw [Zy]; exact hlt
      have ha : A q = true := by unfold chl at hc; cases hq : A q with
        | true => rfl
        | false => rw [hq] at hc; cases hc
      have hrd := rk_del ha (n := l.length)
      rw [if_pos hlt] at hrd
      have ih := Z1ko (m := m) (Za4 := a2c) (Zzw := l.length) (Z10q := cp) (Z10r := cdsC l) (Z10s := l.length) (Z10t := cp) (Z10u := cdsC l) (Zh2 := l.length) (Zh3 := l.length) (Zl0 := l.length) (cp := cp) h he (by omega) hcs m (0 + 1) (del A q) (hA.del hs hn hc) (by omega) (by omega) (by omega)
      simp only [Int.toNat_natCast, Nat.zero_add, Nat.mul_one]
      simp only [Nat.mul_one] at ih
      refine st_if (by omega) ?_
      refine st_if ⟨by first | rfl | trivial, by omega⟩ ?_
      rw [Z14b]
      by_cases h0 : 0 < q
      · refine st_cT (decide_eq_true (by omega)) ?_
        have hp := hs.par hn h0
        rw [Z6g hlt] at hp
        have hpt : l[q].n.par.toNat = parN (nds l) q := by omega
        have hko := Z14c h0 hlt ha
        have hkl := Z1b8 (N := nds l) (A := A) (parN (nds l) q)
        rw [Zy] at hkl
        refine st_if (by omega) ?_
        refine Z0 (Z6l h.ok hlt) ?_
        refine st_if (by omega) ?_
        rw [hpt]
        refine Z0 (Zeu (by omega)) ?_
        refine st_if (by omega) ?_
        refine st_if ⟨by first | rfl | trivial, by omega⟩ ?_
        rw [Z77 (by unfold kiF; omega) (by unfold kiF; omega), ki_set h0 hlt ha]
        exact ih
      · refine st_cF (decide_eq_false (by omega)) ?_
        obtain rfl : q = 0 := by omega
        rw [← Z1g0] at ih
        exact ih

    have hcn : clI (nds l) A d l.length = (clist (nds l) A d).map fun j : Nat => (j : Int) := by rw [← Zy]; rfl
    have hcnl : (clI (nds l) A d l.length).length = (clist (nds l) A d).length := by rw [hcn, List.length_map]
    have hcle := Zyv (nds l) A d l.length
    have hil := Zb5 (clI (nds l) A d l.length)
    refine Z172 (n := l.length) (N := nds l) (A := A) (d := d) hB ?_ m 0 (by omega) (by omega)
    refine st_if (by omega) ?_
    rw [Z5k (by omega)]
    refine Z0 (Z14a (by omega) none) ?_
    refine Z0 (rdL_v _ _ _) ?_
    refine st_if (by omega) ?_
    refine st_if (by omega) ?_
    dsimp only
    by_cases h0 : (clist (nds l) A d).length = 0
    · rw [Z1j2 (List.length_eq_zero_iff.1 h0)]
      refine st_cF (decide_eq_false (by omega)) ?_
      have hgl := Z126 A l.length
      have hgil := Zb5 (goI A l.length)
      refine Znq (n := l.length) (A := A) hB ?_ m 0 (by omega) (by omega)
      refine st_if (by omega) ?_
      rw [Z5k (by omega)]
      refine Z0 (Zzj h he hA.up cp) ?_
      refine Z0 rfl ?_
      refine st_if rfl ?_
      refine Z0 (Z9p _) ?_
      refine Z0 (rdI_v _ _) ?_
      refine st_if (by omega) ?_
      refine st_if (by omega) ?_
      refine st_if rfl ?_
      refine st_if rfl ?_
      refine st_if rfl ?_
      rfl
    · rw [Z1f6 (fun q => h0 (by rw [q]; rfl))]
      have hpos : 0 < (clist (nds l) A d).length := by omega
      have hq := chN_lt cs 0 hpos
      have hqi := chI_lt cs 0 hpos
      have hqN : chI cs 0 (clist (nds l) A d).length = (chN cs 0 (clist (nds l) A d).length : Int) := by unfold chN; omega
      have hm := Ztx.1 (Zzd (d := 0) hq)
      have hrem := rem _ (by rw [Zy] at hm; exact hm.1) hm.2
      have get : ∀ u : Int, u = chI cs 0 (clist (nds l) A d).length → rdI .i64 (ints (clI (nds l) A d l.length))[u.toNat * 1]? = some (((clist (nds l) A d).getD (chN cs 0 (clist (nds l) A d).length) 0 : Nat) : Int) := fun u hu => by
        rw [hu, hqN, Int.toNat_natCast, Nat.mul_one, Zk5 (by omega), hcn]
        congr 1
        simp [hq]
      rw [hcnl]
      refine st_cT (decide_eq_true (by omega)) ?_
      by_cases hkc : 0 < cs.length
      · have hmod := Z1jg (cs.getD 0 0) hpos
        refine st_cT (decide_eq_true (by omega)) ?_
        refine st_if (by omega) ?_
        
        refine Z0 (Zk5 hkc) ?_
        refine st_ifn (by omega) ?_
        have hce : chI cs 0 (clist (nds l) A d).length = if Int.tmod (cs.getD 0 0) ((clist (nds l) A d).length : Int) < 0 then Int.tmod (cs.getD 0 0) ((clist (nds l) A d).length : Int) + ((clist (nds l) A d).length : Int) else Int.tmod (cs.getD 0 0) ((clist (nds l) A d).length : Int) := by
          unfold chI
          rw [if_pos hkc]
        by_cases hneg : Int.tmod (cs.getD 0 0) ((clist (nds l) A d).length : Int) < 0
        · rw [if_pos hneg] at hce
          refine st_cT (decide_eq_true hneg) ?_
          rw [Z77 (by omega) (by omega)]
          refine st_if (by omega) ?_
          refine Z0 (get _ hce.symm) ?_
          exact hrem
        · rw [if_neg hneg] at hce
          refine st_cF (decide_eq_false hneg) ?_
          refine st_if (by omega) ?_
          refine Z0 (get _ hce.symm) ?_
          exact hrem
      · have hce : chI cs 0 (clist (nds l) A d).length = 0 := by
          unfold chI
          rw [if_neg hkc]; rfl
        refine st_cF (decide_eq_false (by omega)) ?_
        refine st_if (by omega) ?_
        refine Z0 (get 0 hce.symm) ?_
        exact hrem

end Go.Ev
/-
 Trees pruned by choices.
-/
set_option linter.unusedSimpArgs false
set_option linter.unusedVariables false
set_option maxRecDepth 100000
namespace Go.Ev
open Go
theorem Z12d {l : List Cd} (h : CdsB l) (cp : Option Nat) (d : Int) {cs : List Int} (hcs : cs.length < 1000000000) (ac : Option Nat) : Zw [.agg [.list l.length cp (cdsC l)], .v (.int .i64 d), .list cs.length ac (ints cs)] =
  some (if planE (nds l) d ≠ 0 then .tup [noT, .v (.int .i64 0), .v (.int .i64 (planE (nds l) d))] else byD l (pby (nds l) d.toNat (chN cs) (M + 1) tt 0)) := by
 show Zhf M l.length cp (cdsC l) d cs.length ac (ints cs) = _
 unfold Zhf
 have hB := h.len
 refine Z0 (Zpr h cp) ?_
 refine Z0 (rdI_v _ _) ?_
 by_cases he : treeErr (nds l) = 0
 ·refine st_cF (i_bnf he) ?_
  by_cases h1 : d < 0
  ·refine st_cT (decide_eq_true h1) ?_
   rw [Za5 he (.inl h1), if_pos (by decide)]; rfl
  ·refine st_cF (decide_eq_false h1) ?_
   by_cases h2 : 64 < d
   ·refine st_cT (decide_eq_true h2) ?_
    rw [Za5 he (.inr h2), if_pos (by decide)]; rfl
   ·refine st_cF (decide_eq_false h2) ?_
    rw [Zpj he (by omega), if_neg (by decide)]
    have hs : Shape (nds l) := Zfn h.ok he
    rw [Ziu]
    simp only [Int.toNat_natCast]
    refine st_if ⟨by omega, by omega, by constructor <;> omega⟩ ?_
    refine st_if ⟨by omega, by omega, by constructor <;> omega⟩ ?_
    refine st_if ⟨by omega, by omega, by constructor <;> omega⟩ ?_
    have e1 : (List.replicate l.length [D.v (.int .i64 0)]).flatten = ints (dps (nds l) 0 l.length) := by rw [Zzf, Zzh]
    have e2 : (List.replicate l.length [D.v (.int .i64 0)]).flatten = ifn (ckF (nds l) 0) l.length := by rw [Z165]; exact Za2 fun j _ => rfl
    rw [Z1b7]
    obtain ⟨k, rfl⟩ : ∃ k : Nat, d = (k : Int) := ⟨d.toNat, by omega⟩
    rw [Int.toNat_natCast]
    have fin := Z1p2 (m := M) (a2c := ac) (cp := cp) h he (by unfold M; omega) hcs (Live.all (nds l) k)
    have st := Zoo (m := M) (a0_0n := l.length) (a0_0c := cp) (a0_0 := cdsC l) (a1 := (k : Int)) (a2n := cs.length) (a2c := ac) (a2 := ints cs) (Z5u := bfn (fun i => !tt i) l.length) (Z6o := (k : Int)) (cp := cp) (r := some (byD l (pby (nds l) k (chN cs) (M + 1) tt 0))) h hs (by rw [ck_ki]; exact fin) M 0 (by unfold M; omega) (by omega)
    rw [← e1, ← e2] at st
    exact st
 ·refine st_cT (i_bne he) ?_
  refine st_cT (i_bne he) ?_
  rw [Zu1 he, if_pos he]; rfl
end Go.Ev