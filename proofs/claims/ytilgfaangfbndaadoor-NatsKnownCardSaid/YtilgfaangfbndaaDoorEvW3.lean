/-
  The law NatsDivide in plain form: true of any number and any divisor.
-/
import Derived.Test.YtilgfaangfbndaaDoorEvW2
set_option linter.unusedSimpArgs false
set_option linter.unusedVariables false
set_option maxRecDepth 100000
namespace Go.Ev
open Go
/-- Two equal strings of bytes. -/
theorem str_self (l : List Nat) : (ByteArray.toList (ByteArray.mk (List.toArray (l.map fun x => UInt8.ofNat x))) == ByteArray.toList (ByteArray.mk (List.toArray (l.map fun x => UInt8.ofNat x)))) = true := by simp
theorem eqs {R : Type} {n k : Nat} {l : List Nat} (hn : n = l.length) (hk : k = l.length) (T F : Option R) :
    (if List.length (nb l) = n then (bytesOf (nb l)).bind fun a => if List.length (nb l) = k then (bytesOf (nb l)).bind fun b => cond (ByteArray.toList (ByteArray.mk (List.toArray a)) == ByteArray.toList (ByteArray.mk (List.toArray b))) T F else none else none) = T := by
  subst hn hk
  rw [if_pos (nb_length l), bytesOf_nb, Option.bind_some, if_pos (nb_length l), Option.bind_some, str_self, cond_true]
theorem eqs' {R : Type} {n k : Nat} {l : List Nat} (hn : n = l.length) (hk : k = l.length) (T F : Option R) :
    (if List.length (nb l) = n then (bytesOf (nb l)).bind fun a => if List.length (nb l) = k then (bytesOf (nb l)).bind fun b => cond (!(ByteArray.toList (ByteArray.mk (List.toArray a)) == ByteArray.toList (ByteArray.mk (List.toArray b)))) F T else none else none) = T := by
  subst hn hk
  rw [if_pos (nb_length l), bytesOf_nb, Option.bind_some, if_pos (nb_length l), Option.bind_some, str_self, Bool.not_true, cond_false]

/-- NatsDivide. -/
theorem divide_true (l : List Nat) (hl : isBy l) (c : Option Nat) (k : Nat) (hk : k ≤ 4294967295) : sp11 [.agg [.list l.length c (nb l)], .v (.int .u32 (k : Int))] = some (.v (.bool true)) := by
  obtain ⟨c1, h1⟩ := sp39_eq l _ rfl c
  have ha := isN_ofN hl
  revert h1 ha
  generalize ofN l = a
  intro h1 ha
  have la := ha.lt
  have hal := ha.len
  have da := dig10_len (n := valBE a) (k := 64) la
  have h2 := sp56_eq a _ rfl c1 ha k hk
  simp only [sp11]
  unfold F11
  refine (stepL h1).trans ?_; try dsimp only
  by_cases h0 : k = 0
  · subst h0
    rw [if_pos rfl] at h2
    refine (stepT3 h2).trans ?_; try dsimp only
    rw [show (((0 : Nat) : Int) == 0) = true from rfl, cond_true]
    refine (stepB (sp47_err 1 (by omega) 0 (some 0) [])).trans ?_; try dsimp only
    rw [cond_true, show ((0 : Int) == 0) = true from rfl, cond_true]
    exact fin_true
  · rw [if_neg h0] at h2
    have hq : valBE a / k < lim := Nat.lt_of_le_of_lt (Nat.div_le_self _ _) la
    have hr : valBE a % k < k := Nat.mod_lt _ (by omega)
    obtain ⟨c3, h3⟩ := sp45_eq a c1 _ rfl ha.by_ (by omega)
    obtain ⟨c4, h4⟩ := sp57_eq (dig 10 (valBE a)) c3 _ rfl (dig10_dig _) (by omega) k (by omega) (by omega)
    rw [val_dig (by omega)] at h4
    have w1 : IntKind.wrap .i64 (k : Int) = (k : Int) := wrap_nat (by omega)
    have w2 : IntKind.wrap .i64 ((valBE a % k : Nat) : Int) = ((valBE a % k : Nat) : Int) := wrap_nat (by omega)
    have w3 : IntKind.wrap .u64 (k : Int) = (k : Int) := by rw [wrap_u64]; omega
    have w4 : IntKind.wrap .u64 ((valBE a % k : Nat) : Int) = ((valBE a % k : Nat) : Int) := by
      rw [wrap_u64]; exact (show ∀ q : Nat, q < k → ((q : Nat) : Int) % 18446744073709551616 = (q : Int) from fun q hq => by omega) _ hr
    refine (stepT3 h2).trans ?_; try dsimp only
    rw [show ((k : Int) == 0) = false by simp <;> omega, cond_false]
    refine (stepL h3).trans ?_; try dsimp only
    rw [w1]
    refine (stepT h4).trans ?_; try dsimp only
    refine (stepB (sp47_ok _ hq _ _ rfl rfl c4)).trans ?_; try dsimp only
    rw [Bool.not_true, cond_false, w2, show (((valBE a % k : Nat) : Int) != ((valBE a % k : Nat) : Int)) = false by simp, cond_false, decide_eq_false (by omega), cond_false, F11_11_j8_e, w3]
    have hk2 : k < lim := Nat.lt_of_lt_of_le (show k < 256 ^ 4 by omega) (by unfold lim; exact Nat.pow_le_pow_right (by omega) (by omega))
    have hprod : valBE a / k * k < lim := Nat.lt_of_le_of_lt (Nat.div_mul_le_self _ _) la
    have h5 := sp58_eq k (by omega)
    have h6 := sp55_eq (byt (valBE a / k)) (byt k) _ _ rfl rfl (some (byt (valBE a / k)).length) (some (byt k).length) (isN_byt hq) (isN_byt hk2)
    rw [valBE_byt, valBE_byt, numR_ok hprod] at h6
    have h7 := sp58_eq (valBE a % k) (by omega)
    have hr2 : valBE a % k < lim := by omega
    have h8 := sp46_eq (byt (valBE a / k * k)) (byt (valBE a % k)) _ _ rfl rfl (some (byt (valBE a / k * k)).length) (some (byt (valBE a % k)).length) (isN_byt hprod) (isN_byt hr2)
    rw [valBE_byt, valBE_byt, Nat.mul_comm, Nat.div_add_mod, numR_ok la, ha.eq] at h8
    rw [Nat.mul_comm] at h6
    refine (stepL h5).trans ?_; try dsimp only
    refine (stepT h6).trans ?_; try dsimp only
    rw [w4]
    refine (stepL h7).trans ?_; try dsimp only
    refine (stepT h8).trans ?_; try dsimp only
    rw [show ((0 : Int) == 0) = true from rfl, cond_true, cond_true]
    refine (eqs rfl rfl _ _).trans ?_
    exact fin_true
end Go.Ev
