/-
  Integers as content octets: the program's and the reference's, in plain Lean.
-/
import Derived.Test.YtilgfaangfbndaaDoorEvG3
import Derived.Test.YtilgfaangfbndaaDoorEvL
set_option linter.unusedSimpArgs false
set_option linter.unusedVariables false
set_option maxRecDepth 100000
namespace Go.Ev
open Go

/-- A first byte too many. -/
def sup : List Int → Bool
  | a :: b :: _ => if a = 0 then (if b < 128 then true else false) else if a = 255 then decide (b ≥ 128) else false
  | _ => false
def strip : List Int → List Int
  | [] => []
  | a :: r => if sup (a :: r) then strip r else a :: r

theorem sp71_eq (l : List Int) (c : Option Nat) (n : Nat) (hn : n = l.length) : sp71 [.list n c (ib l)] = some (.v (.bool (sup l))) := by
  subst hn
  match l with
  | [] => rfl
  | [a] => simp [sp71, F71, sup]
  | a :: b :: r =>
    simp only [sp71, F71, rdI_ib, sup]
    have h1 : ((((a :: b :: r).length : Nat) : Int) > 1) := by simp; omega
    have h0 : (0 : Int) ≤ 0 ∧ (0 : Int) < (((a :: b :: r).length : Nat) : Int) := by simp; omega
    have h2 : (0 : Int) ≤ 1 ∧ (1 : Int) < (((a :: b :: r).length : Nat) : Int) := by simp; omega
    simp only [h1, h0, h2, decide_true, cond_true, if_true, List.getElem?_cons_zero, List.getElem?_cons_succ, Option.bind_some]
    by_cases ha : a = 0
    · subst ha
      by_cases hb : b < 128
      · simp [hb]
      · simp [hb]
    · by_cases ha2 : a = 255
      · subst ha2; simp
      · have e1 : (a == 0) = false := by simp [ha]
        have e2 : (a == 255) = false := by simp [ha2]
        simp [ha, ha2, e1, e2]

/-- The eight bytes. -/
def byte (k : Nat) (x : Int) : Int := x / 256 ^ k % 256
def bytes8 (x : Int) : List Int := [byte 7 x, byte 6 x, byte 5 x, byte 4 x, byte 3 x, byte 2 x, byte 1 x, byte 0 x]

theorem loop18 (m n : Nat) (x : Int) : F18_18_3 m (n + 9) x 0 (ib [0, 0, 0, 0, 0, 0, 0, 0]) = F18_18_8 m m 0 8 8 (ib (bytes8 x)) := by
  simp [F18_18_3_s, wrap_i64_eq, Int.fdiv_eq_ediv_of_nonneg, wrap_u8, List.set, IntKind.bits, ib, bytes8, byte]

theorem strip_length : ∀ l : List Int, (strip l).length ≤ l.length
  | [] => Nat.le_refl _
  | a :: r => by
    simp only [strip]
    split
    · have := strip_length r; simp; omega
    · exact Nat.le_refl _

theorem sup_len {l : List Int} (h : sup l = true) : 2 ≤ l.length := by
  match l with
  | [] => cases h
  | [a] => cases h
  | a :: b :: r => simp

theorem strip_loop (m : Nat) (cs : List Int) (h8 : cs.length = 8) : ∀ (n off : Nat), 8 - off < n → off < 8 →
    F18_18_8 m n off (8 - off) (8 - off) (ib cs) = some (.list (strip (cs.drop off)).length (some (strip (cs.drop off)).length) (ib (strip (cs.drop off))))
  | 0, off, h, _ => by omega
  | n + 1, off, h, hoff => by
    rw [F18_18_8_s]
    have e1 : off + (8 - off) * 1 ≤ 8 := by omega
    have e2 : cutL 8 (ib cs) off ((8 - off) * 1) = ib (cs.drop off) := by
      rw [cutL_eq (by simp [h8]), ib_drop, List.take_of_length_le (by simp; omega)]
    rw [if_pos e1, e2, sp71_eq (cs.drop off) (some (8 - off)) (8 - off) (by simp; omega)]
    obtain ⟨a, r, hr⟩ : ∃ a r, cs.drop off = a :: r := by
      cases hd : cs.drop off with
      | nil => have := congrArg List.length hd; simp at this; omega
      | cons a r => exact ⟨a, r, rfl⟩
    have hr' : cs.drop (off + 1) = r := by rw [← List.drop_drop, hr]; rfl
    simp only [Option.bind_some, rdB]
    cases hs : sup (cs.drop off) with
    | true =>
      have hl := sup_len hs
      have hl2 : (cs.drop off).length = 8 - off := by simp; omega
      have e3 : (0 : Int) ≤ 1 ∧ (1 : Int) ≤ ((8 - off : Nat) : Int) := by omega
      simp only [cond_true]
      rw [if_pos e3, show 8 - off - 1 = 8 - (off + 1) by omega, strip_loop m cs h8 n (off + 1) (by omega) (by omega), hr']
      have : strip (cs.drop off) = strip r := by rw [hr, strip, ← hr, hs]; simp
      rw [this]
    | false =>
      have hst : strip (cs.drop off) = cs.drop off := by rw [hr, strip, ← hr, hs]; simp [hr]
      rw [hst]
      have hl2 : (cs.drop off).length = 8 - off := by simp; omega
      have hz : (((8 - off : Nat) : Int)).toNat = 8 - off := by omega
      simp only [cond_false, hz, Nat.sub_zero, Nat.add_zero, e2, hl2]
      rw [if_pos (by omega), if_pos (by omega), if_pos e1]

/-- scalars.PutInt. -/
def putI (x : Int) : List Int := strip (bytes8 x)
theorem sp18_eq (x : Int) : sp18 [.v (.int .i64 x)] = some (.list (putI x).length (some (putI x).length) (ib (putI x))) := by
  simp only [sp18, F18]
  have := loop18 M 18446744073709551607 x
  simp only [ib_cons, ib_nil] at this
  rw [show (M : Nat) = 18446744073709551607 + 9 from rfl] at this ⊢
  rw [this]
  have := strip_loop (18446744073709551607 + 9) (bytes8 x) rfl (18446744073709551607 + 9) 0 (by omega) (by omega)
  simpa [putI] using this

/-- The reference's loop. -/
def doneI (y a : Int) : Bool := (y == 0 && decide (a < 128)) || (y == -1 && decide (a > 127))
def refI : Nat → List Int → Int → List Int
  | 0, l, _ => l
  | n + 1, l, x => if doneI (x / 256) (x % 256) then x % 256 :: l else refI n (x % 256 :: l) (x / 256)

theorem ref_step (m n : Nat) (cap : Option Nat) (l : List Int) (x : Int) (h1 : -9223372036854775808 ≤ x) (h2 : x < 9223372036854775808) (hl : l.length ≤ 100) (hcap : l = [] → cap = some 0) :
    ∃ c, F19_19_3 m (n + 1) l.length cap (ib l) x = if doneI (x / 256) (x % 256) then some (.list (l.length + 1) c (ib (x % 256 :: l))) else F19_19_3 m n (l.length + 1) c (ib (x % 256 :: l)) (x / 256) := by
  rw [F19_19_3_s]
  have hw : IntKind.wrap .u8 (IntKind.wrap .i64 (((BitVec.ofInt (IntKind.bits .i64) x &&& BitVec.ofInt (IntKind.bits .i64) (255 : Int)).toNat : Nat) : Int)) = x % 256 := by
    rw [show IntKind.bits .i64 = 64 from rfl, and_255 x h1 h2, wrap_u8]; omega
  have hf : Int.fdiv x (2 ^ 8) = x / 256 := by rw [Int.fdiv_eq_ediv_of_nonneg _ (by decide)]; rfl
  simp only [hw, hf, doneI]
  have ha0 : 0 ≤ x % 256 ∧ x % 256 < 256 := by omega
  cases l with
  | nil =>
    refine ⟨some 1, ?_⟩
    simp [cutL, rdI]
    by_cases hy0 : x / 256 = 0
    · by_cases ha : x % 256 < 128 <;> simp [hy0, ha]
    · by_cases hy1 : x / 256 = -1
      · by_cases ha : (127 : Int) < x % 256 <;> simp [hy1, ha]
      · have e0 : (x / 256 == 0) = false := by simp [hy0]
        have e1 : (x / 256 == -1) = false := by simp [hy1]
        simp [e0, e1, hy0, hy1]
  | cons b r =>
    refine ⟨none, ?_⟩
    have hlen : ¬ (1 + (b :: r).length ≤ 1) := by simp
    have hfit : fitsRow (1 + (b :: r).length) 1 := ⟨by simp at hl ⊢; omega, by simp at hl ⊢; omega⟩
    have hcut : cutL ((1 + (b :: r).length) * 1) ([D.v (.int .u8 (x % 256))] ++ ib (b :: r)) 0 ((1 + (b :: r).length) * 1) = ib (x % 256 :: b :: r) := by
      rw [cutL_eq (by simp; omega), List.drop_zero, List.take_of_length_le (by simp; omega)]; rfl
    have hcomm : 1 + (b :: r).length = (b :: r).length + 1 := by omega
    have hpos : (0 : Int) ≤ 0 ∧ (0 : Int) < ((1 + (b :: r).length : Nat) : Int) := by simp; omega
    rw [if_pos (by simp), if_neg hlen, if_pos ⟨hfit, by simp⟩]
    simp only [hcut, if_pos hpos, if_pos (show 0 + (1 + (b :: r).length) * 1 ≤ (1 + (b :: r).length) * 1 by omega)]
    rw [hcomm]
    simp only [List.cons_append, List.nil_append, List.getElem?_cons_zero, rdI, if_true, Option.bind_some]
    by_cases hy0 : x / 256 = 0
    · by_cases ha : x % 256 < 128 <;> simp [hy0, ha]
    · by_cases hy1 : x / 256 = -1
      · by_cases ha : (127 : Int) < x % 256 <;> simp [hy1, ha]
      · have e0 : (x / 256 == 0) = false := by simp [hy0]
        have e1 : (x / 256 == -1) = false := by simp [hy1]
        simp [e0, e1, hy0, hy1]

theorem ref_loop (m : Nat) : ∀ (k n : Nat) (cap : Option Nat) (l : List Int) (x : Int), k ≤ n → -(128 * 256 ^ k) ≤ x → x < 128 * 256 ^ k → k < 8 → l.length + k ≤ 50 → (l = [] → cap = some 0) →
    ∃ c, F19_19_3 m (n + 1) l.length cap (ib l) x = some (.list (refI (k + 1) l x).length c (ib (refI (k + 1) l x)))
  | 0, n, cap, l, x, hn, h1, h2, _, hl, hc => by
    obtain ⟨c, hs⟩ := ref_step m n cap l x (by omega) (by omega) (by omega) hc
    have hd : doneI (x / 256) (x % 256) = true := by
      simp at h1 h2
      unfold doneI
      by_cases h0 : 0 ≤ x
      · have e1 : x / 256 = 0 := by omega
        have e2 : x % 256 < 128 := by omega
        simp [e1, e2]
      · have e1 : x / 256 = -1 := by omega
        have e2 : (127 : Int) < x % 256 := by omega
        simp [e1, e2]
    refine ⟨c, ?_⟩
    rw [hs, if_pos hd]
    simp [refI, hd]
  | k + 1, n, cap, l, x, hn, h1, h2, hk, hl, hc => by
    have hp : (256 : Int) ^ (k + 1) = 256 ^ k * 256 := Int.pow_succ _ _
    have hb : (256 : Int) ^ k ≤ 281474976710656 := (by decide : ∀ k : Nat, k < 7 → (256 : Int) ^ k ≤ 281474976710656) k (by omega)
    obtain ⟨c, hs⟩ := ref_step m n cap l x (by omega) (by omega) (by omega) hc
    cases hd : doneI (x / 256) (x % 256) with
    | true => exact ⟨c, by rw [hs, hd]; simp [refI, hd]⟩
    | false =>
      obtain ⟨n', rfl⟩ : ∃ n', n = n' + 1 := ⟨n - 1, by omega⟩
      obtain ⟨c', hs'⟩ := ref_loop m k n' c (x % 256 :: l) (x / 256) (by omega) (by omega) (by omega) (by omega) (by simp; omega) (by simp)
      refine ⟨c', ?_⟩
      rw [hs, hd]
      simp only [Bool.false_eq_true, if_false]
      rw [show l.length + 1 = (x % 256 :: l).length from rfl, hs']
      have : refI (k + 1 + 1) l x = refI (k + 1) (x % 256 :: l) (x / 256) := by
        conv => lhs; unfold refI
        simp [hd]
      rw [this]

theorem sp19_eq (x : Int) (h1 : -9223372036854775808 ≤ x) (h2 : x < 9223372036854775808) : ∃ c, sp19 [.v (.int .i64 x)] = some (.list (refI 8 [] x).length c (ib (refI 8 [] x))) := by
  have h7 : (256 : Int) ^ 7 = 72057594037927936 := by decide
  obtain ⟨c, h⟩ := ref_loop M 7 18446744073709551615 (some 0) [] x (by omega) (by omega) (by omega) (by omega) (by simp) (fun _ => rfl)
  refine ⟨c, ?_⟩
  simpa [sp19, F19, M] using h

end Go.Ev
