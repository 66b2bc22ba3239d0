/-
  The closed examples of the numbers are true.
-/
import Derived.Test.YtilgfaangfbndaaDoorEvN7
import Derived.Test.YtilgfaangfbndaaDoorEvG6d
set_option linter.unusedSimpArgs false
set_option linter.unusedVariables false
set_option maxRecDepth 100000
namespace Go.Ev
open Go

/-- Valid numbers, by computing. -/
def okN (l : List Nat) : Bool := l.all (fun x => decide (x < 256)) && decide (l.length ≤ 64) && (match l with | 0 :: _ => false | _ => true)
theorem isN_of {l : List Nat} (h : okN l = true) : isN l := by
  simp only [okN, Bool.and_eq_true, decide_eq_true_eq] at h
  refine ⟨fun x hx => by simpa using List.all_eq_true.1 h.1.1 x hx, h.1.2, ?_⟩
  cases l with
  | nil => simp
  | cons a r =>
    cases a with
    | zero => simp at h
    | succ a => simp
theorem isBy_of {l : List Nat} (h : l.all (fun x => decide (x < 256)) = true) : isBy l := fun x hx => by simpa using List.all_eq_true.1 h x hx
theorem numR_val {l : List Nat} (h : isN l) {v : Nat} (hv : v = valBE l) : numR v = .tup [.list l.length (some l.length) (nb l), .v (.int .i64 0)] := by rw [hv, numR_ok h.lt, h.eq]
theorem byt_val {l : List Nat} (h : isN l) {v : Nat} (hv : v = valBE l) : byt v = l := by rw [hv, h.eq]

/-- 'is' of a number. -/
theorem sp66_eq (l : List Nat) (hb : isBy l) (n : Nat) (hn : n = l.length) (c : Option Nat) : sp66 [.list n c (nb l), .v (.int .i64 0), .v (.string (strB l))] = some (.v (.bool true)) := by
  subst hn
  simp only [sp66, F66]
  rw [show ((0 : Int) == 0) = true from rfl, cond_true, if_pos (nb_length l), bytesOf_nb, Option.bind_some, str_toList, toList_mk]
  simp

/-- The power of two as bytes. -/
def powB (k : Nat) : List Nat := 2 ^ (k % 8) :: List.replicate (k / 8) 0
theorem sp70_eq (k : Nat) (hk : k ≤ 600) : sp70 [.v (.int .i64 (k : Int))] = some (.list (powB k).length (some (powB k).length) (nb (powB k))) := by
  have w1 : IntKind.wrap .i64 (Int.tdiv (k : Int) 8) = ((k / 8 : Nat) : Int) := wrap_of (by rw [Int.tdiv_eq_ediv_of_nonneg (by omega)]; omega) (by omega)
  have w2 : IntKind.wrap .i64 (((k / 8 : Nat) : Int) + 1) = ((k / 8 + 1 : Nat) : Int) := wrap_of (by simp) (by omega)
  have w3 : Int.tmod (k : Int) 8 = ((k % 8 : Nat) : Int) := by rw [Int.tmod_eq_emod_of_nonneg (by omega)]; omega
  simp only [sp70, F70, w1, w2, w3, Int.toNat_natCast, Nat.mul_one]
  rw [if_pos ⟨by omega, by omega, fits_len (by omega) (by omega)⟩, if_neg (by omega), if_pos (by omega), if_pos ⟨trivial, by omega⟩, if_pos (by omega), flat_zeros8]
  have hp : (2 : Nat) ^ (k % 8) < 256 := Nat.pow_lt_pow_right (by omega : 1 < 2) (show k % 8 < 8 by omega)
  have w4 : IntKind.wrap .u8 ((1 : Int) * 2 ^ (min (k % 8) (IntKind.bits .u8))) = ((2 ^ (k % 8) : Nat) : Int) := by
    rw [show min (k % 8) (IntKind.bits .u8) = k % 8 from Nat.min_eq_left (by have : IntKind.bits .u8 = 8 := rfl; omega)]
    have e1 : ((1 : Int) * 2 ^ (k % 8)) = ((2 ^ (k % 8) : Nat) : Int) := by rw [Int.one_mul]; simp
    rw [e1, wrap_u8]
    exact (show ∀ q : Nat, q < 256 → ((q : Nat) : Int) % 256 = (q : Int) from fun q hq => by omega) _ hp
  have e2 : (nb (List.replicate (k / 8 + 1) 0)).set 0 (.v (.int .u8 ((2 ^ (k % 8) : Nat) : Int))) = nb (powB k) := by rw [nb_set, List.replicate_succ]; rfl
  have hl : (powB k).length = k / 8 + 1 := by simp [powB]
  rw [hl]
  rw [w4, e2, cutL_all (by rw [nb_length, hl])]

theorem p_ge (k : Nat) (hk : k < 9223372036854775808) (h : 8 * 64 ≤ k) : sp59 [.list 1 (some 1) (nb [2]), .v (.int .i64 (k : Int))] = some (.tup [.list 0 (some 0) [], .v (.int .i64 3)]) := by
  have h1 := sp59_eq [2] 1 rfl (some 1) (isN_of rfl) k hk
  rw [numR_err (Nat.not_lt.2 (pow_ge (valBE [2]) 8 64 k (by decide) h))] at h1
  exact h1
theorem two_lt (e a : Nat) (h : e < 8 * a) : 2 ^ e < 256 ^ a := by
  have : (256 : Nat) ^ a = 2 ^ (8 * a) := by rw [Nat.pow_mul]
  rw [this]; exact Nat.pow_lt_pow_right (by omega) h
theorem two_ge (e a : Nat) (h : 8 * a ≤ e) : 256 ^ a ≤ 2 ^ e := by
  have : (256 : Nat) ^ a = 2 ^ (8 * a) := by rw [Nat.pow_mul]
  rw [this]; exact Nat.pow_le_pow_right (by omega) h
theorem p_lt (k : Nat) (h1 : k < 8 * 64) (h2 : 8 * 63 ≤ k) : ∃ q, sp59 [.list 1 (some 1) (nb [2]), .v (.int .i64 (k : Int))] = some (.tup [.list 64 (some 64) q, .v (.int .i64 0)]) := by
  have h := sp59_eq [2] 1 rfl (some 1) (isN_of rfl) k (by omega)
  have h3 : valBE [2] ^ k < lim := two_lt k 64 h1
  have h4 : (byt (valBE [2] ^ k)).length ≤ 64 := byt_len_lim.1 h3
  have h5 : ¬ (byt (valBE [2] ^ k)).length ≤ 63 := fun h4 => Nat.not_lt.2 (two_ge k 63 h2) ((byt_length_le _ _).1 h4)
  have h6 : (byt (valBE [2] ^ k)).length = 64 := by omega
  rw [numR_ok h3, h6] at h
  exact ⟨_, h⟩
theorem rdIu32 (i : Int) : rdI .u32 (some (.v (.int .u32 i))) = some i := rfl

theorem c1 : sp46 [.list 1 (some 1) [.v (.int .u8 255)], .list 1 (some 1) [.v (.int .u8 1)]] = some (.tup [.list 2 (some 2) [.v (.int .u8 1), .v (.int .u8 0)], .v (.int .i64 0)]) := by
  have h := sp46_eq [255] [1] 1 1 rfl rfl (some 1) (some 1) (isN_of rfl) (isN_of rfl)
  skip
  rw [numR_val (l := [1, 0]) (isN_of rfl) (by decide)] at h
  exact h
theorem c2 : sp50 [.list 2 (some 2) [.v (.int .u8 1), .v (.int .u8 0)], .list 1 (some 1) [.v (.int .u8 1)]] = some (.tup [.list 1 (some 1) [.v (.int .u8 255)], .v (.int .i64 0)]) := by
  have h := sp50_eq [1, 0] [1] 2 1 rfl rfl (some 2) (some 1) (isN_of rfl) (isN_of rfl)
  rw [if_neg (by decide)] at h
  rw [numR_val (l := [255]) (isN_of rfl) (by decide)] at h
  exact h
theorem c4 : sp55 [.list 2 (some 2) [.v (.int .u8 255), .v (.int .u8 255)], .list 2 (some 2) [.v (.int .u8 255), .v (.int .u8 255)]] = some (.tup [.list 4 (some 4) [.v (.int .u8 255), .v (.int .u8 254), .v (.int .u8 0), .v (.int .u8 1)], .v (.int .i64 0)]) := by
  have h := sp55_eq [255, 255] [255, 255] 2 2 rfl rfl (some 2) (some 2) (isN_of rfl) (isN_of rfl)
  skip
  rw [numR_val (l := [255, 254, 0, 1]) (isN_of rfl) (by decide)] at h
  exact h
theorem c3 : sp50 [.list 1 (some 1) [.v (.int .u8 1)], .list 1 (some 1) [.v (.int .u8 2)]] = some (.tup [.list 0 (some 0) [], .v (.int .i64 1)]) := by
  have h := sp50_eq [1] [2] 1 1 rfl rfl (some 1) (some 1) (isN_of rfl) (isN_of rfl)
  rw [if_pos (by decide)] at h
  exact h
theorem i1 : sp66 [.list 2 (some 2) [.v (.int .u8 36), .v (.int .u8 146)], .v (.int .i64 0), .v (.string (ByteArray.mk #[36, 146]))] = some (.v (.bool true)) := sp66_eq [36, 146] (isBy_of rfl) 2 rfl (some 2)
theorem i2 : sp66 [.list 2 (some 2) [.v (.int .u8 4), .v (.int .u8 0)], .v (.int .i64 0), .v (.string (ByteArray.mk #[4, 0]))] = some (.v (.bool true)) := sp66_eq [4, 0] (isBy_of rfl) 2 rfl (some 2)
theorem i3 : sp66 [.list 2 (some 2) [.v (.int .u8 1), .v (.int .u8 0)], .v (.int .i64 0), .v (.string (ByteArray.mk #[1, 0]))] = some (.v (.bool true)) := sp66_eq [1, 0] (isBy_of rfl) 2 rfl (some 2)
theorem i4 : sp66 [.list 1 (some 1) [.v (.int .u8 255)], .v (.int .i64 0), .v (.string (ByteArray.mk #[255]))] = some (.v (.bool true)) := sp66_eq [255] (isBy_of rfl) 1 rfl (some 1)
theorem i5 : sp66 [.list 4 (some 4) [.v (.int .u8 255), .v (.int .u8 254), .v (.int .u8 0), .v (.int .u8 1)], .v (.int .i64 0), .v (.string (ByteArray.mk #[255, 254, 0, 1]))] = some (.v (.bool true)) := sp66_eq [255, 254, 0, 1] (isBy_of rfl) 4 rfl (some 4)
theorem a1 : sp68 [.list 2 (some 2) [.v (.int .u8 0), .v (.int .u8 1)]] = some (.v (.int .i64 11)) := sp68_eq [0, 1] 2 rfl (some 2)
theorem a2 : sp70 [.v (.int .i64 512)] = some (.list 65 (some 65) (nb (powB 512))) := sp70_eq 512 (by omega)
theorem a3 : sp68 [.list 65 (some 65) (nb (powB 512))] = some (.v (.int .i64 3)) := sp68_eq (powB 512) 65 rfl (some 65)
theorem a4 : sp68 [.list 0 (some 0) []] = some (.v (.int .i64 0)) := sp68_eq [] 0 rfl (some 0)
theorem a5 : sp61 [.list 2 (some 2) [.v (.int .u8 0), .v (.int .u8 2)], .list 1 (some 1) [.v (.int .u8 2)]] = some (.v (.int .i64 0)) := sp61_eq [0, 2] [2] 2 1 rfl rfl (isBy_of rfl) (isBy_of rfl) (by simp) (by simp) (some 2) (some 1)
theorem a6 : sp61 [.list 2 (some 2) [.v (.int .u8 1), .v (.int .u8 0)], .list 1 (some 1) [.v (.int .u8 255)]] = some (.v (.int .i64 1)) := sp61_eq [1, 0] [255] 2 1 rfl rfl (isBy_of rfl) (isBy_of rfl) (by simp) (by simp) (some 2) (some 1)
theorem a7 : sp67 [.list 2 (some 2) [.v (.int .u8 1), .v (.int .u8 0)]] = some (.v (.int .i64 9)) := sp67_eq [1, 0] 2 rfl (some 2) (isN_of rfl)
theorem d1 : sp56 [.list 3 (some 3) [.v (.int .u8 1), .v (.int .u8 0), .v (.int .u8 0)], .v (.int .u32 7)] = some (.tup [.list 2 (some 2) [.v (.int .u8 36), .v (.int .u8 146)], .v (.int .u32 2), .v (.int .i64 0)]) := by
  have h := sp56_eq [1, 0, 0] 3 rfl (some 3) (isN_of rfl) 7 (by omega)
  rw [if_neg (by omega), byt_val (l := [36, 146]) (isN_of rfl) (by decide)] at h
  exact h
theorem d2 : sp56 [.list 1 (some 1) [.v (.int .u8 5)], .v (.int .u32 0)] = some (.tup [.list 0 (some 0) [], .v (.int .u32 0), .v (.int .i64 1)]) := by
  have h := sp56_eq [5] 1 rfl (some 1) (isN_of rfl) 0 (by omega)
  rw [if_pos rfl] at h
  exact h
theorem d3 : sp59 [.list 1 (some 1) [.v (.int .u8 2)], .v (.int .i64 10)] = some (.tup [.list 2 (some 2) [.v (.int .u8 4), .v (.int .u8 0)], .v (.int .i64 0)]) := by
  have h := sp59_eq [2] 1 rfl (some 1) (isN_of rfl) 10 (by omega)
  rw [numR_val (l := [4, 0]) (isN_of rfl) (by decide)] at h
  exact h
theorem e1 : sp63 [.v (.string (ByteArray.mk #[50, 53, 54]))] = some (.tup [.list 2 (some 2) [.v (.int .u8 1), .v (.int .u8 0)], .v (.int .i64 0)]) := by
  have h := sp63_eq [50, 53, 54] (isBy_of rfl) (by simp)
  rw [parseN, if_neg (by decide), if_neg (by simp), numR_val (l := [1, 0]) (isN_of rfl) (by decide)] at h
  exact h
theorem e2 : sp63 [.v (.string (ByteArray.mk #[48, 48, 55]))] = some (.tup [.list 0 (some 0) [], .v (.int .i64 6)]) := by
  have h := sp63_eq [48, 48, 55] (isBy_of rfl) (by simp)
  rw [parseN, if_pos (by decide)] at h
  exact h
theorem e3 : sp63 [.v (.string (ByteArray.mk #[]))] = some (.tup [.list 0 (some 0) [], .v (.int .i64 6)]) := by
  have h := sp63_eq [] (isBy_of rfl) (by simp)
  rw [parseN, if_pos (by decide)] at h
  exact h
theorem txt_val (l : List Nat) (h : ∀ x, x ∈ l → x < 10) (hl : l = [] ∨ ∃ l' d, l = l' ++ [d] ∧ d ≠ 0) (h0 : val 10 l ≠ 0) {v : Nat} (hv : v = val 10 l) : txt v = l.reverse.map (48 + ·) := by
  rw [hv, txt, if_neg h0, dig_val (by omega) l h hl]
theorem e4 : sp62 [.list 2 (some 2) [.v (.int .u8 1), .v (.int .u8 0)]] = some (.v (.string (ByteArray.mk #[50, 53, 54]))) := by
  have h := sp62_eq [1, 0] 2 rfl (some 2) (isN_of rfl)
  rw [txt_val [6, 5, 2] (by simp) (.inr ⟨[6, 5], 2, rfl, by omega⟩) (by decide) (by decide)] at h
  exact h
theorem l16 : F52_52_j16 sp46 sp50 sp55 sp56 sp59 sp61 sp62 sp63 sp66 sp67 sp68 sp70 M = some (.v (.bool true)) := by
  have hs : (ByteArray.toList (ByteArray.mk #[50, 53, 54]) == ByteArray.toList (ByteArray.mk #[50, 53, 54])) = true := by simp
  rw [F52_52_j16_e, e1, e2, e3, e4]
  show _ = _
  kernel_rfl
theorem l9 : F52_52_j9 sp46 sp50 sp55 sp56 sp59 sp61 sp62 sp63 sp66 sp67 sp68 sp70 M = some (.v (.bool true)) := by
  obtain ⟨q, hq⟩ := p_lt 511 (by omega) (by omega)
  have h512 := p_ge 512 (by omega) (by omega)
  have hn : nb [2] = [.v (.int .u8 2)] := rfl
  rw [hn, show ((512 : Nat) : Int) = 512 from rfl] at h512
  rw [hn, show ((511 : Nat) : Int) = 511 from rfl] at hq
  rw [F52_52_j9_e, d1, d2, d3, h512, hq, l16]
  show _ = _
  kernel_rfl
theorem l3 : F52_52_j3 sp46 sp50 sp55 sp56 sp59 sp61 sp62 sp63 sp66 sp67 sp68 sp70 M = some (.v (.bool true)) := by
  rw [F52_52_j3_e, c1, c2, c3, c4, l9]
  show _ = _
  kernel_rfl
theorem lives1 : sp52 [] = some (.v (.bool true)) := by
  show F52 sp46 sp50 sp55 sp56 sp59 sp61 sp62 sp63 sp66 sp67 sp68 sp70 M = _
  unfold F52
  rw [a1, a2, a4, a5, a6, a7, l3]
  show _ = _
  kernel_rfl
theorem lives1_plain {R : Type} (k : Bool → Option R) : ((sp52 []).bind fun d => (rdB (some d)).bind fun b => k b) = k true := by
  rw [lives1]; rfl
end Go.Ev
