/-
  The program's Mul, Compare, Sub and Div in terms of numbers.
-/
import Derived.Test.YtilgfaangfbndaaDoorEvN4
set_option linter.unusedSimpArgs false
set_option linter.unusedVariables false
set_option maxRecDepth 100000
namespace Go.Ev
open Go

/-! ### Mul -/
theorem mul_inner (a b : List Nat) (ac bc : Option Nat) (hb : isBy b) (hla : a.length ≤ 64) (hlb : b.length ≤ 64) (n0 i : Nat) (hi : i < a.length) (x : Nat) (hx : x < 256) : ∀ (n k : Nat) (d : List Nat), b.length - k < n → k ≤ b.length → isBy d → d.length = 128 → val 256 d + 256 ^ (a.length - 1 - i) * (x * valBE (b.drop k)) < 256 ^ 128 →
    ∃ d', isBy d' ∧ d'.length = 128 ∧ val 256 d' = val 256 d + 256 ^ (a.length - 1 - i) * (x * valBE (b.drop k)) ∧
    F55_55_10 M n0 n a.length ac (nb a) b.length bc (nb b) (i : Int) (x : Int) a.length ac (nb a) (a.length : Int) (b.length : Int) (k : Int) (nb d) = F55_55_7 M n0 a.length ac (nb a) b.length bc (nb b) a.length ac (nb a) (a.length : Int) ((i + 1 : Nat) : Int) (nb d')
  | 0, k, d, h, _, _, _, _ => by omega
  | n + 1, k, d, h, hk, hd, hdl, hlim => by
    have w3 : IntKind.wrap .i64 ((i : Int) + 1) = ((i + 1 : Nat) : Int) := wrap_of (by simp) (by omega)
    by_cases hlt : k < b.length
    · have e0 : (0 : Int) ≤ (k : Int) ∧ (k : Int) < (b.length : Int) := by omega
      have hbb : b[k] < 256 := hb _ (List.getElem_mem hlt)
      have hxb : x * b[k] ≤ 255 * 255 := Nat.mul_le_mul (by omega) (by omega)
      have w1 : IntKind.wrap .i64 ((a.length : Int) - 1) = ((a.length - 1 : Nat) : Int) := wrap_of (by omega) (by omega)
      have w2 : IntKind.wrap .i64 (((a.length - 1 : Nat) : Int) - (i : Int)) = ((a.length - 1 - i : Nat) : Int) := wrap_of (by omega) (by omega)
      have w4 : IntKind.wrap .i64 (((a.length - 1 - i : Nat) : Int) + (b.length : Int)) = ((a.length - 1 - i + b.length : Nat) : Int) := wrap_of (by simp) (by omega)
      have w5 : IntKind.wrap .i64 (((a.length - 1 - i + b.length : Nat) : Int) - 1) = ((a.length - 1 - i + b.length - 1 : Nat) : Int) := wrap_of (by omega) (by omega)
      have w6 : IntKind.wrap .i64 (((a.length - 1 - i + b.length - 1 : Nat) : Int) - (k : Int)) = ((a.length - 1 - i + (b.length - 1 - k) : Nat) : Int) := wrap_of (by omega) (by omega)
      have w7 : IntKind.wrap .i64 (x : Int) = ((x : Nat) : Int) := wrap_nat (by omega)
      have w8 : IntKind.wrap .i64 (b[k] : Int) = ((b[k] : Nat) : Int) := wrap_nat (by omega)
      have w9 : IntKind.wrap .i64 ((x : Int) * ((b[k] : Nat) : Int)) = ((x * b[k] : Nat) : Int) := wrap_of (by simp) (by omega)
      have w10 : IntKind.wrap .i64 ((k : Int) + 1) = ((k + 1 : Nat) : Int) := wrap_of (by simp) (by omega)
      have hv : valBE (b.drop k) = 256 ^ (b.length - 1 - k) * b[k] + valBE (b.drop (k + 1)) := by
        rw [List.drop_eq_getElem_cons hlt, valBE_cons, List.length_drop, Nat.mul_comm, show b.length - (k + 1) = b.length - 1 - k by omega]
      have hv2 : 256 ^ (a.length - 1 - i) * (x * valBE (b.drop k)) = 256 ^ (a.length - 1 - i + (b.length - 1 - k)) * (x * b[k]) + 256 ^ (a.length - 1 - i) * (x * valBE (b.drop (k + 1))) := by
        rw [hv, Nat.mul_add, Nat.mul_add, Nat.pow_add, Nat.mul_assoc (256 ^ (a.length - 1 - i)), Nat.mul_left_comm x]
      rw [hv2] at hlim ⊢
      obtain ⟨d1, h1, h2, h3, h4⟩ := add_55 n0 n a.length ac (nb a) b.length bc (nb b) (i : Int) (x : Int) (k : Int) (b[k] : Int) a.length ac (nb a) (a.length : Int) (b.length : Int) M (a.length - 1 - i + (b.length - 1 - k)) (x * b[k]) d (by unfold M; omega) hd hdl (by omega) (by omega)
      rw [← Nat.add_assoc, ← h3] at hlim ⊢
      obtain ⟨d', g1, g2, g3, g4⟩ := mul_inner a b ac bc hb hla hlb n0 i hi x hx n (k + 1) d1 (by omega) (by omega) h1 h2 hlim
      refine ⟨d', g1, g2, g3, ?_⟩
      rw [F55_55_10_s, decide_eq_true e0.2, cond_true, if_pos e0, show Int.toNat (k : Int) * 1 = k by omega, rdI_nb_lt hlt, Option.bind_some, w1, w2, w4, w5, w6, w7, w8, w9, h4, w10]
      exact g4
    · have : k = b.length := by omega
      subst this
      refine ⟨d, hd, hdl, by simp [valBE_nil], ?_⟩
      rw [F55_55_10_s, decide_eq_false (by omega), cond_false, w3]

theorem mul_outer (a b : List Nat) (ac bc : Option Nat) (ha : isBy a) (hb : isBy b) (hla : a.length ≤ 64) (hlb : b.length ≤ 64) : ∀ (n i : Nat) (d : List Nat), a.length - i < n → i ≤ a.length → isBy d → d.length = 128 → val 256 d + valBE (a.drop i) * valBE b < 256 ^ 128 →
    F55_55_7 M n a.length ac (nb a) b.length bc (nb b) a.length ac (nb a) (a.length : Int) (i : Int) (nb d) = some (numR (val 256 d + valBE (a.drop i) * valBE b))
  | 0, i, d, h, _, _, _, _ => by omega
  | n + 1, i, d, h, hi, hd, hdl, hlim => by
    rw [F55_55_7_s]
    by_cases hlt : i < a.length
    · have e0 : (0 : Int) ≤ (i : Int) ∧ (i : Int) < (a.length : Int) := by omega
      have hx : a[i] < 256 := ha _ (List.getElem_mem hlt)
      have hv : valBE (a.drop i) * valBE b = 256 ^ (a.length - 1 - i) * (a[i] * valBE b) + valBE (a.drop (i + 1)) * valBE b := by
        rw [List.drop_eq_getElem_cons hlt, valBE_cons, List.length_drop, show a.length - (i + 1) = a.length - 1 - i by omega, Nat.add_mul, Nat.mul_comm a[i], Nat.mul_assoc]
      rw [hv] at hlim ⊢
      obtain ⟨d', h1, h2, h3, h4⟩ := mul_inner a b ac bc hb hla hlb n i hlt a[i] hx M 0 d (by unfold M; omega) (by omega) hd hdl (by rw [List.drop_zero]; omega)
      rw [List.drop_zero] at h3
      rw [decide_eq_true e0.2, cond_true, if_pos e0, show Int.toNat (i : Int) * 1 = i by omega, rdI_nb_lt hlt, Option.bind_some]
      refine Eq.trans h4 ?_
      rw [← Nat.add_assoc, ← h3] at hlim ⊢
      exact mul_outer a b ac bc ha hb hla hlb n (i + 1) d' (by omega) (by omega) h1 h2 hlim
    · have : i = a.length := by omega
      subst this
      rw [decide_eq_false (by omega), cond_false, num_55 _ _ _ _ _ _ _ _ _ _ _ d hd hdl]
      simp [valBE_nil]

theorem isBy_zeros (n : Nat) : isBy (List.replicate n 0) := fun x hx => by have := (List.mem_replicate.1 hx).2; omega
/-- nats.Mul. -/
theorem sp55_eq (a b : List Nat) (n k : Nat) (hn : n = a.length) (hk : k = b.length) (ac bc : Option Nat) (ha : isN a) (hb : isN b) : sp55 [.list n ac (nb a), .list k bc (nb b)] = some (numR (valBE a * valBE b)) := by
  subst hn hk
  simp only [sp55, F55]
  rw [sp83_eq a b _ _ rfl rfl, ha.check, if_pos rfl, hb.check]
  simp only [Option.bind_some, rdI64]
  rw [show ((0 : Int) != 0) = false from rfl, cond_false, nb_replicate]
  have h3 : valBE a * valBE b < 256 ^ 128 := by
    rw [← lim2]
    exact Nat.mul_lt_mul'' ha.lt hb.lt
  have := mul_outer a b ac bc ha.by_ hb.by_ ha.len hb.len M 0 (List.replicate 128 0) (by have := ha.len; unfold M; omega) (by omega) (isBy_zeros _) (by simp) (by rw [val_zeros, List.drop_zero]; omega)
  rw [val_zeros, List.drop_zero, Nat.zero_add] at this
  exact this

/-! ### Compare -/
def cmpN (x y : Nat) : Int := if x < y then -1 else if y < x then 1 else 0
theorem ofNat_lt {x y : Nat} (hx : x < 256) (hy : y < 256) : (UInt8.ofNat x < UInt8.ofNat y) ↔ x < y := by
  rw [UInt8.lt_iff_toNat_lt]
  simp only [UInt8.toNat_ofNat']
  rw [Nat.mod_eq_of_lt (by omega), Nat.mod_eq_of_lt (by omega)]
theorem compare_eq : ∀ (l k : List Nat), isBy l → isBy k → l.length = k.length → Lib.compareBytes (l.map fun x => UInt8.ofNat x) (k.map fun x => UInt8.ofNat x) = cmpN (valBE l) (valBE k)
  | [], [], _, _, _ => rfl
  | x :: l, y :: k, hl, hk, h => by
    have hx := hl x (by simp)
    have hy := hk y (by simp)
    have hlk : l.length = k.length := by simpa using h
    have ih := compare_eq l k (fun z hz => hl z (by simp [hz])) (fun z hz => hk z (by simp [hz])) hlk
    have b1 := valBE_lt l (fun z hz => hl z (by simp [hz]))
    have b2 := valBE_lt k (fun z hz => hk z (by simp [hz]))
    rw [← hlk] at b2
    simp only [List.map_cons, Lib.compareBytes, ofNat_lt hx hy, ofNat_lt hy hx, ih, valBE_cons, ← hlk]
    generalize 256 ^ l.length = A at b1 b2 ⊢
    rcases Nat.lt_trichotomy x y with h1 | h1 | h1
    · have h2 : (x + 1) * A ≤ y * A := Nat.mul_le_mul_right _ h1
      rw [Nat.add_mul, Nat.one_mul] at h2
      rw [if_pos h1]; unfold cmpN; rw [if_pos (by omega)]
    · subst h1
      rw [if_neg (by omega), if_neg (by omega)]; unfold cmpN
      by_cases g1 : valBE l < valBE k
      · rw [if_pos g1, if_pos (by omega)]
      · by_cases g2 : valBE k < valBE l
        · rw [if_neg g1, if_pos g2, if_neg (by omega), if_pos (by omega)]
        · rw [if_neg g1, if_neg g2, if_neg (by omega), if_neg (by omega)]
    · have h2 : (y + 1) * A ≤ x * A := Nat.mul_le_mul_right _ h1
      rw [Nat.add_mul, Nat.one_mul] at h2
      rw [if_neg (by omega), if_pos h1]; unfold cmpN; rw [if_neg (by omega), if_pos (by omega)]
theorem sp92_eq (l k : List Nat) (n m : Nat) (hn : n = l.length) (hm : m = k.length) (hl : isBy l) (hk : isBy k) (h : l.length = k.length) (c c' : Option Nat) : sp92 [.list n c (nb l), .list m c' (nb k)] = some (.v (.int .i64 (cmpN (valBE l) (valBE k)))) := by
  subst hn hm
  simp only [sp92, nb_length, true_and, if_true, and_self, bytesOf_nb, Option.bind_some, compare_eq l k hl hk h]
theorem byt_lt_of_len {x y : Nat} (h : (byt x).length < (byt y).length) : x < y := by
  have h1 := (byt_length_le x (byt x).length).1 (Nat.le_refl _)
  rcases Nat.lt_or_ge x y with h2 | h2
  · exact h2
  · have := (byt_length_le y (byt x).length).2 (by omega)
    omega

/-- nats.Compare. -/
theorem sp61_eq (a b : List Nat) (n m : Nat) (hn : n = a.length) (hm : m = b.length) (ha : isBy a) (hb : isBy b) (hla : a.length ≤ 100000) (hlb : b.length ≤ 100000) (ac bc : Option Nat) : sp61 [.list n ac (nb a), .list m bc (nb b)] = some (.v (.int .i64 (cmpN (valBE a) (valBE b)))) := by
  subst hn hm
  have hz : (ByteArray.toList (ByteArray.mk #[0]) == ByteArray.toList (ByteArray.mk #[])) = false := by rw [toList_eq, toList_eq]; rfl
  -- behind the trims
  have key : ∀ (c c' : Option Nat), (cond (decide ((((stripZ a).length : Nat) : Int) < (((stripZ b).length : Nat) : Int))) (some (D.v (.int .i64 (-1 : Int))))
      (cond (decide ((((stripZ a).length : Nat) : Int) > (((stripZ b).length : Nat) : Int))) (some (D.v (.int .i64 (1 : Int)))) ((sp92 [.list (stripZ a).length c (nb (stripZ a)), .list (stripZ b).length c' (nb (stripZ b))]).bind fun d => (rdI .i64 (some d)).bind fun x => some (D.v (.int .i64 x))))) = some (.v (.int .i64 (cmpN (valBE a) (valBE b)))) := fun c c' => by
    have e1 := stripZ_eq a ha
    have e2 := stripZ_eq b hb
    rw [e1, e2]
    by_cases h1 : (byt (valBE a)).length < (byt (valBE b)).length
    · have := byt_lt_of_len h1
      rw [decide_eq_true (by omega), cond_true]; unfold cmpN; rw [if_pos this]
    · by_cases h2 : (byt (valBE b)).length < (byt (valBE a)).length
      · have := byt_lt_of_len h2
        rw [decide_eq_false (by omega), cond_false, decide_eq_true (by omega), cond_true]; unfold cmpN; rw [if_neg (by omega), if_pos this]
      · rw [decide_eq_false (by omega), cond_false, decide_eq_false (by omega), cond_false, sp92_eq _ _ _ _ rfl rfl (byt_isBy _) (byt_isBy _) (by omega), valBE_byt, valBE_byt]
        rfl
  simp only [sp61, F61, hz, cond_false]
  cases a with
  | nil =>
    rw [show ((([] : List Nat).length : Int) == 0) = true from rfl, cond_true]
    cases b with
    | nil => exact key (some 0) (some 0)
    | cons y b =>
      rw [show (((y :: b).length : Int) == 0) = false by simp <;> omega, cond_false]
      obtain ⟨c', h95⟩ := sp95_eq (y :: b) _ rfl (by omega) bc
      rw [h95]
      simp only [Option.bind_some, rdL]
      exact key _ _
  | cons x a =>
    rw [show (((x :: a).length : Int) == 0) = false by simp <;> omega, cond_false]
    obtain ⟨c, h95⟩ := sp95_eq (x :: a) _ rfl (by omega) ac
    rw [h95]
    simp only [Option.bind_some, rdL]
    cases b with
    | nil =>
      rw [show ((([] : List Nat).length : Int) == 0) = true from rfl, cond_true]
      exact key _ _
    | cons y b =>
      rw [show (((y :: b).length : Int) == 0) = false by simp <;> omega, cond_false]
      obtain ⟨c', h95'⟩ := sp95_eq (y :: b) _ rfl (by omega) bc
      rw [h95']
      simp only [Option.bind_some, rdL]
      exact key _ _

/-! ### Sub -/
theorem sub_loop : ∀ (n i : Nat) (bor : Nat) (x y : List Nat), 128 - i < n → i ≤ 128 → bor ≤ 1 → isBy x → isBy y → x.length = 128 → y.length = 128 → 256 ^ i * (bor + val 256 (y.drop i)) ≤ val 256 x →
    F50_50_9 M n (bor : Int) (i : Int) (nb x) (nb y) = some (numR (val 256 x - 256 ^ i * (bor + val 256 (y.drop i))))
  | 0, i, bor, x, y, h, _, _, _, _, _, _, _ => by omega
  | n + 1, i, bor, x, y, h, hi, hbor, hx, hy, hxl, hyl, hle => by
    rw [F50_50_9_s]
    by_cases hlt : i < 128
    · have hix : i < x.length := by omega
      have hiy : i < y.length := by omega
      have bx := hx _ (List.getElem_mem hix)
      have by_ := hy _ (List.getElem_mem hiy)
      have w1 : IntKind.wrap .i64 (x[i] : Int) = ((x[i] : Nat) : Int) := wrap_nat (by omega)
      have w2 : IntKind.wrap .i64 (y[i] : Int) = ((y[i] : Nat) : Int) := wrap_nat (by omega)
      have w3 : IntKind.wrap .i64 (((x[i] : Nat) : Int) - ((y[i] : Nat) : Int)) = ((x[i] : Nat) : Int) - ((y[i] : Nat) : Int) := wrap_i64 (by omega) (by omega)
      have w4 : IntKind.wrap .i64 (((x[i] : Nat) : Int) - ((y[i] : Nat) : Int) - (bor : Int)) = ((x[i] : Nat) : Int) - ((y[i] : Nat) : Int) - (bor : Int) := wrap_i64 (by omega) (by omega)
      have w5 : IntKind.wrap .i64 ((i : Int) + 1) = ((i + 1 : Nat) : Int) := wrap_of (by simp) (by omega)
      have e0 : (0 : Int) ≤ (i : Int) ∧ (i : Int) < 128 := by omega
      rw [val_drop y hiy] at hle ⊢
      -- one digit
      have step : ∀ (v b' : Nat), v < 256 → b' ≤ 1 → v + y[i] + bor = x[i] + 256 * b' →
          F50_50_j15 M n (b' : Int) (i : Int) (v : Int) (i : Int) (nb x) (nb y) = some (numR (val 256 x - 256 ^ i * (bor + (y[i] + 256 * val 256 (y.drop (i + 1)))))) := fun v b' hv hb' he => by
        have hset := val_set (b := 256) x i v hix
        have e1 : 256 ^ i * v + 256 ^ i * y[i] + 256 ^ i * bor = 256 ^ i * x[i] + 256 ^ i * (256 * b') := by
          rw [← Nat.mul_add, ← Nat.mul_add, he, Nat.mul_add]
        have e2 : 256 ^ (i + 1) * (b' + val 256 (y.drop (i + 1))) = 256 ^ i * (256 * b') + 256 ^ i * (256 * val 256 (y.drop (i + 1))) := by
          rw [Nat.pow_succ, Nat.mul_assoc, Nat.mul_add, Nat.mul_add]
        simp only [Nat.mul_add] at hle
        have ih := sub_loop n (i + 1) b' (x.set i v) y (by omega) (by omega) hb' (isBy_set hx hv) hy (by simp [hxl]) hyl (by rw [e2]; omega)
        have hval : val 256 (x.set i v) - 256 ^ (i + 1) * (b' + val 256 (y.drop (i + 1))) = val 256 x - 256 ^ i * (bor + (y[i] + 256 * val 256 (y.drop (i + 1)))) := by
          rw [e2]; simp only [Nat.mul_add]; omega
        have w6 : IntKind.wrap .u8 (v : Int) = (v : Int) := by rw [wrap_u8]; omega
        rw [F50_50_j15_e, if_pos e0, show 0 + Int.toNat (i : Int) * 1 = i by omega, if_pos ⟨rfl, hlt⟩, w5, w6, nb_set, ih, hval]
      rw [decide_eq_true e0.2, cond_true, if_pos e0, rd_blk hix, Option.bind_some, if_pos e0, rd_blk hiy, Option.bind_some, w1, w2, w3, w4]
      by_cases hneg : ((x[i] : Nat) : Int) - ((y[i] : Nat) : Int) - (bor : Int) < 0
      · have w7 : IntKind.wrap .i64 (((x[i] : Nat) : Int) - ((y[i] : Nat) : Int) - (bor : Int) + 256) = ((x[i] + 256 - y[i] - bor : Nat) : Int) := wrap_of (by omega) (by omega)
        rw [decide_eq_true hneg, cond_true, w7]
        exact step (x[i] + 256 - y[i] - bor) 1 (by omega) (by omega) (by omega)
      · rw [decide_eq_false hneg, cond_false, show ((x[i] : Nat) : Int) - ((y[i] : Nat) : Int) - (bor : Int) = ((x[i] - y[i] - bor : Nat) : Int) by omega]
        exact step (x[i] - y[i] - bor) 0 (by omega) (by omega) (by omega)
    · have hi' : i = 128 := by omega
      subst hi'
      have hv := val_lt (b := 256) (by omega) x hx
      rw [hxl] at hv
      rw [List.drop_eq_nil_of_le (by omega), val_nil, Nat.add_zero] at hle ⊢
      have hb0 : bor = 0 := by
        rcases Nat.eq_zero_or_pos bor with h0 | h0
        · exact h0
        · have : 256 ^ 128 * 1 ≤ 256 ^ 128 * bor := Nat.mul_le_mul_left _ h0
          omega
      subst hb0
      rw [decide_eq_false (by omega), cond_false, num_50 _ _ _ x hx hxl]
      simp

/-- nats.Sub. -/
theorem sp50_eq (a b : List Nat) (n k : Nat) (hn : n = a.length) (hk : k = b.length) (ac bc : Option Nat) (ha : isN a) (hb : isN b) : sp50 [.list n ac (nb a), .list k bc (nb b)] = some (if valBE a < valBE b then .tup [.list 0 (some 0) [], .v (.int .i64 1)] else numR (valBE a - valBE b)) := by
  subst hn hk
  have hal := ha.len
  have hbl := hb.len
  simp only [sp50, F50]
  rw [sp83_eq a b _ _ rfl rfl, ha.check, if_pos rfl, hb.check]
  simp only [Option.bind_some, rdI64]
  rw [show ((0 : Int) != 0) = false from rfl, cond_false, sp61_eq a b _ _ rfl rfl ha.by_ hb.by_ (by omega) (by omega)]
  simp only [Option.bind_some, rdI64]
  by_cases h : valBE a < valBE b
  · rw [if_pos h]; unfold cmpN; rw [if_pos h]; rfl
  · rw [if_neg h, decide_eq_false (by unfold cmpN; rw [if_neg h]; split <;> omega), cond_false, sp84_eq a _ rfl ac ha.by_ (by omega), sp84_eq b _ rfl bc hb.by_ (by omega)]
    simp only [Option.bind_some, rdA]
    rw [if_pos (by simp; omega), if_pos (by simp; omega)]
    have := sub_loop M 0 0 (a.reverse ++ List.replicate (128 - a.length) 0) (b.reverse ++ List.replicate (128 - b.length) 0) (by unfold M; omega) (by omega) (by omega) (ofBlk_isBy ha.by_ _) (ofBlk_isBy hb.by_ _) (by simp; omega) (by simp; omega) (by rw [List.drop_zero, ofBlk_val, ofBlk_val]; simp; omega)
    rw [List.drop_zero, ofBlk_val, ofBlk_val] at this
    simpa using this
end Go.Ev
