/-
  The program's Bits, Text and Parse in terms of numbers.
-/
import Derived.Test.YtilgfaangfbndaaDoorEvN6
set_option linter.unusedSimpArgs false
set_option linter.unusedVariables false
set_option maxRecDepth 100000
namespace Go.Ev
open Go

/-! ### Bits -/
noncomputable def tab8 : List UInt8 := [0, 1, 2, 2, 3, 3, 3, 3, 4, 4, 4, 4, 4, 4, 4, 4] ++ List.replicate 16 5 ++ List.replicate 32 6 ++ List.replicate 64 7 ++ List.replicate 128 8
def len8 (x : Nat) : Nat := ((([0, 1, 2, 2, 3, 3, 3, 3, 4, 4, 4, 4, 4, 4, 4, 4] ++ List.replicate 16 5 ++ List.replicate 32 6 ++ List.replicate 64 7 ++ List.replicate 128 8 : List Nat)).getD x 0)
theorem len8_spec : ∀ x, x < 256 → 1 ≤ x → 1 ≤ len8 x ∧ len8 x ≤ 8 ∧ 2 ^ (len8 x - 1) ≤ x ∧ x < 2 ^ len8 x := by
  have h : (List.range 256).all (fun x => decide (x = 0) || (decide (1 ≤ len8 x) && decide (len8 x ≤ 8) && decide (2 ^ (len8 x - 1) ≤ x) && decide (x < 2 ^ len8 x))) = true := by kernel_rfl
  intro x hx h1
  have := List.all_eq_true.1 h x (List.mem_range.2 hx)
  simp only [Bool.or_eq_true, Bool.and_eq_true, decide_eq_true_eq] at this
  rcases this with h0 | h0
  · omega
  · exact ⟨h0.1.1.1, h0.1.1.2, h0.1.2, h0.2⟩
theorem sp93_all : ∀ x : Nat, x < 256 → sp93 [.v (.int .u8 (x : Int))] = some (.v (.int .i64 ((len8 x : Nat) : Int))) := by
  have step : ∀ (l : List Nat), (∀ x, x ∈ l → sp93 [.v (.int .u8 (x : Int))] = some (.v (.int .i64 ((len8 x : Nat) : Int)))) ↔ l.map (fun (x : Nat) => sp93 [.v (.int .u8 (x : Int))]) = l.map fun (x : Nat) => some (.v (.int .i64 ((len8 x : Nat) : Int))) := fun l => by
    simp [List.map_inj_left]
  intro x hx
  refine (step (List.range 256)).2 ?_ x (List.mem_range.2 hx)
  kernel_rfl

def bitsN (l : List Nat) : Nat := match l with
  | [] => 0
  | a :: r => 8 * r.length + len8 a
theorem sp67_eq (l : List Nat) (n : Nat) (hn : n = l.length) (c : Option Nat) (h : isN l) : sp67 [.list n c (nb l)] = some (.v (.int .i64 ((bitsN l : Nat) : Int))) := by
  subst hn
  have hl := h.len
  simp only [sp67, F67]
  rw [sp68_eq l _ rfl, h.check]
  simp only [Option.bind_some, rdI64]
  rw [show ((0 : Int) != 0) = false from rfl, cond_false]
  cases l with
  | nil => rfl
  | cons a r =>
    have hx : rdI .u8 (nb (a :: r))[0]? = some (a : Int) := by rw [nb_cons]; simp [rdI]
    have ha := h.by_ a (by simp)
    simp only [List.length_cons] at hl
    rw [show (((a :: r).length : Int) == 0) = false by simp <;> omega, cond_false, F67_67_j3_e, if_pos (by simp <;> omega), hx, Option.bind_some, sp93_all a ha]
    simp only [Option.bind_some, rdI64]
    have h8 : len8 a ≤ 8 := by
      rcases Nat.eq_zero_or_pos a with h0 | h0
      · subst h0; decide
      · exact (len8_spec a ha h0).2.1
    have w1 : IntKind.wrap .i64 ((((a :: r).length : Nat) : Int) - 1) = (r.length : Int) := wrap_of (by simp) (by omega)
    have w2 : IntKind.wrap .i64 ((8 : Int) * (r.length : Int)) = ((8 * r.length : Nat) : Int) := wrap_of (by simp) (by omega)
    have w3 : IntKind.wrap .i64 (((8 * r.length : Nat) : Int) + ((len8 a : Nat) : Int)) = ((8 * r.length + len8 a : Nat) : Int) := wrap_of (by simp) (by omega)
    rw [w1, w2, w3]
    rfl
theorem sp67_bad (l : List Nat) (n : Nat) (hn : n = l.length) (c : Option Nat) (h : checkN l ≠ 0) : sp67 [.list n c (nb l)] = some (.v (.int .i64 0)) := by
  simp only [sp67, F67]
  rw [sp68_eq l _ hn]
  simp only [Option.bind_some, rdI64]
  rw [show (checkN l != 0) = true by simp [h], cond_true]

/-! ### Text -/
def strB (l : List Nat) : ByteArray := ByteArray.mk (List.toArray (l.map fun x => UInt8.ofNat x))
/-- The decimal form, as bytes. -/
def txt (v : Nat) : List Nat := if v = 0 then [48] else (dig 10 v).reverse.map (48 + ·)
theorem text_loop : ∀ (n v : Nat) (o : List Nat) (c : Option Nat), (dig 10 v).length < n → v < lim → o.length + (dig 10 v).length ≤ 100000 →
    ∃ c' L, F62_62_6 M n (byt v).length c (nb (byt v)) o.length o.length (nb o) = F62_89_1 M M 0 c' [] L L 0 ((L : Int) - 1) L (nb (o ++ (dig 10 v).map (48 + ·))) ∧ L = (o ++ (dig 10 v).map (48 + ·)).length
  | 0, v, o, c, h, _, _ => by omega
  | n + 1, v, o, c, h, hv, hl => by
    by_cases h0 : v = 0
    · subst h0
      refine ⟨c, o.length, ?_, by simp [dig_zero]⟩
      have w : IntKind.wrap .i64 ((o.length : Int) - 1) = (o.length : Int) - 1 := wrap_i64 (by omega) (by omega)
      rw [F62_62_6_s, byt_zero, decide_eq_false (by simp), cond_false, dig_zero, w]
      simp
    · have hd := dig_pos (b := 10) (by omega) h0
      rw [hd, List.length_cons] at h hl
      have hpos : 0 < (byt v).length := by rw [byt_pos h0]; simp
      have hdiv := sp56_eq (byt v) _ rfl c (isN_byt hv) 10 (by omega)
      rw [if_neg (by omega), valBE_byt] at hdiv
      obtain ⟨c', L, ih, hL⟩ := text_loop n (v / 10) (o ++ [48 + v % 10]) (some (byt (v / 10)).length) (by omega) (Nat.lt_of_le_of_lt (Nat.div_le_self _ _) hv) (by simp; omega)
      have hm : (o ++ [48 + v % 10]) ++ (dig 10 (v / 10)).map (48 + ·) = o ++ (dig 10 v).map (48 + ·) := by rw [hd]; simp
      rw [hm] at ih hL
      refine ⟨c', L, ?_, hL⟩
      have w1 : IntKind.wrap .u32 ((48 : Int) + ((v % 10 : Nat) : Int)) = ((48 + v % 10 : Nat) : Int) := by rw [wrap_u32]; omega
      have w2 : IntKind.wrap .u8 ((48 + v % 10 : Nat) : Int) = ((48 + v % 10 : Nat) : Int) := by rw [wrap_u8]; omega
      have hten : ((10 : Int)) = ((10 : Nat) : Int) := rfl
      rw [← ih, F62_62_6_s, decide_eq_true (by omega), cond_true, hten, hdiv]
      simp only [Option.bind_some, rdT, List.length_cons, List.length_nil, List.getElem?_cons_zero, List.getElem?_cons_succ, rdI64, rdL, if_true]
      have hr : rdI .u32 (some (D.v (.int .u32 ((v % 10 : Nat) : Int)))) = some ((v % 10 : Nat) : Int) := rfl
      rw [hr, Option.bind_some, if_pos ⟨Nat.le_refl _, by omega, fits_len (by omega) (by omega), trivial⟩, w1, w2]
      simp [nb_append, nb]

theorem isBy_map48 {l : List Nat} (h : dig10 l) : isBy (l.map (48 + ·)) := fun x hx => by
  obtain ⟨y, hy, rfl⟩ := List.mem_map.1 hx
  have := h y hy
  show 48 + y < 256
  omega
/-- nats.Text. -/
theorem sp62_eq (a : List Nat) (n : Nat) (hn : n = a.length) (c : Option Nat) (h : isN a) : sp62 [.list n c (nb a)] = some (.v (.string (strB (txt (valBE a))))) := by
  subst hn
  have hv := h.lt
  have he := h.eq
  simp only [sp62, F62]
  rw [sp68_eq a _ rfl, h.check]
  simp only [Option.bind_some, rdI64]
  rw [show ((0 : Int) != 0) = false from rfl, cond_false]
  cases a with
  | nil =>
    rw [show ((([] : List Nat).length : Int) == 0) = true from rfl, cond_true]
    rfl
  | cons x r =>
    have hne : valBE (x :: r) ≠ 0 := fun h0 => by rw [h0, byt_zero] at he; cases he
    rw [show (((x :: r).length : Int) == 0) = false by simp <;> omega, cond_false]
    revert he hne hv
    generalize valBE (x :: r) = v
    intro hv he hne
    rw [← he]
    have hl10 := dig10_len (n := v) (k := 64) hv
    obtain ⟨c', L, h1, hL⟩ := text_loop M v [] c (by unfold M; omega) hv (by simp; omega)
    simp only [List.nil_append, List.length_nil, nb_nil] at h1 hL
    rw [h1]
    obtain ⟨n', p, q, h2, hpq⟩ := rev_62 0 c' [] L ((dig 10 v).map (48 + ·)) (by simp; omega) M 0 (by simp; unfold M; omega) (by omega)
    rw [swp_zero, ← hL] at h2
    rw [show (L : Int) - 1 - ((0 : Nat) : Int) = (L : Int) - 1 by omega] at h2
    refine Eq.trans h2 ?_
    rw [F62_89_1_s, decide_eq_false hpq, cond_false, if_pos (by omega), cutL_all (by simp [hL]), bytesOf_nb, Option.bind_some, txt, if_neg hne, strB, List.map_reverse, List.map_reverse, List.map_reverse]
theorem sp62_bad (l : List Nat) (n : Nat) (hn : n = l.length) (c : Option Nat) (h : checkN l ≠ 0) : sp62 [.list n c (nb l)] = some (.v (.string (ByteArray.mk #[63]))) := by
  simp only [sp62, F62]
  rw [sp68_eq l _ hn]
  simp only [Option.bind_some, rdI64]
  rw [show (checkN l != 0) = true by simp [h], cond_true]

/-! ### Parse -/
/-- The value of decimal digits, the most significant one first, behind a first part. -/
def dec : Nat → List Nat → Nat
  | v, [] => v
  | v, d :: r => dec (v * 10 + (d - 48)) r
theorem dec_ge : ∀ (r : List Nat) (v : Nat), v ≤ dec v r
  | [], v => Nat.le_refl _
  | d :: r, v => Nat.le_trans (by omega) (dec_ge r (v * 10 + (d - 48)))
def isDig (l : List Nat) : Bool := l.all fun d => decide (48 ≤ d) && decide (d ≤ 57)
def badForm (l : List Nat) : Bool := match l with
  | [] => true
  | a :: r => (decide (a = 48) && decide (0 < r.length)) || !isDig (a :: r)
/-- nats.Parse. -/
def parseN (l : List Nat) : D := if badForm l then .tup [.list 0 (some 0) [], .v (.int .i64 6)] else if 155 < l.length then .tup [.list 0 (some 0) [], .v (.int .i64 3)] else numR (dec 0 l)

theorem lim_big : 256 ≤ lim := Nat.le_self_pow (by omega) _
theorem isDig_drop {l : List Nat} {i : Nat} (h : i < l.length) : isDig (l.drop i) = ((decide (48 ≤ l[i]) && decide (l[i] ≤ 57)) && isDig (l.drop (i + 1))) := by
  rw [List.drop_eq_getElem_cons h]; rfl
theorem isN_ten : isN [10] := ⟨isBy_one (by omega), by simp, by simp⟩
theorem numR_ok {v : Nat} (h : v < lim) : numR v = .tup [.list (byt v).length (some (byt v).length) (nb (byt v)), .v (.int .i64 0)] := if_pos h
theorem numR_err {v : Nat} (h : ¬ v < lim) : numR v = .tup [.list 0 (some 0) [], .v (.int .i64 3)] := if_neg h

theorem parse_loop (l : List Nat) (hb : isBy l) (hd : isDig l = true) (hl : l.length ≤ 155) : ∀ (n i v : Nat), l.length - i < n → i ≤ l.length → v < lim →
    F63_63_13 M n (byt v).length (some (byt v).length) (nb (byt v)) l.length (nb l) (l.length : Int) (i : Int) = some (numR (dec v (l.drop i)))
  | 0, i, v, h, _, _ => by omega
  | n + 1, i, v, h, hi, hv => by
    rw [F63_63_13_s]
    by_cases hlt : i < l.length
    · have e0 : (0 : Int) ≤ (i : Int) ∧ (i : Int) < (l.length : Int) := by omega
      have hx : l[i] < 256 := hb _ (List.getElem_mem hlt)
      have hdig := List.all_eq_true.1 hd _ (List.getElem_mem hlt)
      simp only [Bool.and_eq_true, decide_eq_true_eq] at hdig
      have hm := sp55_eq (byt v) [10] _ 1 rfl rfl (some (byt v).length) (some 1) (isN_byt hv) isN_ten
      rw [valBE_byt, show valBE [10] = 10 from rfl] at hm
      have hnb : nb [10] = [D.v (.int .u8 (10 : Int))] := rfl
      rw [hnb] at hm
      have hdr : dec v (l.drop i) = dec (v * 10 + (l[i] - 48)) (l.drop (i + 1)) := by rw [List.drop_eq_getElem_cons hlt]; rfl
      have hge := dec_ge (l.drop (i + 1)) (v * 10 + (l[i] - 48))
      rw [decide_eq_true e0.2, cond_true, if_pos e0, show Int.toNat (i : Int) * 1 = i by omega, rdI_nb_lt hlt, Option.bind_some, hm, hdr]
      by_cases ho : v * 10 < lim
      · have w1 : IntKind.wrap .u8 ((l[i] : Int) - 48) = ((l[i] - 48 : Nat) : Int) := by rw [wrap_u8]; omega
        have w2 : IntKind.wrap .u64 ((l[i] - 48 : Nat) : Int) = ((l[i] - 48 : Nat) : Int) := by rw [wrap_u64]; omega
        have hdl : l[i] - 48 < lim := Nat.lt_of_lt_of_le (show l[i] - 48 < 256 by omega) lim_big
        have hs := sp46_eq (byt (v * 10)) (byt (l[i] - 48)) _ _ rfl rfl (some (byt (v * 10)).length) (some (byt (l[i] - 48)).length) (isN_byt ho) (isN_byt hdl)
        rw [valBE_byt, valBE_byt] at hs
        rw [numR_ok ho]
        simp only [Option.bind_some, rdT, List.length_cons, List.length_nil, List.getElem?_cons_zero, List.getElem?_cons_succ, rdI64, rdL, if_true]
        rw [show ((0 : Int) == 0) = true from rfl, cond_true, w1, w2, sp58_eq _ (by omega)]
        simp only [Option.bind_some, rdL]
        rw [hs]
        by_cases ho2 : v * 10 + (l[i] - 48) < lim
        · have w3 : IntKind.wrap .i64 ((i : Int) + 1) = ((i + 1 : Nat) : Int) := wrap_of (by simp) (by omega)
          rw [numR_ok ho2]
          simp only [Option.bind_some, rdT, List.length_cons, List.length_nil, List.getElem?_cons_zero, List.getElem?_cons_succ, rdI64, rdL, if_true]
          rw [F63_63_j18_e, show ((0 : Int) != 0) = false from rfl, cond_false, w3]
          exact parse_loop l hb hd hl n (i + 1) _ (by omega) (by omega) ho2
        · rw [numR_err ho2, numR_err (by omega)]
          simp only [Option.bind_some, rdT, List.length_cons, List.length_nil, List.getElem?_cons_zero, List.getElem?_cons_succ, rdI64, rdL, if_true]
          rw [F63_63_j18_e]; rfl
      · rw [numR_err ho, numR_err (by omega)]
        simp only [Option.bind_some, rdT, List.length_cons, List.length_nil, List.getElem?_cons_zero, List.getElem?_cons_succ, rdI64, rdL, if_true]
        rw [show ((3 : Int) == 0) = false from rfl, cond_false, F63_63_j18_e]; rfl
    · have : i = l.length := by omega
      subst this
      rw [decide_eq_false (show ¬ ((l.length : Int) < (l.length : Int)) by omega), cond_false, List.drop_length, show dec v [] = v from rfl, numR_ok hv]

theorem str_bytes (l : List Nat) (hb : isBy l) : List.map byteD (Array.toList (ByteArray.data (strB l))) = nb l := by
  simp only [strB, nb, List.map_map]
  apply List.map_congr_left
  intro x hx
  have := hb x hx
  simp only [Function.comp, byteD, UInt8.toNat_ofNat']
  rw [Nat.mod_eq_of_lt (by omega)]
theorem str_size (l : List Nat) : ByteArray.size (strB l) = l.length := by simp [strB, ByteArray.size]
theorem str_toList (l : List Nat) : ByteArray.toList (strB l) = l.map fun x => UInt8.ofNat x := by rw [strB, toList_mk]

theorem scan_loop (l : List Nat) (hb : isBy l) (s : ByteArray) (hs : s = strB l) (hl : l.length ≤ 1000000) : ∀ (n i : Nat), l.length - i < n → i ≤ l.length →
    F63_63_4 M n s l.length (nb l) (l.length : Int) (i : Int) = some (if isDig (l.drop i) then (if 155 < l.length then .tup [.list 0 (some 0) [], .v (.int .i64 3)] else (if isDig l then numR (dec 0 l) else ((F63_63_13 M M 0 (some 0) [] l.length (nb l) (l.length : Int) 0).getD (.tup [])))) else .tup [.list 0 (some 0) [], .v (.int .i64 6)]) ∨ isDig l = false
  | 0, i, h, _ => by omega
  | n + 1, i, h, hi => by
    by_cases hdl : isDig l = true
    · left
      rw [F63_63_4_s]
      by_cases hlt : i < l.length
      · have e0 : (0 : Int) ≤ (i : Int) ∧ (i : Int) < (l.length : Int) := by omega
        have hdig := List.all_eq_true.1 hdl _ (List.getElem_mem hlt)
        simp only [Bool.and_eq_true, decide_eq_true_eq] at hdig
        have w3 : IntKind.wrap .i64 ((i : Int) + 1) = ((i + 1 : Nat) : Int) := wrap_of (by simp) (by omega)
        rw [decide_eq_true e0.2, cond_true, if_pos e0, show Int.toNat (i : Int) * 1 = i by omega, rdI_nb_lt hlt, Option.bind_some, decide_eq_false (by omega), cond_false, decide_eq_false (by omega), cond_false, w3]
        rcases scan_loop l hb s hs hl n (i + 1) (by omega) (by omega) with h1 | h1
        · rw [h1]
          have : isDig (l.drop i) = isDig (l.drop (i + 1)) := by
            rw [isDig_drop hlt, decide_eq_true hdig.1, decide_eq_true hdig.2]; rfl
          rw [this]
        · rw [hdl] at h1; cases h1
      · have : i = l.length := by omega
        subst this
        rw [decide_eq_false (by omega), cond_false, List.drop_length, hs, str_size, if_pos (show isDig [] = true from rfl), if_pos hdl, str_bytes l hb]
        by_cases h155 : 155 < l.length
        · rw [decide_eq_true (by omega), cond_true, if_pos h155]
        · have := parse_loop l hb hdl (by omega) M 0 0 (by unfold M; omega) (by omega) (by unfold lim; decide)
          rw [byt_zero, List.drop_zero] at this
          rw [decide_eq_false (by omega), cond_false, if_neg h155]
          exact this
    · right; simpa using hdl

/-- A character that is no digit is found. -/
theorem scan_bad (l : List Nat) (hb : isBy l) (s : ByteArray) (hs : s = strB l) (hl : l.length ≤ 1000000) : ∀ (n i : Nat), l.length - i < n → i ≤ l.length → isDig (l.drop i) = false →
    F63_63_4 M n s l.length (nb l) (l.length : Int) (i : Int) = some (.tup [.list 0 (some 0) [], .v (.int .i64 6)])
  | 0, i, h, _, _ => by omega
  | n + 1, i, h, hi, hbad => by
    rw [F63_63_4_s]
    by_cases hlt : i < l.length
    · have e0 : (0 : Int) ≤ (i : Int) ∧ (i : Int) < (l.length : Int) := by omega
      have w3 : IntKind.wrap .i64 ((i : Int) + 1) = ((i + 1 : Nat) : Int) := wrap_of (by simp) (by omega)
      rw [decide_eq_true e0.2, cond_true, if_pos e0, show Int.toNat (i : Int) * 1 = i by omega, rdI_nb_lt hlt, Option.bind_some]
      by_cases h1 : l[i] < 48
      · rw [decide_eq_true (by omega), cond_true]
      · by_cases h2 : 57 < l[i]
        · rw [decide_eq_false (by omega), cond_false, decide_eq_true (by omega), cond_true]
        · rw [decide_eq_false (by omega), cond_false, decide_eq_false (by omega), cond_false, w3]
          refine scan_bad l hb s hs hl n (i + 1) (by omega) (by omega) ?_
          rw [isDig_drop hlt, decide_eq_true (by omega), decide_eq_true (by omega)] at hbad
          exact hbad
    · rw [List.drop_eq_nil_of_le (by omega)] at hbad
      cases hbad

theorem sp63_eq (l : List Nat) (hb : isBy l) (hl : l.length ≤ 1000000) : sp63 [.v (.string (strB l))] = some (parseN l) := by
  simp only [sp63, F63]
  have hempty : (ByteArray.toList (strB l) == ByteArray.toList (ByteArray.mk #[])) = decide (l = []) := by
    rw [str_toList, toList_eq]
    cases l with
    | nil => rfl
    | cons a r => rfl
  rw [hempty]
  cases l with
  | nil => rfl
  | cons a r =>
    rw [decide_eq_false (by simp), cond_false, str_size, if_pos (by simp <;> omega)]
    have ha := hb a (by simp)
    have hc : ((((List.getD (Array.toList (ByteArray.data (strB (a :: r)))) 0 0).toNat : Nat) : Int) == (48 : Int)) = decide (a = 48) := by
      have : (List.getD (Array.toList (ByteArray.data (strB (a :: r)))) 0 0).toNat = a := by
        simp only [strB, List.map_cons, List.getD_cons_zero, UInt8.toNat_ofNat']
        rw [Nat.mod_eq_of_lt (by omega)]
      rw [this]
      by_cases h : a = 48
      · simp [h]
      · simp [h]; omega
    have j3 : ¬ (a = 48 ∧ 0 < r.length) → F63_63_j3 M (strB (a :: r)) = some (parseN (a :: r)) := fun hno => by
      rw [F63_63_j3_e, str_size, str_bytes _ hb]
      have hbf : badForm (a :: r) = !isDig (a :: r) := by
        simp only [badForm]
        by_cases h1 : a = 48
        · have : ¬ 0 < r.length := fun h2 => hno ⟨h1, h2⟩
          simp [h1, this]
        · simp [h1]
      by_cases hd : isDig (a :: r) = true
      · rcases scan_loop (a :: r) hb (strB (a :: r)) rfl hl M 0 (by unfold M; omega) (by omega) with h1 | h1
        · refine Eq.trans h1 ?_
          rw [List.drop_zero, if_pos hd, if_pos hd, parseN, hbf, hd]
          rfl
        · rw [hd] at h1; cases h1
      · have hd' : isDig (a :: r) = false := by simpa using hd
        have h1 := scan_bad (a :: r) hb (strB (a :: r)) rfl hl M 0 (by unfold M; omega) (by omega) (by rw [List.drop_zero]; exact hd')
        refine Eq.trans h1 ?_
        rw [parseN, hbf, hd']
        rfl
    rw [hc]
    by_cases h48 : a = 48
    · rw [decide_eq_true h48, cond_true]
      by_cases h1 : 0 < r.length
      · rw [decide_eq_true (by simp; omega), cond_true, parseN]
        have : badForm (a :: r) = true := by simp [badForm, h48, h1]
        rw [if_pos this]
      · rw [decide_eq_false (by simp; omega), cond_false]
        exact j3 (fun h => h1 h.2)
    · rw [decide_eq_false h48, cond_false]
      exact j3 (fun h => h48 h.1)
end Go.Ev
