/-
  Content octets read: GetInt, GetBool, GetNat, PutNat against the reference, in plain terms.
-/
import Derived.Test.YtilgfaangfbndaaDoorEvN3
import Derived.Test.YtilgfaangfbndaaDoorEvS4
import Derived.Test.YtilgfaangfbndaaDoorEvB
set_option linter.unusedSimpArgs false
set_option linter.unusedVariables false
set_option maxRecDepth 100000
namespace Go.Ev
open Go

/-- The value of octets behind a first part. -/
def gi : Int → List Int → Int
  | n, [] => n
  | n, x :: r => gi (n * 256 + x) r
def sgn (a : Int) : Int := if a < 128 then a else a - 256
/-- GetInt: the integer, and the error. -/
def getI : List Int → Int × Int
  | [] => (0, 11)
  | a :: r => if sup (a :: r) then (0, 11) else if 8 < (a :: r).length then (0, 3) else (gi (sgn a) r, 0)

theorem gi_concat (y : Int) : ∀ (r : List Int) (n : Int), gi n (r ++ [y]) = gi n r * 256 + y
  | [], n => rfl
  | x :: r, n => gi_concat y r (n * 256 + x)
theorem p256 (j : Nat) : (0 : Int) < 256 ^ j := Int.pow_pos (by decide)
theorem p256_le {j : Nat} (h : j ≤ 6) : (256 : Int) ^ j ≤ 281474976710656 := (by decide : ∀ k : Nat, k < 7 → (256 : Int) ^ k ≤ 281474976710656) j (by omega)
theorem p256_le7 {j : Nat} (h : j ≤ 7) : (256 : Int) ^ j ≤ 72057594037927936 := (by decide : ∀ k : Nat, k < 8 → (256 : Int) ^ k ≤ 72057594037927936) j (by omega)

/-- The program's loop. -/
theorem get_loop2 (m : Nat) (cap : Option Nat) (N : Nat) (hN : N ≤ 100) : ∀ (r : List Int) (n : Nat) (pre : List Int) (v : Int) (j : Nat), r.length < n → isB r → pre.length + r.length = N → j + r.length ≤ 7 → -(128 * 256 ^ j) ≤ v → v < 128 * 256 ^ j →
    F73_73_7 m n v N cap (ib (pre ++ r)) (N : Int) (pre.length : Int) = some (.tup [.v (.int .i64 (gi v r)), .v (.int .i64 0)])
  | [], 0, _, _, _, h, _, _, _, _, _ => by simp at h
  | [], n + 1, pre, v, j, _, _, hl, _, _, _ => by
    rw [F73_73_7_s, decide_eq_false (by simp at hl; omega), cond_false]; rfl
  | x :: r, 0, _, _, _, h, _, _, _, _, _ => by omega
  | x :: r, n + 1, pre, v, j, h, hb, hl, hj, h1, h2 => by
    rw [F73_73_7_s]
    have hx := hb x (by simp)
    simp only [List.length_cons] at hl hj h
    have e0 : (0 : Int) ≤ (pre.length : Int) ∧ (pre.length : Int) < (N : Int) := by omega
    have hp := p256_le (j := j) (by omega)
    have hget : (pre ++ x :: r)[pre.length]? = some x := by simp
    rw [decide_eq_true e0.2, cond_true, if_pos e0, show Int.toNat (pre.length : Int) * 1 = pre.length by omega, rdI_ib, hget]
    simp only [Option.bind_some]
    rw [show IntKind.bits .i64 = 64 from rfl, or_byte hx.1 hx.2 (by omega) (by omega)]
    have hi : IntKind.wrap .i64 ((pre.length : Int) + 1) = ((pre ++ [x]).length : Int) := by rw [wrap_i64 (by omega) (by omega)]; simp
    rw [hi]
    have hpow : (256 : Int) ^ (j + 1) = 256 ^ j * 256 := Int.pow_succ _ _
    have := get_loop2 m cap N hN r n (pre ++ [x]) (v * 256 + x) (j + 1) (by omega) (fun y hy => hb y (by simp [hy])) (by simp <;> omega) (by omega) (by omega) (by omega)
    rw [show (pre ++ [x]) ++ r = pre ++ x :: r by simp] at this
    exact this

/-- The reference's loop. -/
theorem ref_get_loop (m : Nat) (cap : Option Nat) (N : Nat) (hN : N ≤ 100) : ∀ (r : List Int) (n : Nat) (pre : List Int) (v : Int) (j : Nat), r.length < n → isB r → pre.length + r.length = N → j + r.length ≤ 7 → -(128 * 256 ^ j) ≤ v → v < 128 * 256 ^ j →
    F31_31_9 m n N cap (ib (pre ++ r)) v (pre.length : Int) = some (.tup [.v (.int .i64 (gi v r)), .v (.int .i64 0)])
  | [], 0, _, _, _, h, _, _, _, _, _ => by simp at h
  | [], n + 1, pre, v, j, _, _, hl, _, _, _ => by
    rw [F31_31_9_s, decide_eq_false (by simp at hl; omega), cond_false]; rfl
  | x :: r, 0, _, _, _, h, _, _, _, _, _ => by omega
  | x :: r, n + 1, pre, v, j, h, hb, hl, hj, h1, h2 => by
    rw [F31_31_9_s]
    have hx := hb x (by simp)
    simp only [List.length_cons] at hl hj h
    have e0 : (0 : Int) ≤ (pre.length : Int) ∧ (pre.length : Int) < (N : Int) := by omega
    have hp := p256_le (j := j) (by omega)
    have hget : (pre ++ x :: r)[pre.length]? = some x := by simp
    rw [decide_eq_true e0.2, cond_true, if_pos e0, show Int.toNat (pre.length : Int) * 1 = pre.length by omega, rdI_ib, hget]
    simp only [Option.bind_some]
    rw [wrap_i64 (x := v * 256) (by omega) (by omega), wrap_i64 (x := x) (by omega) (by omega), wrap_i64 (x := v * 256 + x) (by omega) (by omega)]
    have hi : IntKind.wrap .i64 ((pre.length : Int) + 1) = ((pre ++ [x]).length : Int) := by rw [wrap_i64 (by omega) (by omega)]; simp
    rw [hi]
    have hpow : (256 : Int) ^ (j + 1) = 256 ^ j * 256 := Int.pow_succ _ _
    have := ref_get_loop m cap N hN r n (pre ++ [x]) (v * 256 + x) (j + 1) (by omega) (fun y hy => hb y (by simp [hy])) (by simp <;> omega) (by omega) (by omega) (by omega)
    rw [show (pre ++ [x]) ++ r = pre ++ x :: r by simp] at this
    exact this

theorem sgn_bound {a : Int} (h : 0 ≤ a ∧ a < 256) : -128 ≤ sgn a ∧ sgn a < 128 := by unfold sgn; split <;> omega

theorem sp73_eq (l : List Int) (hb : isB l) (hl : l.length ≤ 100) (n : Nat) (hn : n = l.length) (c : Option Nat) :
    sp73 [.list n c (ib l)] = some (.tup [.v (.int .i64 (getI l).1), .v (.int .i64 (getI l).2)]) := by
  subst hn
  cases l with
  | nil => rfl
  | cons a r =>
    simp only [sp73, F73, getI]
    have ha := hb a (by simp)
    have e0 : (((a :: r).length : Int) == (0 : Int)) = false := by simp <;> omega
    rw [e0, cond_false, sp71_eq _ _ _ rfl]
    simp only [Option.bind_some, rdB]
    cases hs : sup (a :: r) with
    | true => simp
    | false =>
      simp only [cond_false, Bool.false_eq_true, if_false]
      by_cases h8 : 8 < (a :: r).length
      · rw [decide_eq_true (by omega), cond_true, if_pos h8]
      · rw [decide_eq_false (by omega), cond_false, if_neg h8]
        rw [if_pos (by simp <;> omega)]
        simp only [ib_cons, List.getElem?_cons_zero, rdI, if_true, Option.bind_some]
        rw [if_pos (by simp <;> omega)]
        have hv : IntKind.wrap .i64 (IntKind.wrap .i8 a) = sgn a := by
          rw [wrap_i8 ha.1 ha.2]; unfold sgn
          split <;> exact wrap_i64 (by omega) (by omega)
        rw [hv]
        have hsb := sgn_bound ha
        simp only [List.length_cons, Nat.add_sub_cancel, Nat.mul_one, List.drop_succ_cons, List.drop_zero] at *
        have := get_loop2 M (Option.map (fun q => q - 1) c) r.length (by omega) r M [] (sgn a) 0 (by unfold M; omega) (fun y hy => hb y (by simp [hy])) (by simp) (by omega) (by simpa using hsb.1) (by simpa using hsb.2)
        rw [List.take_of_length_le (by simp)]
        exact this

theorem sp31_eq (l : List Int) (hb : isB l) (hl : l.length ≤ 100) (n : Nat) (hn : n = l.length) (c : Option Nat) :
    sp31 [.list n c (ib l)] = some (.tup [.v (.int .i64 (getI l).1), .v (.int .i64 (getI l).2)]) := by
  subst hn
  cases l with
  | nil => rfl
  | cons a r =>
    have ha := hb a (by simp)
    have j3 : sup (a :: r) = false → F31_31_j3 M (a :: r).length c (ib (a :: r)) = some (.tup [.v (.int .i64 (getI (a :: r)).1), .v (.int .i64 (getI (a :: r)).2)]) := fun hs => by
      rw [F31_31_j3_e]
      simp only [getI, hs, Bool.false_eq_true, if_false]
      by_cases h8 : 8 < (a :: r).length
      · rw [decide_eq_true (by omega), cond_true, if_pos h8]
      · rw [decide_eq_false (by omega), cond_false, if_neg h8, if_pos (by simp <;> omega)]
        have hsb := sgn_bound ha
        have hfin : F31_31_9 M M (a :: r).length c (ib (a :: r)) (sgn a) (1 : Int) = some (.tup [.v (.int .i64 (gi (sgn a) r)), .v (.int .i64 0)]) :=
          ref_get_loop M c (a :: r).length (by omega) r M [a] (sgn a) 0 (by unfold M; simp at h8; omega) (fun y hy => hb y (by simp [hy])) (by simp <;> omega) (by simp at h8; omega) (by simpa using hsb.1) (by simpa using hsb.2)
        simp only [ib_cons, List.getElem?_cons_zero, rdI, if_true, Option.bind_some, wrap_i64 (x := a) (by omega) (by omega)]
        rw [ib_cons] at hfin
        by_cases h127 : a > 127
        · rw [decide_eq_true h127, cond_true, F31_31_j8_e, wrap_i64 (by omega) (by omega)]
          rw [show sgn a = a - 256 by unfold sgn; rw [if_neg (by omega)]] at hfin ⊢
          exact hfin
        · rw [decide_eq_false h127, cond_false, F31_31_j8_e]
          rw [show sgn a = a by unfold sgn; rw [if_pos (by omega)]] at hfin ⊢
          exact hfin
    simp only [sp31, F31]
    have e0 : (((a :: r).length : Int) == (0 : Int)) = false := by simp <;> omega
    rw [e0, cond_false]
    cases r with
    | nil =>
      rw [decide_eq_false (by simp), cond_false]
      exact j3 rfl
    | cons b r =>
      have g1 : ((((a :: b :: r).length : Nat) : Int) > 1) := by simp <;> omega
      have g0 : (0 : Int) ≤ 0 ∧ (0 : Int) < (((a :: b :: r).length : Nat) : Int) := by simp <;> omega
      have g2 : (0 : Int) ≤ 1 ∧ (1 : Int) < (((a :: b :: r).length : Nat) : Int) := by simp <;> omega
      rw [decide_eq_true g1, cond_true, if_pos g0, if_pos g2, if_pos g2]
      simp only [rdI_ib, List.getElem?_cons_zero, List.getElem?_cons_succ, Option.bind_some, if_pos g0, rdI_ib]
      have hsup : sup (a :: b :: r) = if a = 0 then (if b < 128 then true else false) else if a = 255 then decide (b ≥ 128) else false := rfl
      by_cases h0 : a = 0
      · subst h0
        simp only [beq_self_eq_true, cond_true]
        by_cases hb1 : b < 128
        · simp [hb1, getI, hsup]
        · simp only [hb1, decide_false, cond_false]
          rw [show ((0 : Int) == 255) = false from rfl, cond_false]
          exact j3 (by simp [hsup, hb1])
      · rw [show (a == 0) = false by simp [h0], cond_false]
        by_cases h255 : a = 255
        · subst h255
          simp only [beq_self_eq_true, cond_true]
          by_cases hb1 : b > 127
          · have : (128 : Int) ≤ b := by omega
            simp [hb1, getI, hsup, this]
          · rw [decide_eq_false hb1, cond_false]
            exact j3 (by simp [hsup]; omega)
        · rw [show (a == 255) = false by simp [h255], cond_false]
          exact j3 (by simp [hsup, h0, h255])

/-! ### What is read is written again -/
theorem lowB_gi : ∀ (r : List Int) (v : Int), isB r → lowB (gi v r) r.length = r ∧ gi v r / 256 ^ r.length = v
  | [], v, _ => ⟨rfl, by simp [gi]⟩
  | x :: r, v, h => by
    have hx := h x (by simp)
    obtain ⟨h1, h2⟩ := lowB_gi r (v * 256 + x) (fun y hy => h y (by simp [hy]))
    simp only [gi, List.length_cons, lowB, h1, quo_succ, byte, h2]
    refine ⟨?_, by omega⟩
    rw [show (v * 256 + x) % 256 = x by omega]

theorem putI_getI {a : Int} {r : List Int} (h : isB (a :: r)) (hs : sup (a :: r) = false) (h8 : (a :: r).length ≤ 8) : putI (gi (sgn a) r) = a :: r := by
  have ha := h a (by simp)
  obtain ⟨h1, h2⟩ := lowB_gi r (sgn a) (fun y hy => h y (by simp [hy]))
  have hl : lowB (gi (sgn a) r) (r.length + 1) = a :: r := by
    simp only [lowB, h1, byte, h2]
    rw [show sgn a % 256 = a by unfold sgn; split <;> omega]
  have he : enough (gi (sgn a) r) r.length = true := by
    rw [enough_iff, h2]
    unfold sgn
    split <;> omega
  have := (strip_down he (7 - r.length)).1
  simp only [List.length_cons] at h8
  rw [show r.length + 1 + (7 - r.length) = 8 by omega] at this
  unfold putI
  rw [bytes8_eq, this, hl, strip_of_not hs]

/-! ### Booleans -/
theorem nb_ib (l : List Nat) : nb l = ib (l.map fun (x : Nat) => (x : Int)) := by simp [nb, ib]
theorem isB_cast {l : List Nat} (h : isBy l) : isB (l.map fun (x : Nat) => (x : Int)) := fun x hx => by
  obtain ⟨y, hy, rfl⟩ := List.mem_map.1 hx
  have := h y hy
  omega
theorem bytesOf_nb (l : List Nat) : bytesOf (nb l) = some (l.map fun x => UInt8.ofNat x) := by
  rw [nb_ib, bytesOf_ib, List.map_map]
  rfl
theorem str_eq {l l' : List Nat} (h : isBy l) (h' : isBy l') : (ByteArray.toList (ByteArray.mk (List.toArray (l.map fun x => UInt8.ofNat x))) == ByteArray.toList (ByteArray.mk (List.toArray (l'.map fun x => UInt8.ofNat x)))) = decide (l = l') := by
  rw [toList_mk, toList_mk]
  by_cases hll : l = l'
  · subst hll; simp
  · have : ¬ (l.map fun x => UInt8.ofNat x) = (l'.map fun x => UInt8.ofNat x) := fun he => hll (ofNat_inj h h' he)
    simp [hll, this]
theorem isBy_one {x : Nat} (h : x < 256) : isBy [x] := fun y hy => by simp at hy; omega

def getB (l : List Nat) : Bool × Int := if l = [0] then (false, 0) else if l = [255] then (true, 0) else (false, 11)
theorem sp28_eq (l : List Nat) (hb : isBy l) (n : Nat) (hn : n = l.length) (c : Option Nat) : sp28 [.list n c (nb l)] = some (.tup [.v (.bool (getB l).1), .v (.int .i64 (getB l).2)]) := by
  subst hn
  match l, hb with
  | [], _ => rfl
  | [a], hb =>
    simp only [sp28, F28, getB]
    by_cases h0 : a = 0
    · subst h0; simp [nb, rdI, F28_28_j3_e]
    · by_cases h255 : a = 255
      · subst h255; simp [nb, rdI, F28_28_j3_e]
      · have e0 : ((a : Int) != 0) = true := by simp <;> omega
        have e1 : ((a : Int) != 255) = true := by simp <;> omega
        simp [nb, rdI, h0, h255, e0, e1]
  | a :: b :: r, _ =>
    have e : (((a :: b :: r).length : Int) != 1) = true := by simp <;> omega
    simp only [sp28, F28, getB, e, cond_true]
    simp
theorem sp29_eq (l : List Nat) (hb : isBy l) (n : Nat) (hn : n = l.length) (c : Option Nat) : sp29 [.list n c (nb l)] = some (.tup [.v (.bool (getB l).1), .v (.int .i64 (getB l).2)]) := by
  subst hn
  have e0 := str_eq hb (isBy_one (show 0 < 256 by omega))
  have e1 := str_eq hb (isBy_one (show 255 < 256 by omega))
  have f0 : ByteArray.mk (List.toArray (List.map (fun x => UInt8.ofNat x) [0])) = ByteArray.mk #[0] := rfl
  have f1 : ByteArray.mk (List.toArray (List.map (fun x => UInt8.ofNat x) [255])) = ByteArray.mk #[255] := rfl
  rw [f0] at e0
  rw [f1] at e1
  simp only [sp29, F29, nb_length, if_true, bytesOf_nb, Option.bind_some, e0, e1, getB]
  by_cases h0 : l = [0]
  · simp [h0]
  · by_cases h1 : l = [255] <;> simp [h0, h1]
theorem sp30_eq (v : Bool) : sp30 [.v (.bool v)] = some (.list 1 (some 1) (nb [if v then 255 else 0])) := by cases v <;> rfl
theorem getB_put {l : List Nat} (h : (getB l).2 = 0) : [if (getB l).1 then 255 else 0] = l := by
  unfold getB at h ⊢
  by_cases h0 : l = [0]
  · simp [h0]
  · by_cases h1 : l = [255]
    · simp [h1]
    · simp [h0, h1] at h

/-! ### Natural numbers -/
theorem trimL_loop (m : Nat) : ∀ (n : Nat) (l : List Nat) (c : Option Nat), l.length < n → ∃ c', F95_95_1 m n l.length c (nb l) 0 = some (.list (stripZ l).length c' (nb (stripZ l)))
  | 0, _, _, h => by omega
  | n + 1, [], c, _ => ⟨some 0, by rw [F95_95_1_s]; simp [F95_95_j3_e, stripZ]⟩
  | n + 1, x :: l, c, h => by
    have e0 : (0 : Int) ≤ 0 ∧ (0 : Int) < ((x :: l).length : Int) := by simp <;> omega
    have e1 : (0 : Int) ≤ 1 ∧ (1 : Int) ≤ ((x :: l).length : Int) := by simp <;> omega
    rw [F95_95_1_s, decide_eq_true e0.2, cond_true, if_pos e0]
    simp only [nb_cons, List.getElem?_cons_zero, rdI, if_true, Option.bind_some]
    by_cases hx : x = 0
    · subst hx
      obtain ⟨c', ih⟩ := trimL_loop m n l (Option.map (fun q => q - 1) c) (by simp at h; omega)
      refine ⟨c', ?_⟩
      rw [show (((0 : Nat) : Int) == 0) = true from rfl, cond_true, F95_95_j2_e, if_pos e1]
      simp only [List.length_cons, Nat.add_sub_cancel, Nat.mul_one, List.drop_succ_cons, List.drop_zero]
      rw [List.take_of_length_le (by simp), ih]
      rfl
    · refine ⟨c, ?_⟩
      rw [show ((x : Int) == 0) = false by simp <;> omega, cond_false, F95_95_j3_e, show (((x :: l).length : Int) == 0) = false by simp <;> omega, cond_false]
      have : stripZ (x :: l) = x :: l := by
        cases x with
        | zero => exact absurd rfl hx
        | succ x => rfl
      rw [this]; rfl
theorem sp95_eq (l : List Nat) (n : Nat) (hn : n = l.length) (hl : l.length ≤ 1000000) (c : Option Nat) : ∃ c', sp95 [.list n c (nb l), .v (.int .u8 0)] = some (.list (stripZ l).length c' (nb (stripZ l))) := by
  subst hn
  exact trimL_loop M M l c (by unfold M; omega)
/-- bytes.Clone. -/
theorem sp90_eq (l : List Nat) (n : Nat) (hn : n = l.length) (hl : l.length ≤ 1000000) (c : Option Nat) : ∃ c', sp90 [.list n c (nb l)] = some (.list l.length c' (nb l)) := by
  subst hn
  cases l with
  | nil => exact ⟨some 0, rfl⟩
  | cons x r =>
    refine ⟨none, ?_⟩
    rw [nb_cons]
    show (if fitsRow (0 + (x :: r).length) 1 ∧ ((D.v (.int .u8 (x : Int))) :: nb r).length = (x :: r).length ∧ (x :: r).length ≠ 0 then _ else none) = _
    rw [if_pos ⟨fits_len (by omega) (by omega), by simp, by simp⟩]

theorem stripZ_len : ∀ l : List Nat, (stripZ l).length ≤ l.length
  | [] => Nat.le_refl _
  | 0 :: l => by have := stripZ_len l; simp only [stripZ, List.length_cons]; omega
  | (x + 1) :: l => Nat.le_refl _

/-- GetNat: the number, and the error. -/
def badN (l : List Nat) : Bool :=
  match l with
  | [] => true
  | a :: r => sup ((a :: r).map fun (x : Nat) => (x : Int)) || decide (128 ≤ a)
def getN (l : List Nat) : List Nat × Int := if badN l then ([], 11) else if 64 < (stripZ l).length then ([], 3) else (stripZ l, 0)

theorem clip_eq {l : List Nat} (n : Nat) (hn : n = l.length) : (List.drop 0 (nb l)).take ((((n : Nat) : Int).toNat - 0) * 1) = nb l := by
  subst hn
  simp [List.take_of_length_le]

theorem sp77_eq (l : List Nat) (hb : isBy l) (n : Nat) (hn : n = l.length) (hl : l.length ≤ 1000000) (c : Option Nat) :
    sp77 [.list n c (nb l)] = some (.tup [.list (getN l).1.length (some (getN l).1.length) (nb (getN l).1), .v (.int .i64 (getN l).2)]) := by
  subst hn
  cases l with
  | nil => rfl
  | cons a r =>
    have e0 : (((a :: r).length : Int) == (0 : Int)) = false := by simp <;> omega
    have e1 : (0 : Int) ≤ 0 ∧ (0 : Int) < ((a :: r).length : Int) := by simp <;> omega
    simp only [sp77, F77, e0, cond_false]
    have hs71 := sp71_eq ((a :: r).map fun (x : Nat) => (x : Int)) c (a :: r).length (by simp)
    rw [← nb_ib] at hs71
    rw [hs71]
    simp only [Option.bind_some, rdB]
    have hbad : badN (a :: r) = (sup ((a :: r).map fun (x : Nat) => (x : Int)) || decide (128 ≤ a)) := rfl
    cases hs : sup ((a :: r).map fun (x : Nat) => (x : Int)) with
    | true =>
      have hg : badN (a :: r) = true := by rw [hbad, hs]; rfl
      rw [cond_true, getN, if_pos hg]; rfl
    | false =>
      simp only [cond_false, if_pos e1]
      rw [nb_cons]
      simp only [List.getElem?_cons_zero, rdI, if_true, Option.bind_some]
      rw [← nb_cons]
      by_cases h128 : 128 ≤ a
      · rw [decide_eq_true (show (a : Int) ≥ 128 by omega), cond_true]
        have hg : badN (a :: r) = true := by rw [hbad, hs, decide_eq_true h128]; rfl
        rw [getN, if_pos hg]; rfl
      · rw [decide_eq_false (show ¬ (a : Int) ≥ 128 by omega), cond_false, F77_77_j3_e, e0, cond_false]
        have hz : (ByteArray.toList (ByteArray.mk #[0]) == ByteArray.toList (ByteArray.mk #[])) = false := by rw [toList_eq, toList_eq]; rfl
        rw [hz, cond_false]
        obtain ⟨c1, h95⟩ := sp95_eq (a :: r) _ rfl hl c
        rw [h95]
        simp only [Option.bind_some, rdL]
        have hgn : getN (a :: r) = if 64 < (stripZ (a :: r)).length then ([], 3) else (stripZ (a :: r), 0) := by
          have hg : badN (a :: r) = false := by rw [hbad, hs, decide_eq_false h128]; rfl
          rw [getN, if_neg (by rw [hg]; simp)]
        rw [hgn]
        by_cases h64 : 64 < (stripZ (a :: r)).length
        · rw [decide_eq_true (by omega), cond_true, if_pos h64]; rfl
        · rw [decide_eq_false (by omega), cond_false, if_neg h64]
          obtain ⟨c2, h90⟩ := sp90_eq (stripZ (a :: r)) _ rfl (by omega) c1
          rw [h90]
          simp only [Option.bind_some, rdL]
          rw [if_pos (by omega), if_pos (by omega), clip_eq _ rfl]
          simp

theorem sp32_eq (l : List Nat) (hb : isBy l) (n : Nat) (hn : n = l.length) (hl : l.length ≤ 200000) (c : Option Nat) :
    ∃ c', sp32 [.list n c (nb l)] = some (.tup [.list (getN l).1.length c' (nb (getN l).1), .v (.int .i64 (getN l).2)]) := by
  subst hn
  cases l with
  | nil => exact ⟨some 0, rfl⟩
  | cons a r =>
    have hbad : badN (a :: r) = (sup ((a :: r).map fun (x : Nat) => (x : Int)) || decide (128 ≤ a)) := rfl
    have e0 : (((a :: r).length : Int) == (0 : Int)) = false := by simp <;> omega
    have e1 : (0 : Int) ≤ 0 ∧ (0 : Int) < ((a :: r).length : Int) := by simp <;> omega
    obtain ⟨c1, h45⟩ := sp45_eq (a :: r) c _ rfl hb hl
    have h10 := dig10_len (valBE_lt (a :: r) hb)
    have hlb : (byt (valBE (a :: r))).length ≤ (a :: r).length := (byt_length_le _ _).2 (valBE_lt (a :: r) hb)
    obtain ⟨c2, h76⟩ := sp76_eq (valBE (a :: r)) c1 _ rfl (by omega) (by omega)
    have hst := stripZ_eq (a :: r) hb
    -- behind the checks
    have good : badN (a :: r) = false → ∃ c', F32_32_j3 M (a :: r).length c (nb (a :: r)) = some (.tup [.list (getN (a :: r)).1.length c' (nb (getN (a :: r)).1), .v (.int .i64 (getN (a :: r)).2)]) := fun hg => by
      rw [F32_32_j3_e, h45]
      simp only [Option.bind_some, rdL]
      rw [h76]
      simp only [Option.bind_some, rdL]
      have hgn : getN (a :: r) = if 64 < (stripZ (a :: r)).length then ([], 3) else (stripZ (a :: r), 0) := by simp [getN, hg]
      rw [hgn, hst]
      by_cases h64 : 64 < (byt (valBE (a :: r))).length
      · exact ⟨some 0, by rw [decide_eq_true (by omega), cond_true, if_pos h64]; rfl⟩
      · exact ⟨c2, by rw [decide_eq_false (by omega), cond_false, if_neg h64]⟩
    simp only [sp32, F32, e0, cond_false, if_pos e1]
    rw [nb_cons]
    simp only [List.getElem?_cons_zero, rdI, if_true, Option.bind_some]
    rw [← nb_cons]
    by_cases h128 : 128 ≤ a
    · refine ⟨some 0, ?_⟩
      have hg : badN (a :: r) = true := by rw [hbad, decide_eq_true h128]; simp
      rw [decide_eq_true (show (a : Int) > 127 by omega), cond_true, getN, if_pos hg]; rfl
    · rw [decide_eq_false (show ¬ (a : Int) > 127 by omega), cond_false]
      cases r with
      | nil =>
        rw [decide_eq_false (by simp), cond_false]
        exact good (by rw [hbad]; simp [sup]; omega)
      | cons b r =>
        have e2 : (0 : Int) ≤ 1 ∧ (1 : Int) < ((a :: b :: r).length : Int) := by simp <;> omega
        rw [decide_eq_true (by simp <;> omega), cond_true]
        simp only [nb_cons, List.getElem?_cons_zero, List.getElem?_cons_succ, rdI, if_true, Option.bind_some, if_pos e2]
        simp only [← nb_cons]
        have hsup : sup ((a :: b :: r).map fun (x : Nat) => (x : Int)) = if (a : Int) = 0 then (if (b : Int) < 128 then true else false) else if (a : Int) = 255 then decide ((b : Int) ≥ 128) else false := rfl
        by_cases h0 : a = 0
        · subst h0
          rw [show (((0 : Nat) : Int) == 0) = true from rfl, cond_true]
          by_cases hb1 : (b : Int) < 128
          · refine ⟨some 0, ?_⟩
            rw [decide_eq_true hb1, cond_true]
            have : badN (0 :: b :: r) = true := by rw [hbad, hsup]; simp [hb1]
            simp [getN, this]
          · rw [decide_eq_false hb1, cond_false]
            exact good (by rw [hbad, hsup]; simp; omega)
        · rw [show ((a : Int) == 0) = false by simp <;> omega, cond_false]
          exact good (by rw [hbad, hsup, if_neg (by omega), if_neg (by omega)]; simp; omega)

/-- PutNat of a valid number. -/
def putN (m : List Nat) : List Nat := match m with
  | [] => [0]
  | a :: r => if 128 ≤ a then 0 :: a :: r else a :: r
theorem flat_zeros8 (n : Nat) : (List.replicate n [D.v (.int .u8 (0 : Int))]).flatten = nb (List.replicate n 0) := by
  induction n with
  | zero => rfl
  | succ n ih => rw [List.replicate_succ, List.flatten_cons, ih, List.replicate_succ, nb_cons]; rfl
end Go.Ev
