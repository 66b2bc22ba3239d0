/-
  Digits: numbers to a base, the least significant digit first.
-/
set_option linter.unusedSimpArgs false
set_option linter.unusedVariables false
namespace Go.Ev

/-- The value of digits, the least significant one first. -/
def val (b : Nat) : List Nat → Nat
  | [] => 0
  | d :: l => d + b * val b l
@[simp] theorem val_nil (b : Nat) : val b [] = 0 := rfl
@[simp] theorem val_cons (b d : Nat) (l : List Nat) : val b (d :: l) = d + b * val b l := rfl
theorem val_append (b : Nat) : ∀ l l' : List Nat, val b (l ++ l') = val b l + b ^ l.length * val b l'
  | [], l' => by simp
  | d :: l, l' => by
    simp only [List.cons_append, val_cons, val_append b l l', List.length_cons, Nat.pow_succ, Nat.mul_add]
    rw [Nat.mul_comm (b ^ l.length) b, Nat.mul_assoc]; omega

/-- The digits of a number: no zero behind. -/
def dig (b n : Nat) : List Nat := if h : n = 0 ∨ b < 2 then [] else n % b :: dig b (n / b)
termination_by n
decreasing_by exact Nat.div_lt_self (by omega) (by omega)
theorem dig_zero (b : Nat) : dig b 0 = [] := by unfold dig; simp
theorem dig_pos {b n : Nat} (hb : 2 ≤ b) (h : n ≠ 0) : dig b n = n % b :: dig b (n / b) := by
  rw [dig, dif_neg (by omega)]
theorem dig_ind {b : Nat} (hb : 2 ≤ b) {p : Nat → Prop} (h0 : p 0) (h : ∀ n, n ≠ 0 → p (n / b) → p n) (n : Nat) : p n := by
  induction n using Nat.strongRecOn with
  | ind n ih =>
    by_cases hn : n = 0
    · subst hn; exact h0
    · exact h n hn (ih _ (Nat.div_lt_self (by omega) (by omega)))
theorem val_dig {b : Nat} (hb : 2 ≤ b) (n : Nat) : val b (dig b n) = n := by
  induction n using dig_ind hb with
  | h0 => rw [dig_zero]; rfl
  | h n hn ih => rw [dig_pos hb hn, val_cons, ih]; exact Nat.mod_add_div n b
theorem dig_lt {b : Nat} (hb : 2 ≤ b) (n : Nat) : ∀ x, x ∈ dig b n → x < b := by
  induction n using dig_ind hb with
  | h0 => rw [dig_zero]; simp
  | h n hn ih =>
    rw [dig_pos hb hn]
    intro x hx
    rcases List.mem_cons.1 hx with rfl | hx
    · exact Nat.mod_lt _ (by omega)
    · exact ih x hx
theorem dig_eq_nil {b : Nat} (hb : 2 ≤ b) {n : Nat} : dig b n = [] ↔ n = 0 := by
  constructor
  · intro h
    have := val_dig hb n
    rw [h] at this
    exact this.symm
  · rintro rfl; exact dig_zero b
/-- One digit in front. -/
theorem dig_cons {b : Nat} (hb : 2 ≤ b) {d n : Nat} (hd : d < b) (h : d ≠ 0 ∨ n ≠ 0) : dig b (d + b * n) = d :: dig b n := by
  have hne : d + b * n ≠ 0 := by
    rcases h with h | h
    · omega
    · have : 0 < b * n := Nat.mul_pos (by omega) (by omega)
      omega
  rw [dig_pos hb hne, Nat.add_mul_mod_self_left, Nat.mod_eq_of_lt hd, Nat.add_mul_div_left _ _ (by omega : 0 < b), Nat.div_eq_of_lt hd, Nat.zero_add]

/-- Without zeros behind. -/
def trimZ : List Nat → List Nat
  | [] => []
  | d :: l => match trimZ l with
    | [] => if d = 0 then [] else [d]
    | r => d :: r
theorem trimZ_eq {b : Nat} (hb : 2 ≤ b) : ∀ l : List Nat, (∀ x, x ∈ l → x < b) → trimZ l = dig b (val b l)
  | [], _ => by rw [val_nil, dig_zero]; rfl
  | d :: l, h => by
    have ih := trimZ_eq hb l (fun x hx => h x (List.mem_cons_of_mem _ hx))
    have hd := h d List.mem_cons_self
    simp only [trimZ, val_cons]
    by_cases hv : val b l = 0
    · rw [ih, hv, dig_zero]
      by_cases h0 : d = 0
      · simp [h0, dig_zero]
      · simp only [h0, if_false]
        rw [dig_cons hb hd (Or.inl h0), dig_zero]
    · rw [dig_cons hb hd (Or.inr hv), ← ih]
      have : trimZ l ≠ [] := by rw [ih]; intro hh; exact hv ((dig_eq_nil hb).1 hh)
      split
      · contradiction
      · rfl
/-- How 'trim' goes: the last digit away while it is zero. -/
theorem trimZ_concat (l : List Nat) (d : Nat) : trimZ (l ++ [d]) = if d = 0 then trimZ l else l ++ [d] := by
  induction l with
  | nil => simp [trimZ]
  | cons x l ih =>
    simp only [List.cons_append, trimZ, ih]
    by_cases h : d = 0
    · simp [h]
    · simp only [h, if_false]
      split
      · rename_i hh; simp at hh
      · rfl

theorem dig_length_le {b : Nat} (hb : 2 ≤ b) (n : Nat) : ∀ k, (dig b n).length ≤ k ↔ n < b ^ k := by
  induction n using dig_ind hb with
  | h0 => intro k; rw [dig_zero]; simp; exact Nat.pow_pos (by omega)
  | h n hn ih =>
    intro k
    rw [dig_pos hb hn]
    cases k with
    | zero => simp; omega
    | succ k =>
      rw [List.length_cons, Nat.succ_le_succ_iff, ih k, Nat.pow_succ, Nat.div_lt_iff_lt_mul (by omega)]
theorem val_lt {b : Nat} (hb : 2 ≤ b) : ∀ l : List Nat, (∀ x, x ∈ l → x < b) → val b l < b ^ l.length
  | [], _ => by simp
  | d :: l, h => by
    have ih := val_lt hb l (fun x hx => h x (List.mem_cons_of_mem _ hx))
    have hd := h d List.mem_cons_self
    rw [val_cons, List.length_cons, Nat.pow_succ, Nat.mul_comm (b ^ l.length)]
    have : b * (val b l + 1) ≤ b * b ^ l.length := Nat.mul_le_mul_left _ ih
    rw [Nat.mul_add] at this
    omega
/-- Digits without a zero behind are the digits of their value. -/
theorem dig_val {b : Nat} (hb : 2 ≤ b) (l : List Nat) (h : ∀ x, x ∈ l → x < b) (hl : l = [] ∨ ∃ l' d, l = l' ++ [d] ∧ d ≠ 0) : dig b (val b l) = l := by
  rw [← trimZ_eq hb l h]
  rcases hl with rfl | ⟨l', d, rfl, hd⟩
  · rfl
  · rw [trimZ_concat, if_neg hd]

/-! ### Bytes, the most significant one first -/
def valBE (l : List Nat) : Nat := val 256 l.reverse
def byt (n : Nat) : List Nat := (dig 256 n).reverse
def isBy (l : List Nat) : Prop := ∀ x, x ∈ l → x < 256
theorem valBE_nil : valBE [] = 0 := rfl
theorem valBE_concat (l : List Nat) (d : Nat) : valBE (l ++ [d]) = d + 256 * valBE l := by simp [valBE]
theorem valBE_byt (n : Nat) : valBE (byt n) = n := by rw [valBE, byt, List.reverse_reverse, val_dig (by omega)]
theorem byt_isBy (n : Nat) : isBy (byt n) := fun x hx => dig_lt (by omega) n x (List.mem_reverse.1 hx)
theorem byt_length_le (n k : Nat) : (byt n).length ≤ k ↔ n < 256 ^ k := by rw [byt, List.length_reverse]; exact dig_length_le (by omega) n k
theorem byt_zero : byt 0 = [] := by rw [byt, dig_zero]; rfl
theorem byt_valBE (l : List Nat) (h : isBy l) (h0 : l.head? ≠ some 0) : byt (valBE l) = l := by
  rw [byt, valBE, dig_val (by omega) _ (fun x hx => h x (List.mem_reverse.1 hx)), List.reverse_reverse]
  cases l with
  | nil => left; rfl
  | cons d l => right; exact ⟨l.reverse, d, by simp, by simpa using h0⟩
theorem valBE_cons (d : Nat) (l : List Nat) : valBE (d :: l) = d * 256 ^ l.length + valBE l := by
  rw [valBE, List.reverse_cons, val_append, List.length_reverse, Nat.add_comm, Nat.mul_comm]; simp [valBE]
theorem valBE_lt (l : List Nat) (h : isBy l) : valBE l < 256 ^ l.length := by
  have := val_lt (b := 256) (by omega) l.reverse (fun x hx => h x (List.mem_reverse.1 hx))
  simpa [valBE] using this
theorem byt_head (n : Nat) : (byt n).head? ≠ some 0 := by
  intro h
  have hne : n ≠ 0 := by rintro rfl; rw [byt_zero] at h; cases h
  rw [byt] at h
  have := congrArg (fun l => trimZ l.reverse) (rfl : byt n = byt n)
  have e1 : trimZ (dig 256 n) = dig 256 n := by
    rw [trimZ_eq (b := 256) (by omega) _ (dig_lt (by omega) n), val_dig (by omega)]
  rw [List.head?_reverse] at h
  obtain ⟨l', hl'⟩ : ∃ l', dig 256 n = l' ++ [0] := by
    rw [List.getLast?_eq_some_iff] at h
    obtain ⟨ys, hys⟩ := h
    exact ⟨ys, hys⟩
  rw [hl', trimZ_concat, if_pos rfl] at e1
  have e2 := val_dig (b := 256) (by omega) n
  have : (trimZ l').length ≤ l'.length := by
    clear e1 hl' e2 this h hne
    induction l' with
    | nil => exact Nat.le_refl _
    | cons d l ih => 
      simp only [trimZ]
      split
      · split <;> simp
      · rename_i r hr; simp only [List.length_cons]; omega
  have := congrArg List.length e1
  simp at this
  omega
/-- Leading zeros away. -/
def stripZ : List Nat → List Nat
  | 0 :: l => stripZ l
  | l => l
theorem stripZ_eq (l : List Nat) (h : isBy l) : stripZ l = byt (valBE l) := by
  induction l with
  | nil => rw [valBE_nil, byt_zero]; rfl
  | cons d l ih =>
    have hl : isBy l := fun x hx => h x (List.mem_cons_of_mem _ hx)
    cases d with
    | zero => rw [valBE_cons, Nat.zero_mul, Nat.zero_add, ← ih hl]; rfl
    | succ d => exact (byt_valBE _ h (by simp)).symm
end Go.Ev
