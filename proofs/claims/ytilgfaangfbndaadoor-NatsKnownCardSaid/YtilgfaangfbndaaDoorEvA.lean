/-
  What arguments stand for: bytes, numbers, strings.
-/
import Derived.Test.YtilgfaangfbndaaDoorEvN2
set_option linter.unusedSimpArgs false
set_option linter.unusedVariables false
namespace Go.Ev
open Go
variable {P : Program}

theorem bytes_of : ∀ (cs : List D), (∀ i, i < cs.length → ∃ x : Nat, x < 256 ∧ cs[i]? = some (.v (.int .u8 (x : Int)))) → ∃ l : List Nat, isBy l ∧ cs = nb l
  | [], _ => ⟨[], by simp [isBy], rfl⟩
  | d :: cs, h => by
    obtain ⟨x, hx, hd⟩ := h 0 (by simp)
    obtain ⟨l, hl, he⟩ := bytes_of cs (fun i hi => by simpa using h (i + 1) (by simpa using hi))
    simp only [List.getElem?_cons_zero, Option.some.injEq] at hd
    refine ⟨x :: l, fun y hy => ?_, by rw [nb_cons, hd, he]⟩
    rcases List.mem_cons.1 hy with rfl | hy
    · exact hx
    · exact hl y hy

theorem fits_slice8 {t e : TypeId} (ht : P.underlying t = some (.slice e)) (he : P.underlying e = some (.int .u8)) (hc : P.cellsOf e = 1) {n : Nat} {ds : List D} (h : Fits P n t ds) : ∃ (l : List Nat) (cp : Nat), isBy l ∧ ds = [.list l.length (some cp) (nb l)] := by
  cases n with
  | zero => exact h.elim
  | succ n =>
    simp only [Fits, ht, hc, Nat.mul_one] at h
    obtain ⟨m, cp, cs, rfl, hm, hcp, hlen, hi⟩ := h
    obtain ⟨l, hl, rfl⟩ := bytes_of cs (fun i hlt => by
      have := hi i (by omega)
      cases n with
      | zero => exact this.elim
      | succ n =>
        simp only [Fits, he] at this
        obtain ⟨x, hx, hw⟩ := this
        simp only [Lit.wf, Bool.and_eq_true, decide_eq_true_eq] at hw
        have h1 : IntKind.u8.min = 0 := by decide
        have h2 : IntKind.u8.max = 255 := by decide
        rw [h1, h2] at hw
        refine ⟨x.toNat, by omega, ?_⟩
        rw [List.drop_eq_getElem_cons hlt] at hx
        simp only [List.take_succ_cons, List.take_zero, List.cons.injEq, and_true] at hx
        rw [List.getElem?_eq_getElem hlt, hx, show ((x.toNat : Nat) : Int) = x by omega])
    exact ⟨l, cp, hl, by rw [← hlen, nb_length]⟩

theorem args_slice8 {t e : TypeId} (ht : P.underlying t = some (.slice e)) (he : P.underlying e = some (.int .u8)) (hc : P.cellsOf e = 1) {d : D} (h : ArgFits P t d) : ∃ (l : List Nat) (cp : Nat), isBy l ∧ d = .list l.length (some cp) (nb l) := by
  obtain ⟨n, hf⟩ := h
  simp only [ht] at hf
  obtain ⟨l, cp, h1, h2⟩ := fits_slice8 ht he hc hf
  exact ⟨l, cp, h1, by simpa using h2⟩

/-- A struct of one byte slice. -/
theorem args_struct8 {t u e : TypeId} {fs : Array Field} {f : Field} (ht : P.underlying t = some (.struct fs)) (hfs : fs.toList = [f]) (hft : f.type = u) (hoff : f.offset = 0) (hct : P.cellsOf t = 1) (hcu : P.cellsOf u = 1) (hu : P.underlying u = some (.slice e)) (he : P.underlying e = some (.int .u8)) (hc : P.cellsOf e = 1) {d : D} (h : ArgFits P t d) :
    ∃ (l : List Nat) (cp : Nat), isBy l ∧ d = .agg [.list l.length (some cp) (nb l)] := by
  obtain ⟨n, hf⟩ := h
  simp only [ht] at hf
  obtain ⟨cs, rfl, hf⟩ := hf
  cases n with
  | zero => exact hf.elim
  | succ n =>
    simp only [Fits, ht] at hf
    obtain ⟨hl, hfd⟩ := hf
    have := hfd f (by rw [hfs]; simp)
    rw [hoff, hft, hcu, List.drop_zero, List.take_of_length_le (by omega)] at this
    obtain ⟨l, cp, h1, h2⟩ := fits_slice8 hu he hc this
    exact ⟨l, cp, h1, by rw [h2]⟩

theorem args_int {t : TypeId} {k : IntKind} (ht : P.underlying t = some (.int k)) {d : D} (h : ArgFits P t d) : ∃ i : Int, d = .v (.int k i) ∧ k.min ≤ i ∧ i ≤ k.max := by
  obtain ⟨n, hf⟩ := h
  simp only [ht] at hf
  cases n with
  | zero => exact hf.elim
  | succ n =>
    simp only [Fits, ht] at hf
    obtain ⟨i, hi, hw⟩ := hf
    cases hi
    simp only [Lit.wf, Bool.and_eq_true, decide_eq_true_eq] at hw
    exact ⟨i, rfl, hw.1, by omega⟩
end Go.Ev
