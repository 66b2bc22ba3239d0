/-
 What arguments stand for, whatever their types: rows of cells as plain values.
-/
import Derived.Test.YthakkigkdhaihaaGreatDoorEzXD
set_option linter.unusedSimpArgs false
set_option linter.unusedVariables false
namespace Go.Ev
open Go
variable {P : Program}
def RowOf (P : Program) (t : TypeId) {α : Type} (f : α → List D) (p : α → Prop) : Prop := ∀ n ds, Fits P n t ds → ∃ x, p x ∧ ds = f x
theorem RowOf.int {t : TypeId} {k : IntKind} (ht : P.underlying t = some (.int k)) : RowOf P t (fun i : Int => [.v (.int k i)]) (fun i => k.min ≤ i ∧ i ≤ k.max) := fun n ds h => by
 cases n with
 | zero => exact h.elim
 | succ n =>
  simp only [Fits, ht] at h
  obtain ⟨i, hi, hw⟩ := h
  simp only [Lit.wf, Bool.and_eq_true, decide_eq_true_eq] at hw
  exact ⟨i, ⟨hw.1, by omega⟩, hi⟩
theorem RowOf.nat {t : TypeId} {k : IntKind} {b : Nat} (ht : P.underlying t = some (.int k)) (h0 : k.min = 0) (h1 : k.max + 1 = (b : Int)) : RowOf P t (fun x : Nat => [.v (.int k (x : Int))]) (fun x => x < b) := fun n ds h => by
 obtain ⟨i, ⟨h2, h3⟩, rfl⟩ := RowOf.int ht n ds h
 exact ⟨i.toNat, by omega, by show [D.v (.int k i)] = [D.v (.int k ((i.toNat : Nat) : Int))]; rw [show ((i.toNat : Nat) : Int) = i by omega]⟩
theorem RowOf.bool {t : TypeId} (ht : P.underlying t = some .bool) : RowOf P t (fun b : Bool => [.v (.bool b)]) (fun _ => True) := fun n ds h => by
 cases n with
 | zero => exact h.elim
 | succ n =>
  simp only [Fits, ht] at h
  obtain ⟨b, hb⟩ := h
  exact ⟨b, trivial, hb⟩
theorem Z17n {α : Type} {c : Nat} {f : α → List D} {p : α → Prop} : ∀ (m : Nat) (cs : List D), cs.length = m * c → (∀ i, i < m → ∃ x, p x ∧ (cs.drop (i * c)).take c = f x) → ∃ l : List α, l.length = m ∧ (∀ x, x ∈ l → p x) ∧ cs = (l.map f).flatten
 | 0, cs, hl, _ => ⟨[], rfl, by simp, by simp at hl; simpa using hl⟩
 | m + 1, cs, hl, h => by
  have hmul : (m + 1) * c = m * c + c := Nat.succ_mul m c
  obtain ⟨x, hx, hr⟩ := h 0 (by omega)
  obtain ⟨l, h1, h2, h3⟩ := Z17n (c := c) (f := f) (p := p) m (cs.drop c) (by simp; omega) (fun i hi => by
   obtain ⟨y, hy, hyr⟩ := h (i + 1) (by omega)
   refine ⟨y, hy, ?_⟩
   rw [List.drop_drop, ← hyr, show c + i * c = (i + 1) * c by rw [Nat.succ_mul]; omega])
  refine ⟨x :: l, by simp [h1], fun y hy => ?_, ?_⟩
  ·rcases List.mem_cons.1 hy with rfl | hy
   ·exact hx
   ·exact h2 y hy
  ·rw [List.map_cons, List.flatten_cons, ← hr, ← h3]
   simp
theorem RowOf.slice {t e : TypeId} {c : Nat} {α : Type} {f : α → List D} {p : α → Prop} (ht : P.underlying t = some (.slice e)) (hc : P.cellsOf e = c) (he : RowOf P e f p) :
  RowOf P t (fun q : List α × Nat => [.list q.1.length (some q.2) (q.1.map f).flatten]) (fun q => q.1.length ≤ q.2 ∧ q.2 ≤ maxLen ∧ ∀ x, x ∈ q.1 → p x) := fun n ds h => by
 cases n with
 | zero => exact h.elim
 | succ n =>
  simp only [Fits, ht, hc] at h
  obtain ⟨m, cp, cs, rfl, hm, hcp, hlen, hi⟩ := h
  obtain ⟨l, h1, h2, rfl⟩ := Z17n (f := f) (p := p) m cs hlen (fun i him => he n _ (hi i him))
  exact ⟨(l, cp), ⟨by simpa [h1] using hm, hcp, h2⟩, by simp [h1]⟩
theorem RowOf.array {t e : TypeId} {m c : Nat} {α : Type} {f : α → List D} {p : α → Prop} (ht : P.underlying t = some (.array m e)) (hc : P.cellsOf e = c) (hct : P.cellsOf t = m * c) (he : RowOf P e f p) :
  RowOf P t (fun l : List α => (l.map f).flatten) (fun l => l.length = m ∧ ∀ x, x ∈ l → p x) := fun n ds h => by
 cases n with
 | zero => exact h.elim
 | succ n =>
  simp only [Fits, ht, hc, hct] at h
  obtain ⟨l, h1, h2, rfl⟩ := Z17n (f := f) (p := p) m ds h.1 (fun i him => he n _ (h.2 i him))
  exact ⟨l, ⟨h1, h2⟩, rfl⟩
def Z9s (P : Program) (off len : Nat) (fs : List Field) {α : Type} (f : α → List D) (p : α → Prop) : Prop :=
 ∀ n ds, ds.length = len → (∀ g, g ∈ fs → off ≤ g.offset ∧ Fits P n g.type ((ds.drop (g.offset - off)).take (P.cellsOf g.type))) → ∃ x, p x ∧ ds = f x
theorem Z9s.nil {off : Nat} : Z9s P off 0 [] (fun _ : Unit => []) (fun _ => True) := fun n ds hl _ => ⟨(), trivial, List.length_eq_zero_iff.1 hl⟩
theorem Z9s.one {off c : Nat} {g : Field} {α : Type} {f : α → List D} {p : α → Prop} (ho : g.offset = off) (hc : P.cellsOf g.type = c) (hr : RowOf P g.type f p) : Z9s P off c [g] f p := fun n ds hl h => by
 have := (h g (by simp)).2
 rw [ho, Nat.sub_self, List.drop_zero, hc, List.take_of_length_le (by omega)] at this
 exact hr n ds this
theorem Z9s.cons {off c len : Nat} {g : Field} {fs : List Field} {α β : Type} {f : α → List D} {p : α → Prop} {h : β → List D} {q : β → Prop} (ho : g.offset = off) (hc : P.cellsOf g.type = c) (hr : RowOf P g.type f p)
  (hoff : ∀ g', g' ∈ fs → off + c ≤ g'.offset) (hfs : Z9s P (off + c) len fs h q) : Z9s P off (c + len) (g :: fs) (fun x : α × β => f x.1 ++ h x.2) (fun x => p x.1 ∧ q x.2) := fun n ds hl hh => by
 have h0 := (hh g (by simp)).2
 rw [ho, Nat.sub_self, List.drop_zero, hc] at h0
 obtain ⟨x, hx, h1⟩ := hr n _ h0
 obtain ⟨y, hy, h2⟩ := hfs n (ds.drop c) (by simp; omega) (fun g' hg' => by
  have h3 := (hh g' (by simp [hg'])).2
  have h4 := hoff g' hg'
  refine ⟨h4, ?_⟩
  rw [List.drop_drop, show c + (g'.offset - (off + c)) = g'.offset - off by omega]
  exact h3)
 refine ⟨(x, y), ⟨hx, hy⟩, ?_⟩
 show ds = f x ++ h y
 rw [← h1, ← h2]
 simp
theorem RowOf.struct {t : TypeId} {fs : Array Field} {len : Nat} {α : Type} {f : α → List D} {p : α → Prop} (ht : P.underlying t = some (.struct fs)) (hc : P.cellsOf t = len) (hf : Z9s P 0 len fs.toList f p) : RowOf P t f p := fun n ds h => by
 cases n with
 | zero => exact h.elim
 | succ n =>
  simp only [Fits, ht, hc] at h
  exact hf n ds h.1 (fun g hg => ⟨Nat.zero_le _, by simpa using h.2 g hg⟩)
theorem RowOf.agg {t : TypeId} {α : Type} {f : α → List D} {p : α → Prop} (h : RowOf P t f p) (ht : ∃ fs, P.underlying t = some (.struct fs)) {d : D} (hd : ArgFits P t d) : ∃ x, p x ∧ d = .agg (f x) := by
 obtain ⟨n, hf⟩ := hd
 obtain ⟨fs, ht⟩ := ht
 simp only [ht] at hf
 obtain ⟨cs, rfl, hf⟩ := hf
 obtain ⟨x, hx, rfl⟩ := h n cs hf
 exact ⟨x, hx, rfl⟩
theorem RowOf.arg {t : TypeId} {α : Type} {f : α → D} {p : α → Prop} (h : RowOf P t (fun x => [f x]) p) (h1 : ∀ fs, P.underlying t ≠ some (.struct fs)) (h2 : ∀ m e, P.underlying t ≠ some (.array m e)) {d : D} (hd : ArgFits P t d) : ∃ x, p x ∧ d = f x := by
 obtain ⟨n, hf⟩ := hd
 have hf' : Fits P n t [d] := by
  split at hf
  ·rename_i fs he; exact absurd he (h1 _)
  ·rename_i m e he; exact absurd he (h2 _ _)
  ·exact hf
 obtain ⟨x, hx, he⟩ := h n _ hf'
 exact ⟨x, hx, by simpa using he⟩
theorem flat1 {α : Type} (g : α → D) : ∀ l : List α, (l.map fun x => [g x]).flatten = l.map g
 | [] => rfl
 | x :: l => by simp [flat1 g l]
end Go.Ev