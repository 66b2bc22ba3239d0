/-
  Records without qualifiers: what their checks return.
-/
import Derived.Test.YtjgpddbebgndbaaGreatDoorEzL4
import Derived.Test.YtjgpddbebgndbaaGreatDoorEzS
set_option linter.unusedSimpArgs false
set_option linter.unusedVariables false
namespace Go.Ev
open Go

/-! ### Rows of numbers compared -/
theorem cellsEq_n32 : ∀ (l1 l2 : List Nat), l1.length = l2.length → cellsEq (List.replicate l1.length .int) (n32 l1) (n32 l2) = some (decide (l1 = l2))
  | [], [], _ => rfl
  | a :: l1, b :: l2, h => by
    have ih := cellsEq_n32 l1 l2 (by simpa using h)
    simp only [n32, List.map_cons] at ih ⊢
    simp only [List.length_cons, List.replicate_succ, cellsEq, scalarEq, if_true, Option.bind_some, ih]
    congr 1
    by_cases h1 : a = b
    · subst h1; simp
    · have : ((a : Int) == (b : Int)) = false := by rw [beq_eq_false_iff_ne]; omega
      rw [this, decide_eq_false (fun h => h1 (List.cons.inj h).1)]; rfl
  | [], _ :: _, h => by simp at h
  | _ :: _, [], h => by simp at h
theorem cellsEq_append : ∀ {k1 k2 : List Kd} {x1 x2 y1 y2 : List D} {b c : Bool}, cellsEq k1 x1 y1 = some b → cellsEq k2 x2 y2 = some c → cellsEq (k1 ++ k2) (x1 ++ x2) (y1 ++ y2) = some (b && c)
  | [], k2, [], x2, [], y2, b, c, h1, h2 => by cases h1; simpa using h2
  | q :: k1, k2, x :: x1, x2, y :: y1, y2, b, c, h1, h2 => by
    simp only [cellsEq] at h1
    obtain ⟨b1, hb1, h3⟩ := Option.bind_eq_some_iff.1 h1
    obtain ⟨b2, hb2, h4⟩ := Option.bind_eq_some_iff.1 h3
    cases h4
    simp only [List.cons_append, cellsEq, hb1, Option.bind_some, cellsEq_append hb2 h2, Bool.and_assoc]
  | [], k2, _ :: _, x2, y1, y2, b, c, h1, h2 => by cases y1 <;> simp [cellsEq] at h1
  | [], k2, [], x2, _ :: _, y2, b, c, h1, h2 => by simp [cellsEq] at h1
  | q :: k1, k2, [], x2, y1, y2, b, c, h1, h2 => by cases y1 <;> simp [cellsEq] at h1
  | q :: k1, k2, x :: x1, x2, [], y2, b, c, h1, h2 => by simp [cellsEq] at h1

@[reducible] def k17 : List Kd := [.int, .int, .int, .int, .int, .int, .int, .int, .int, .int, .int, .int, .int, .int, .int, .int, .int]
theorem oid_eq {o p : Oid} (h : o.ok) (hp : p.ok) : cellsEq k17 o.cells p.cells = some (decide (o = p)) := by
  have e : k17 = .int :: List.replicate o.a.length .int := by rw [h.len]; rfl
  rw [e, Oid.cells, Oid.cells]
  simp only [cellsEq, scalarEq, if_true, Option.bind_some, cellsEq_n32 o.a p.a (by rw [h.len, hp.len])]
  congr 1
  obtain ⟨n, a⟩ := o
  obtain ⟨n', a'⟩ := p
  simp only [Oid.mk.injEq]
  by_cases h1 : n = n'
  · subst h1; simp
  · have : ((n : Int) == (n' : Int)) = false := by rw [beq_eq_false_iff_ne]; omega
    rw [this]; simp [h1]

/-! ### Policies and mappings -/
structure Pol where
  id : Oid
  qn : Nat
  qc : Option Nat
  qs : List D
def Pol.cells (p : Pol) : List D := p.id.cells ++ [.list p.qn p.qc p.qs]
theorem Pol.cells_len {p : Pol} (h : p.id.ok) : p.cells.length = 18 := by simp [Pol.cells, Oid.cells_len h]
theorem Pol.cells_id {p : Pol} (h : p.id.ok) : p.cells.take 17 = p.id.cells := by unfold Pol.cells; rw [List.take_left' (Oid.cells_len h)]
theorem Pol.cells_q {p : Pol} (h : p.id.ok) : p.cells[17]? = some (.list p.qn p.qc p.qs) := by
  unfold Pol.cells
  rw [List.getElem?_append_right (Nat.le_of_eq (Oid.cells_len h)), Oid.cells_len h]; rfl
def polsC (l : List Pol) : List D := (l.map Pol.cells).flatten
structure Mp where
  i : Oid
  s : Oid
deriving DecidableEq
structure Mp.ok (m : Mp) : Prop where
  i : m.i.ok
  s : m.s.ok
def Mp.cells (m : Mp) : List D := m.i.cells ++ m.s.cells
theorem Mp.cells_len {m : Mp} (h : m.ok) : m.cells.length = 34 := by simp [Mp.cells, Oid.cells_len h.i, Oid.cells_len h.s]
theorem Mp.cells_i {m : Mp} (h : m.ok) : m.cells.take 17 = m.i.cells := by unfold Mp.cells; rw [List.take_left' (Oid.cells_len h.i)]
theorem Mp.cells_s {m : Mp} (h : m.ok) : (m.cells.drop 17).take 17 = m.s.cells := by
  unfold Mp.cells
  rw [List.drop_left' (Oid.cells_len h.i), List.take_of_length_le (by rw [Oid.cells_len h.s]; omega)]
def mapsC (l : List Mp) : List D := (l.map Mp.cells).flatten
theorem mp_eq {m q : Mp} (h : m.ok) (hq : q.ok) : cellsEq (k17 ++ k17) m.cells q.cells = some (decide (m = q)) := by
  unfold Mp.cells
  rw [cellsEq_append (oid_eq h.i hq.i) (oid_eq h.s hq.s)]
  obtain ⟨a, b⟩ := m
  obtain ⟨c, d⟩ := q
  simp only [Mp.mk.injEq, Bool.decide_and]

@[reducible] def k34 : List Kd := [.int, .int, .int, .int, .int, .int, .int, .int, .int, .int, .int, .int, .int, .int, .int, .int, .int, .int, .int, .int, .int, .int, .int, .int, .int, .int, .int, .int, .int, .int, .int, .int, .int, .int]
theorem mp_eq' {m q : Mp} (h : m.ok) (hq : q.ok) : cellsEq k34 m.cells q.cells = some (decide (m = q)) := mp_eq h hq
/-- The cells of the two qualifiers of the examples. -/
def cellsOf1 : List D → List D
  | [.agg cs] => cs
  | _ => []
def qaC : List D := cellsOf1 q_qualifiers_Check_a0
def qbC : List D := cellsOf1 q_qualifiers_Check_a1
theorem chk_qa : sp_qualifiers_Check [.agg qaC] = some (.v (.int .i64 0)) := by kernel_rfl
theorem chk_qb : sp_qualifiers_Check [.agg qbC] = some (.v (.int .i64 0)) := by kernel_rfl
/-- At most 8 qualifiers, each one of these two. -/
structure QOk (n : Nat) (qs : List D) : Prop where
  le : n ≤ 8
  len : n * 27 ≤ qs.length
  one : ∀ k, k < n → (qs.drop (k * 27)).take 27 = qaC ∨ (qs.drop (k * 27)).take 27 = qbC
theorem QOk.zero (qs : List D) : QOk 0 qs := ⟨by omega, by omega, fun k h => by omega⟩
theorem QOk.chk {n : Nat} {qs : List D} (h : QOk n qs) {k : Nat} (hk : k < n) : sp_qualifiers_Check [.agg ((qs.drop (k * 27)).take 27)] = some (.v (.int .i64 0)) := by
  rcases h.one k hk with e | e <;> rw [e]
  · exact chk_qa
  · exact chk_qb
theorem QOk.at_len {n : Nat} {qs : List D} (h : QOk n qs) {k : Nat} (hk : k < n) : ((qs.drop (k * 27)).take 27).length = 27 := by
  have := h.len
  rw [List.length_take, List.length_drop]; omega

/-- The first answer that is not 0. -/
def firstE (f : Nat → Int) : Nat → Nat → Int
  | 0, _ => 0
  | k + 1, i => if f i = 0 then firstE f k (i + 1) else f i

/-- What is wrong with a policy, a mapping: alone, and with those before it. -/
def polErr (l : List Pol) (i : Nat) : Int := match l[i]? with
  | none => 0
  | some p => if p.id.good = false then 1 else if ((l.take i).map Pol.id).contains p.id then 14 else 0
def mapErr (l : List Mp) (i : Nat) : Int := match l[i]? with
  | none => 0
  | some m => if m.i.good = false then 1 else if m.s.good = false then 1 else if (l.take i).contains m then 14 else 0

section
variable {l : List Pol}
theorem polsC_len (h : ∀ p, p ∈ l → p.id.ok) : (polsC l).length = l.length * 18 := rows_len fun x hx => Pol.cells_len (h x hx)
theorem polsC_get (h : ∀ p, p ∈ l → p.id.ok) {i : Nat} (hi : i < l.length) : ((polsC l).drop (i * 18)).take 18 = l[i].cells := row_get (fun x hx => Pol.cells_len (h x hx)) hi
theorem polsC_id (h : ∀ p, p ∈ l → p.id.ok) {i : Nat} (hi : i < l.length) : ((polsC l).drop (i * 18)).take 17 = l[i].id.cells := by
  rw [← Pol.cells_id (h _ (List.getElem_mem hi)), ← polsC_get h hi, List.take_take]; rfl
theorem polsC_q (h : ∀ p, p ∈ l → p.id.ok) {i : Nat} (hi : i < l.length) : (polsC l)[i * 18 + 17]? = some (.list l[i].qn l[i].qc l[i].qs) := by
  have := Pol.cells_q (h _ (List.getElem_mem hi))
  rw [← polsC_get h hi, List.getElem?_take, if_pos (by omega), List.getElem?_drop] at this
  exact this
end

/-- From a place on: is it there? -/
def hasFrom {α : Type} [DecidableEq α] (l : List α) (x : α) (k : Nat) : Bool := (l.drop k).any fun y => decide (y = x)
theorem hasFrom_step {α : Type} [DecidableEq α] {l : List α} {x : α} {k : Nat} (hk : k < l.length) : hasFrom l x k = (decide (l[k] = x) || hasFrom l x (k + 1)) := by
  unfold hasFrom; rw [List.drop_eq_getElem_cons hk, List.any_cons]
theorem hasFrom_end {α : Type} [DecidableEq α] {l : List α} {x : α} {k : Nat} (hk : l.length ≤ k) : hasFrom l x k = false := by
  unfold hasFrom; rw [List.drop_eq_nil_of_le hk]; rfl
theorem hasFrom_zero {α : Type} [DecidableEq α] {l : List α} {x : α} : hasFrom l x 0 = l.contains x := by
  unfold hasFrom
  rw [List.drop_zero, List.contains_eq_any_beq]
  congr 1
  funext y
  by_cases h : y = x
  · subst h; simp
  · rw [decide_eq_false h]; symm; rw [beq_eq_false_iff_ne]; exact fun e => h e.symm
end Go.Ev
