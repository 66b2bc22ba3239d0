/-
 Records without qualifiers: what their checks return.
-/
import Derived.Test.YthakkigkdhaihaaGreatDoorEzL4
import Derived.Test.YthakkigkdhaihaaGreatDoorEzOe
import Derived.Test.YthakkigkdhaihaaGreatDoorEzO2
set_option linter.unusedSimpArgs false
set_option linter.unusedVariables false
namespace Go.Ev
open Go
structure Pol where
 id : Oid
 qn : Nat
 qc : Option Nat
 qs : List D
def Pol.cells (p : Pol) : List D := p.id.cells ++ [.list p.qn p.qc p.qs]
theorem Pol.cells_len {p : Pol} (h : p.id.ok) : p.cells.length = 18 := by simp [Pol.cells, Oid.cells_len h]
theorem Pol.cells_id {p : Pol} (h : p.id.ok) : p.cells.take 17 = p.id.cells := by unfold Pol.cells; rw [List.take_left' (Oid.cells_len h)]
theorem Pol.cells_q {p : Pol} (h : p.id.ok) : p.cells[17]? = some (.list p.qn p.qc p.qs) := by
 unfold Pol.cells
 rw [List.getElem?_append_right (Nat.le_of_eq (Oid.cells_len h)), Oid.cells_len h]; rfl
def polsC (l : List Pol) : List D := (l.map Pol.cells).flatten
structure Mp where
 i : Oid
 s : Oid
deriving DecidableEq
structure Mp.ok (m : Mp) : Prop where
 i : m.i.ok
 s : m.s.ok
def Mp.cells (m : Mp) : List D := m.i.cells ++ m.s.cells
theorem Mp.cells_len {m : Mp} (h : m.ok) : m.cells.length = 34 := by simp [Mp.cells, Oid.cells_len h.i, Oid.cells_len h.s]
theorem Mp.cells_i {m : Mp} (h : m.ok) : m.cells.take 17 = m.i.cells := by unfold Mp.cells; rw [List.take_left' (Oid.cells_len h.i)]
theorem Mp.cells_s {m : Mp} (h : m.ok) : (m.cells.drop 17).take 17 = m.s.cells := by
 unfold Mp.cells
 rw [List.drop_left' (Oid.cells_len h.i), List.take_of_length_le (by rw [Oid.cells_len h.s]; omega)]
def mapsC (l : List Mp) : List D := (l.map Mp.cells).flatten
theorem mp_eq {m q : Mp} (h : m.ok) (hq : q.ok) : cellsEq (k17 ++ k17) m.cells q.cells = some (decide (m = q)) := by
 unfold Mp.cells
 rw [cellsEq_append (oid_eq h.i hq.i) (oid_eq h.s hq.s)]
 obtain ⟨a, b⟩ := m
 obtain ⟨c, d⟩ := q
 simp only [Mp.mk.injEq, Bool.decide_and]
@[reducible] def k34 : List Kd := [.int, .int, .int, .int, .int, .int, .int, .int, .int, .int, .int, .int, .int, .int, .int, .int, .int, .int, .int, .int, .int, .int, .int, .int, .int, .int, .int, .int, .int, .int, .int, .int, .int, .int]
theorem mp_eq' {m q : Mp} (h : m.ok) (hq : q.ok) : cellsEq k34 m.cells q.cells = some (decide (m = q)) := mp_eq h hq
theorem chk_qa : Z42 [.agg qaC] = some (.v (.int .i64 0)) := by kernel_rfl
theorem chk_qb : Z42 [.agg qbC] = some (.v (.int .i64 0)) := by kernel_rfl
structure QOk (n : Nat) (qs : List D) : Prop where
 le : n ≤ 8
 len : n * 27 ≤ qs.length
 one : ∀ k, k < n → (qs.drop (k * 27)).take 27 = qaC ∨ (qs.drop (k * 27)).take 27 = qbC
theorem QOk.zero (qs : List D) : QOk 0 qs := ⟨by omega, by omega, fun k h => by omega⟩
theorem QOk.chk {n : Nat} {qs : List D} (h : QOk n qs) {k : Nat} (hk : k < n) : Z42 [.agg ((qs.drop (k * 27)).take 27)] = some (.v (.int .i64 0)) := by
 rcases h.one k hk with e | e <;> rw [e]
 ·exact chk_qa
 ·exact chk_qb
theorem QOk.at_len {n : Nat} {qs : List D} (h : QOk n qs) {k : Nat} (hk : k < n) : ((qs.drop (k * 27)).take 27).length = 27 := by
 have := h.len
 rw [List.length_take, List.length_drop]; omega
def firstE (f : Nat → Int) : Nat → Nat → Int
 | 0, _ => 0
 | k + 1, i => if f i = 0 then firstE f k (i + 1) else f i
def polErr (l : List Pol) (i : Nat) : Int := match l[i]? with
 | none => 0
 | some p => if p.id.good = false then 1 else if ((l.take i).map Pol.id).contains p.id then 14 else 0
def mapErr (l : List Mp) (i : Nat) : Int := match l[i]? with
 | none => 0
 | some m => if m.i.good = false then 1 else if m.s.good = false then 1 else if (l.take i).contains m then 14 else 0
section
variable {l : List Pol}
theorem Zx6 (h : ∀ p, p ∈ l → p.id.ok) : (polsC l).length = l.length * 18 := rows_len fun x hx => Pol.cells_len (h x hx)
theorem Zx7 (h : ∀ p, p ∈ l → p.id.ok) {i : Nat} (hi : i < l.length) : ((polsC l).drop (i * 18)).take 18 = l[i].cells := row_get (fun x hx => Pol.cells_len (h x hx)) hi
theorem Z1ik (h : ∀ p, p ∈ l → p.id.ok) {i : Nat} (hi : i < l.length) : ((polsC l).drop (i * 18)).take 17 = l[i].id.cells := by
 rw [← Pol.cells_id (h _ (List.getElem_mem hi)), ← Zx7 h hi, List.take_take]; rfl
theorem Z1mr (h : ∀ p, p ∈ l → p.id.ok) {i : Nat} (hi : i < l.length) : (polsC l)[i * 18 + 17]? = some (.list l[i].qn l[i].qc l[i].qs) := by
 have := Pol.cells_q (h _ (List.getElem_mem hi))
 rw [← Zx7 h hi, List.getElem?_take, if_pos (by omega), List.getElem?_drop] at this
 exact this
end
def Zcp {α : Type} [DecidableEq α] (l : List α) (x : α) (k : Nat) : Bool := (l.drop k).any fun y => decide (y = x)
theorem Znl {α : Type} [DecidableEq α] {l : List α} {x : α} {k : Nat} (hk : k < l.length) : Zcp l x k = (decide (l[k] = x) || Zcp l x (k + 1)) := by
 unfold Zcp; rw [List.drop_eq_getElem_cons hk, List.any_cons]
theorem Zqc {α : Type} [DecidableEq α] {l : List α} {x : α} {k : Nat} (hk : l.length ≤ k) : Zcp l x k = false := by
 unfold Zcp; rw [List.drop_eq_nil_of_le hk]; rfl
theorem Znm {α : Type} [DecidableEq α] {l : List α} {x : α} : Zcp l x 0 = l.contains x := by
 unfold Zcp
 rw [List.drop_zero, List.contains_eq_any_beq]
 congr 1
 funext y
 by_cases h : y = x
 ·subst h; simp
 ·rw [decide_eq_false h]; symm; rw [beq_eq_false_iff_ne]; exact fun e => h e.symm
end Go.Ev