/-
  The evaluator: EzT1 EzM8.
-/
import Derived.Test.YtnghcoghbbapgaaGreatDoorEzXE
import Derived.Test.YtnghcoghbbapgaaGreatDoorEzS
/-
 Nodes as rows of cells.
-/
set_option linter.unusedSimpArgs false
set_option linter.unusedVariables false
namespace Go.Ev
open Go
theorem Z21s (l : List Int) (i : Nat) (x : Int) : (ints l).set i (.v (.int .i64 x)) = ints (l.set i x) := by simp [ints, List.map_set]
theorem Z21t (n : Nat) : (List.replicate n [D.v (.int .i64 0)]).flatten = ints (List.replicate n 0) := by
 induction n with
 | zero => rfl
 | succ n ih => rw [List.replicate_succ, List.flatten_cons, ih]; simp [ints, List.replicate_succ]
def qC (b : Bool) : List D := cond b qaC qbC
theorem qC_len (b : Bool) : (qC b).length = 27 := by cases b <;> rfl
def qsC (l : List Bool) : List D := (l.map qC).flatten
theorem Z185 (l : List Bool) : (qsC l).length = l.length * 27 := rows_len fun b _ => qC_len b
theorem Z1cm {l : List Bool} {i : Nat} (hi : i < l.length) : ((qsC l).drop (i * 27)).take 27 = qC l[i] := row_get (fun b _ => qC_len b) hi
theorem Z1wo {α : Type} {f : α → List D} {c : Nat} {l : List α} (h : ∀ x, x ∈ l → (f x).length = c) {i j : Nat} (hi : i < l.length) (hj : j < c) : ((l.map f).flatten)[i * c + j]? = (f l[i])[j]? := by
 rw [← row_get h hi, List.getElem?_take, if_pos hj, List.getElem?_drop]
structure Cd where
 n : Nd
 ec : Option Nat
 qc : Option Nat
def Cd.cells (x : Cd) : List D := .v (.int .i64 x.n.par) :: (x.n.pol.cells ++ [.list x.n.ex.length x.ec (oidsC x.n.ex), .list x.n.q.length x.qc (qsC x.n.q)])
theorem Cd.cells_len {x : Cd} (h : x.n.ok) : x.cells.length = 20 := by simp [Cd.cells, Oid.cells_len h.pol]
def cdsC (l : List Cd) : List D := (l.map Cd.cells).flatten
def nds (l : List Cd) : List Nd := l.map Cd.n
theorem Z1r (l : List Cd) : (nds l).length = l.length := by simp [nds]
def CdsOk (l : List Cd) : Prop := ∀ x, x ∈ l → x.n.ok
theorem Z142 {l : List Cd} {i : Nat} (h : i < l.length) : (nds l)[i]? = some l[i].n := by simp [nds, h]
theorem Zbf {l : List Cd} {i : Nat} (h : i < l.length) : (nds l)[i]'(by rw [Z1r]; exact h) = l[i].n := by simp [nds]
theorem CdsOk.nds {l : List Cd} (h : CdsOk l) : ∀ n, n ∈ nds l → n.ok := fun n hn => by
 obtain ⟨x, hx, rfl⟩ := List.mem_map.1 hn; exact h x hx
section
variable {l : List Cd} (h : CdsOk l)
include h
theorem cdsC_len : (cdsC l).length = l.length * 20 := rows_len fun x hx => Cd.cells_len (h x hx)
theorem Zd8 {i : Nat} (hi : i < l.length) : ((cdsC l).drop (i * 20)).take 20 = l[i].cells := row_get (fun x hx => Cd.cells_len (h x hx)) hi
theorem Z1wp {i j : Nat} (hi : i < l.length) (hj : j < 20) : (cdsC l)[i * 20 + j]? = l[i].cells[j]? := Z1wo (fun x hx => Cd.cells_len (h x hx)) hi hj
theorem Z21u {i : Nat} (hi : i < l.length) : (cdsC l)[i * 20]? = some (.v (.int .i64 l[i].n.par)) := by
 have := Z1wp h hi (j := 0) (by omega)
 rw [Nat.add_zero] at this
 rw [this]; rfl
theorem Z143 {i : Nat} (hi : i < l.length) : ((cdsC l).drop (i * 20 + 1)).take 17 = l[i].n.pol.cells := by
 have e := Zd8 h hi
 have hok := Oid.cells_len (h _ (List.getElem_mem hi)).pol
 have : (((cdsC l).drop (i * 20)).take 20).drop 1 = ((cdsC l).drop (i * 20 + 1)).take 19 := by rw [List.drop_take, List.drop_drop]
 rw [e] at this
 have h2 : (((cdsC l).drop (i * 20 + 1)).take 19).take 17 = ((cdsC l).drop (i * 20 + 1)).take 17 := by rw [List.take_take]; rfl
 rw [← h2, ← this]
 unfold Cd.cells
 rw [List.drop_succ_cons, List.drop_zero, List.take_left' hok]
theorem Z238 {i : Nat} (hi : i < l.length) : (cdsC l)[i * 20 + 18]? = some (.list l[i].n.ex.length l[i].ec (oidsC l[i].n.ex)) := by
 rw [Z1wp h hi (by omega)]
 have hok := Oid.cells_len (h _ (List.getElem_mem hi)).pol
 unfold Cd.cells
 rw [List.getElem?_cons_succ, List.getElem?_append_right (by omega), hok]; rfl
theorem cdsC_q {i : Nat} (hi : i < l.length) : (cdsC l)[i * 20 + 19]? = some (.list l[i].n.q.length l[i].qc (qsC l[i].n.q)) := by
 rw [Z1wp h hi (by omega)]
 have hok := Oid.cells_len (h _ (List.getElem_mem hi)).pol
 unfold Cd.cells
 rw [List.getElem?_cons_succ, List.getElem?_append_right (by omega), hok]; rfl
end
theorem Z92 (a b : List Cd) : cdsC (a ++ b) = cdsC a ++ cdsC b := by simp [cdsC]
theorem Z144 (a : Cd) : cdsC [a] = a.cells := by simp [cdsC]
end Go.Ev
/-
 Depths where only the first nodes are known to be right.
-/
set_option linter.unusedSimpArgs false
set_option linter.unusedVariables false
namespace Go.Ev
open Go
def To (l : List Nd) (n : Nat) : Prop := ∀ j, 0 < j → j < n → parN l j < j
theorem To.mono {l : List Nd} {n m : Nat} (h : To l n) (hm : m ≤ n) : To l m := fun j h0 hj => h j h0 (by omega)
theorem To.succ {l : List Nd} {n : Nat} (h : To l n) (hn : 0 < n → parN l n < n) : To l (n + 1) := fun j h0 hj => by
 by_cases e : j = n
 ·subst e; exact hn h0
 ·exact h j h0 (by omega)
theorem Shape.to {l : List Nd} (h : Shape l) : To l l.length := fun j h0 hj => (h.par hj h0).2
theorem Z201 {l : List Nd} {n : Nat} (h : To l n) : ∀ {f g i : Nat}, i < n → i ≤ f → i ≤ g → depF l f i = depF l g i
  | 0, 0, i, _, _, _ => rfl
  | 0, g + 1, i, _, hf, _ => by obtain rfl : i = 0 := by omega
                                simp [depF]
  | f + 1, 0, i, _, _, hg => by obtain rfl : i = 0 := by omega
                                simp [depF]
  | f + 1, g + 1, i, hi, hf, hg => by
    unfold depF
    by_cases h0 : i = 0
    · rw [if_pos h0, if_pos h0]
    · rw [if_neg h0, if_neg h0]
      have := h i (by omega) hi
      rw [Z201 h (f := f) (g := g) (by omega) (by omega) (by omega)]
theorem dep_to {l : List Nd} {n : Nat} (h : To l n) {i : Nat} (hi : i < n) (h0 : 0 < i) : dep l i = dep l (parN l i) + 1 := by
 obtain ⟨j, rfl⟩ : ∃ j, i = j + 1 := ⟨i - 1, by omega⟩
 have := h _ h0 hi
 unfold dep
 rw [depF, if_neg (by omega), Z201 h (f := j) (g := parN l (j + 1)) (by omega) (by omega) (by omega)]
theorem Z1v3 {l : List Nd} {i : Nat} (hi : i < l.length) : Zqn l (l.length - i) i = if oneE l i = 0 then Zqn l (l.length - (i + 1)) (i + 1) else oneE l i := by
 obtain ⟨f, hf⟩ : ∃ f, l.length - i = f + 1 := ⟨l.length - i - 1, by omega⟩
 rw [hf, Zqn, show l.length - (i + 1) = f by omega]
theorem Z239 {l : List Nd} {i : Nat} (hi : i < l.length) : oneE l i = if plE l i l[i] ≠ 0 then plE l i l[i] else ndE l[i] := by unfold oneE; rw [List.getElem?_eq_getElem hi]
theorem Z23a {l : List Nd} {i : Nat} (hi : i < l.length) : parN l i = l[i].par.toNat := by unfold parN; rw [List.getElem?_eq_getElem hi]
def dps (l : List Nd) (i n : Nat) : List Int := (List.range n).map fun j => if j < i then (dep l j : Int) else 0
theorem Z1wq (l : List Nd) (i n : Nat) : (dps l i n).length = n := by simp [dps]
theorem Z21v (l : List Nd) (n : Nat) : dps l 0 n = List.replicate n 0 := by
 unfold dps
 rw [List.eq_replicate_iff]
 simp
theorem Z23b {l : List Nd} {i n : Nat} : (dps l i n).set i (dep l i : Int) = dps l (i + 1) n := by
 refine Z6r (by simp [dps]) fun j hj => ?_
 have hj' : j < n := by simpa [dps] using hj
 by_cases he : i = j
 ·subst he
  rw [List.getElem?_set_self (by rw [Z1wq]; exact hj')]
  simp [dps, hj']
 ·rw [List.getElem?_set_ne he]
  simp only [dps, List.getElem?_map, List.getElem?_range hj', Option.map_some]
  by_cases h2 : j < i
  ·rw [if_pos h2, if_pos (by omega)]
  ·rw [if_neg h2, if_neg (by omega)]
theorem Z21w {l : List Nd} {n : Nat} : dps l 0 n = dps l 1 n := by
 unfold dps
 refine List.map_congr_left fun j _ => ?_
 by_cases h : j = 0
 ·subst h; rfl
 ·rw [if_neg (by omega), if_neg (by omega)]
theorem Z202 {l : List Nd} (i : Nat) : dep l i ≤ i := dep_le l i
end Go.Ev