/-
 Nodes by their parents and policies; the node with a line.
-/
import Derived.Test.YtnghcoghbbapgaaGreatDoorEzX1
import Derived.Test.YtnghcoghbbapgaaGreatDoorEzH2
set_option linter.unusedSimpArgs false
set_option linter.unusedVariables false
set_option maxRecDepth 100000
namespace Go.Ev
open Go Go.Proofs
def keyC (p : Int) (o : Oid) : List D := .v (.int .i64 p) :: o.cells
def k18 : List Kd := .int :: k17
theorem kinds_key : kinds Tryz.prog 8 86 = some k18 := by kernel_rfl
theorem row_key : (Tryz.prog.underlying 86).any isRow = true := by kernel_rfl
theorem Z1tc (x : Int) {c : List D} (h : c.length = 17) : putL 18 [(D.v (.int .i64 x)), (D.v (.int .u8 (0 : Int))), (D.v (.int .u32 (0 : Int))), (D.v (.int .u32 (0 : Int))), (D.v (.int .u32 (0 : Int))), (D.v (.int .u32 (0 : Int))), (D.v (.int .u32 (0 : Int))), (D.v (.int .u32 (0 : Int))), (D.v (.int .u32 (0 : Int))), (D.v (.int .u32 (0 : Int))), (D.v (.int .u32 (0 : Int))), (D.v (.int .u32 (0 : Int))), (D.v (.int .u32 (0 : Int))), (D.v (.int .u32 (0 : Int))), (D.v (.int .u32 (0 : Int))), (D.v (.int .u32 (0 : Int))), (D.v (.int .u32 (0 : Int))), (D.v (.int .u32 (0 : Int)))] 1 17 c = .v (.int .i64 x) :: c := by
 simp [putL]
theorem key_ok (p : Int) {o : Oid} (h : o.ok) : keyOk Tryz.prog 86 (.agg (keyC p o)) = true := by
 unfold keyOk
 dsimp only
 rw [row_key, kinds_key]
 have : (keyC p o).length = 18 := by simp [keyC, Oid.cells_len h]
 rw [Bool.true_and]
 dsimp only
 rw [this]
 rfl
theorem key_eq (p q : Int) {o u : Oid} (h : o.ok) (hu : u.ok) : keyEq Tryz.prog 86 (.agg (keyC p o)) (.agg (keyC q u)) = some (decide (p = q ∧ o = u)) := by
 unfold keyEq
 dsimp only
 rw [kinds_key, Option.bind_some]
 unfold k18 keyC
 simp only [cellsEq, scalarEq, if_true, Option.bind_some, oid_eq h hu]
 congr 1
 by_cases h1 : p = q <;> by_cases h2 : o = u <;> simp [h1, h2]
theorem Z1wy {l : List Cd} (h : CdsOk l) {i : Nat} (hi : i < l.length) : (polN' (nds l) i).ok := by rw [Z1a5 hi]; exact (h _ (List.getElem_mem hi)).pol
def eK (N : List Nd) (f i : Nat) : List (D × D) := (List.range' i f).map fun j => (.agg (keyC (parZ N j) (polN' N j)), .v (.int .i64 (j : Int)))
theorem Z23q (N : List Nd) (f : Nat) : eK N (f + 1) 0 = eK N f 0 ++ [(.agg (keyC (parZ N f) (polN' N f)), .v (.int .i64 (f : Int)))] := by
 unfold eK
 rw [List.range'_1_concat, List.map_append]
 simp
theorem Z1td {l : List Cd} (h : CdsOk l) (p : Int) {o : Oid} (ho : o.ok) : ∀ (f i : Nat), i + f ≤ l.length → findM (keyEq Tryz.prog 86) (.agg (keyC p o)) (eK (nds l) f i) i = some ((kidF (nds l) p o f i).map fun j => (j, .v (.int .i64 (j : Int))))
 | 0, i, _ => rfl
 | f + 1, i, hi => by
  have ih := Z1td h p ho f (i + 1) (by omega)
  have e : eK (nds l) (f + 1) i = (.agg (keyC (parZ (nds l) i) (polN' (nds l) i)), .v (.int .i64 (i : Int))) :: eK (nds l) f (i + 1) := by
   unfold eK
   rw [List.range'_succ]; rfl
  rw [e]
  unfold findM kidF
  dsimp only
  rw [key_eq _ _ ho (Z1wy h (by omega)), Option.bind_some, ih]
  by_cases hc : parZ (nds l) i = p ∧ polN' (nds l) i = o
  ·rw [if_pos hc, decide_eq_true ⟨hc.1.symm, hc.2.symm⟩]; rfl
  ·rw [if_neg hc, decide_eq_false (fun q => hc ⟨q.1.symm, q.2.symm⟩)]; rfl
theorem Z23r {l : List Cd} (h : CdsOk l) (hv : Valid (nds l)) {i : Nat} (hi : i < l.length) : putM (keyEq Tryz.prog 86) (.agg (keyC (parZ (nds l) i) (polN' (nds l) i))) (.v (.int .i64 (i : Int))) (eK (nds l) i 0) = some (eK (nds l) (i + 1) 0) := by
 unfold putM
 rw [Z1td h _ (Z1wy h hi) i 0 (by omega)]
 cases hk : kidF (nds l) (parZ (nds l) i) (polN' (nds l) i) i 0 with
 | none => rw [Z23q]; rfl
 | some j =>
  obtain ⟨_, h2, h3, h4⟩ := Z1n7 hk
  have := hv.uniq (by rw [Z1r]; omega) (by rw [Z1r]; exact hi) h3 h4
  omega
theorem Z1te {l : List Cd} (h : CdsOk l) (p : Int) {o : Oid} (ho : o.ok) : lookM (keyEq Tryz.prog 86) (.agg (keyC p o)) (.v (.int .i64 0)) (eK (nds l) l.length 0) = some (match kidO (nds l) p o with | none => (.v (.int .i64 0), false) | some j => (.v (.int .i64 (j : Int)), true)) := by
 unfold lookM kidO
 rw [Z1td h p ho l.length 0 (by omega), Z1r]
 cases kidF (nds l) p o l.length 0 <;> rfl
theorem Z1qx {m : Nat} {l : List Cd} (h : CdsB l) (hv : Valid (nds l)) (cp : Option Nat) : ∀ (c i : Nat), l.length - i < c → i ≤ l.length →
  Zoj m c l.length cp (cdsC l) (l.length : Int) (i : Int) (eK (nds l) i 0) = some (.mp (eK (nds l) l.length 0))
 | 0, i, hc, hi => by omega
 | c + 1, i, hc, hi => by
  have hB := h.len
  rw [Z1hg]
  simp only [Int.toNat_natCast]
  by_cases hlt : i < l.length
  ·have hx : l[i].n.ok := h.ok _ (List.getElem_mem hlt)
   have hcl := Cd.cells_len hx
   refine st_cT (decide_eq_true (by omega)) ?_
   refine st_if ⟨by omega, by omega⟩ ?_
   refine st_if (by rw [cdsC_len h.ok]; omega) ?_
   rw [Zd8 h.ok hlt]
   refine st_if hcl ?_
   refine Z0 (Z3g (Cd.at0 l[i])) ?_
   rw [Cd.pol_at hx]
   have hpl := Oid.cells_len hx.pol
   refine st_if hpl ?_
   rw [Z1tc _ hpl]
   have e1 : parZ (nds l) i = l[i].n.par := by rw [Zvm (by rw [Z1r]; exact hlt), Zbf hlt]
   have e2 := Z1a5 hlt
   have hk : D.agg (D.v (.int .i64 l[i].n.par) :: l[i].n.pol.cells) = .agg (keyC (parZ (nds l) i) (polN' (nds l) i)) := by rw [e1, e2]; rfl
   rw [hk]
   refine st_if (key_ok _ (Z1wy h.ok hlt)) ?_
   refine Z0 (Z23r h.ok hv hlt) ?_
   rw [Z14 (by omega)]
   exact Z1qx h hv cp c (i + 1) (by omega) (by omega)
  ·obtain rfl : i = l.length := by omega
   refine st_cF (decide_eq_false (by omega)) ?_
   rfl
theorem Z1nc {l : List Cd} (h : CdsB l) (hv : Valid (nds l)) (cp : Option Nat) : Z95 [.agg [.list l.length cp (cdsC l)]] = some (.mp (eK (nds l) l.length 0)) := by
 show Zvn M l.length cp (cdsC l) = _
 unfold Zvn
 have hB := h.len
 exact Z1qx (m := M) h hv cp M 0 (by unfold M; omega) (by omega)
end Go.Ev