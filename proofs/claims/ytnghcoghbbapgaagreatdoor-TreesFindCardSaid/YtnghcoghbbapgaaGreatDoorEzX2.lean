/-
 Nodes by their parents and policies; the node with a line.
-/
import Derived.Test.YtnghcoghbbapgaaGreatDoorEzX1
import Derived.Test.YtnghcoghbbapgaaGreatDoorEzH2
set_option linter.unusedSimpArgs false
set_option linter.unusedVariables false
set_option maxRecDepth 100000
namespace Go.Ev
open Go Go.Proofs
def keyC (p : Int) (o : Oid) : List D := .v (.int .i64 p) :: o.cells
def k18 : List Kd := .int :: k17
theorem kinds_key : kinds Tryz.prog 8 86 = some k18 := by kernel_rfl
theorem row_key : (Tryz.prog.underlying 86).any isRow = true := by kernel_rfl
theorem Z1ls (x : Int) {c : List D} (h : c.length = 17) : putL 18 [(D.v (.int .i64 x)), (D.v (.int .u8 (0 : Int))), (D.v (.int .u32 (0 : Int))), (D.v (.int .u32 (0 : Int))), (D.v (.int .u32 (0 : Int))), (D.v (.int .u32 (0 : Int))), (D.v (.int .u32 (0 : Int))), (D.v (.int .u32 (0 : Int))), (D.v (.int .u32 (0 : Int))), (D.v (.int .u32 (0 : Int))), (D.v (.int .u32 (0 : Int))), (D.v (.int .u32 (0 : Int))), (D.v (.int .u32 (0 : Int))), (D.v (.int .u32 (0 : Int))), (D.v (.int .u32 (0 : Int))), (D.v (.int .u32 (0 : Int))), (D.v (.int .u32 (0 : Int))), (D.v (.int .u32 (0 : Int)))] 1 17 c = .v (.int .i64 x) :: c := by
 simp [putL]
theorem key_ok (p : Int) {o : Oid} (h : o.ok) : keyOk Tryz.prog 86 (.agg (keyC p o)) = true := by
 unfold keyOk
 dsimp only
 rw [row_key, kinds_key]
 have : (keyC p o).length = 18 := by simp [keyC, Oid.cells_len h]
 rw [Bool.true_and]
 dsimp only
 rw [this]
 rfl
theorem key_eq (p q : Int) {o u : Oid} (h : o.ok) (hu : u.ok) : keyEq Tryz.prog 86 (.agg (keyC p o)) (.agg (keyC q u)) = some (decide (p = q ∧ o = u)) := by
 unfold keyEq
 dsimp only
 rw [kinds_key, Option.bind_some]
 unfold k18 keyC
 simp only [cellsEq, scalarEq, if_true, Option.bind_some, oid_eq h hu]
 congr 1
 by_cases h1 : p = q <;> by_cases h2 : o = u <;> simp [h1, h2]
theorem Z1iz {l : List Cd} (h : CdsOk l) {i : Nat} (hi : i < l.length) : (polN' (nds l) i).ok := by rw [Z19k hi]; exact (h _ (List.getElem_mem hi)).pol
def eK (N : List Nd) (f i : Nat) : List (D × D) := (List.range' i f).map fun j => (.agg (keyC (parZ N j) (polN' N j)), .v (.int .i64 (j : Int)))
theorem Z1nu (N : List Nd) (f : Nat) : eK N (f + 1) 0 = eK N f 0 ++ [(.agg (keyC (parZ N f) (polN' N f)), .v (.int .i64 (f : Int)))] := by
 unfold eK
 rw [List.range'_1_concat, List.map_append]
 simp
theorem Z1g2 {l : List Cd} (h : CdsOk l) (p : Int) {o : Oid} (ho : o.ok) : ∀ (f i : Nat), i + f ≤ l.length → findM (keyEq Tryz.prog 86) (.agg (keyC p o)) (eK (nds l) f i) i = some ((kidF (nds l) p o f i).map fun j => (j, .v (.int .i64 (j : Int))))
 | 0, i, _ => rfl
 | f + 1, i, hi => by
  have ih := Z1g2 h p ho f (i + 1) (by omega)
  have e : eK (nds l) (f + 1) i = (.agg (keyC (parZ (nds l) i) (polN' (nds l) i)), .v (.int .i64 (i : Int))) :: eK (nds l) f (i + 1) := by
   unfold eK
   rw [List.range'_succ]; rfl
  rw [e]
  unfold findM kidF
  dsimp only
  rw [key_eq _ _ ho (Z1iz h (by omega)), Option.bind_some, ih]
  by_cases hc : parZ (nds l) i = p ∧ polN' (nds l) i = o
  ·rw [if_pos hc, decide_eq_true ⟨hc.1.symm, hc.2.symm⟩]; rfl
  ·rw [if_neg hc, decide_eq_false (fun q => hc ⟨q.1.symm, q.2.symm⟩)]; rfl
theorem Z1nv {l : List Cd} (h : CdsOk l) (hv : Valid (nds l)) {i : Nat} (hi : i < l.length) : putM (keyEq Tryz.prog 86) (.agg (keyC (parZ (nds l) i) (polN' (nds l) i))) (.v (.int .i64 (i : Int))) (eK (nds l) i 0) = some (eK (nds l) (i + 1) 0) := by
 unfold putM
 rw [Z1g2 h _ (Z1iz h hi) i 0 (by omega)]
 cases hk : kidF (nds l) (parZ (nds l) i) (polN' (nds l) i) i 0 with
 | none => rw [Z1nu]; rfl
 | some j =>
  obtain ⟨_, h2, h3, h4⟩ := Z1b9 hk
  have := hv.uniq (by rw [Z3a]; omega) (by rw [Z3a]; exact hi) h3 h4
  omega
theorem Z1my {l : List Cd} (h : CdsOk l) (p : Int) {o : Oid} (ho : o.ok) : lookM (keyEq Tryz.prog 86) (.agg (keyC p o)) (.v (.int .i64 0)) (eK (nds l) l.length 0) = some (match kidO (nds l) p o with | none => (.v (.int .i64 0), false) | some j => (.v (.int .i64 (j : Int)), true)) := by
 unfold lookM kidO
 rw [Z1g2 h p ho l.length 0 (by omega), Z3a]
 cases kidF (nds l) p o l.length 0 <;> rfl
theorem Z1e7 {m : Nat} {l : List Cd} (h : CdsB l) (hv : Valid (nds l)) (cp : Option Nat) : ∀ (c i : Nat), l.length - i < c → i ≤ l.length →
  Zj9 m c l.length cp (cdsC l) (l.length : Int) (i : Int) (eK (nds l) i 0) = some (.mp (eK (nds l) l.length 0))
 | 0, i, hc, hi => by omega
 | c + 1, i, hc, hi => by
  have hB := h.len
  rw [Z16q]
  simp only [Int.toNat_natCast]
  by_cases hlt : i < l.length
  ·have hx : l[i].n.ok := h.ok _ (List.getElem_mem hlt)
   have hcl := Cd.cells_len hx
   refine st_cT (decide_eq_true (by omega)) ?_
   refine st_if ⟨by omega, by omega⟩ ?_
   refine st_if (by rw [cdsC_len h.ok]; omega) ?_
   rw [Z14z h.ok hlt]
   refine st_if hcl ?_
   refine Z1 (Z7l (Cd.at0 l[i])) ?_
   rw [Cd.pol_at hx]
   have hpl := Oid.cells_len hx.pol
   refine st_if hpl ?_
   rw [Z1ls _ hpl]
   have e1 : parZ (nds l) i = l[i].n.par := by rw [Zwi (by rw [Z3a]; exact hlt), Zwf hlt]
   have e2 := Z19k hlt
   have hk : D.agg (D.v (.int .i64 l[i].n.par) :: l[i].n.pol.cells) = .agg (keyC (parZ (nds l) i) (polN' (nds l) i)) := by rw [e1, e2]; rfl
   rw [hk]
   refine st_if (key_ok _ (Z1iz h.ok hlt)) ?_
   refine Z1 (Z1nv h.ok hv hlt) ?_
   rw [Z2i (by omega)]
   exact Z1e7 h hv cp c (i + 1) (by omega) (by omega)
  ·obtain rfl : i = l.length := by omega
   refine st_cF (decide_eq_false (by omega)) ?_
   rfl
theorem Z1lt {l : List Cd} (h : CdsB l) (hv : Valid (nds l)) (cp : Option Nat) : Zee [.agg [.list l.length cp (cdsC l)]] = some (.mp (eK (nds l) l.length 0)) := by
 show Zpf M l.length cp (cdsC l) = _
 unfold Zpf
 have hB := h.len
 exact Z1e7 (m := M) h hv cp M 0 (by unfold M; omega) (by omega)
def fndD (r : Option Int) : D := match r with
 | none => .tup [.v (.int .i64 0), .v (.int .i64 19)]
 | some a => if a < 0 then .tup [.v (.int .i64 0), .v (.int .i64 19)] else .tup [.v (.int .i64 a), .v (.int .i64 0)]
theorem Z1ht {m : Nat} {l : List Cd} (h : CdsB l) {ps : List Oid} (hps : ∀ x, x ∈ ps → x.ok) (hB : ps.length < 1000000000) (pc : Option Nat) : ∀ (c i : Nat) (a : Int), ps.length - i < c → i ≤ ps.length →
  Zlx m c (eK (nds l) l.length 0) a ps.length pc (oidsC ps) (ps.length : Int) (i : Int) = some (fndD (walk (nds l) a (ps.drop i)))
 | 0, i, a, hc, hi => by omega
 | c + 1, i, a, hc, hi => by
  rw [Z18s]
  simp only [Int.toNat_natCast]
  by_cases hlt : i < ps.length
  ·have hok : ps[i].ok := hps _ (List.getElem_mem hlt)
   have hpl := Oid.cells_len hok
   refine st_cT (decide_eq_true (by omega)) ?_
   refine st_if ⟨by omega, by omega⟩ ?_
   refine st_if (by rw [Zip hps]; omega) ?_
   rw [Zn0 hps hlt]
   refine st_if hpl ?_
   refine st_if hpl ?_
   rw [Z1ls _ hpl]
   refine st_if (key_ok a hok) ?_
   refine Z1 (Z1my h.ok a hok) ?_
   rw [List.drop_eq_getElem_cons hlt, walk]
   cases hk : kidO (nds l) a ps[i] with
   | none =>
    dsimp only
    refine Z1 (rdI_v _ _) ?_
    refine st_cT rfl ?_
    rfl
   | some j =>
    dsimp only
    refine Z1 (rdI_v _ _) ?_
    refine st_cF rfl ?_
    rw [Z2i (by omega)]
    exact Z1ht h hps hB pc c (i + 1) (j : Int) (by omega) (by omega)
  ·obtain rfl : i = ps.length := by omega
   rw [List.drop_length]
   refine st_cF (decide_eq_false (by omega)) ?_
   unfold walk fndD
   by_cases ha : a < 0
   ·refine st_cT (decide_eq_true ha) ?_
    dsimp only
    rw [if_pos ha]
   ·refine st_cF (decide_eq_false ha) ?_
    dsimp only
    rw [if_neg ha]
theorem Z1mz {l : List Cd} (h : CdsB l) (hv : Valid (nds l)) (cp : Option Nat) {ps : List Oid} (hps : ∀ x, x ∈ ps → x.ok) (hB : ps.length < 1000000000) (pc : Option Nat) :
  Z47 [.agg [.list l.length cp (cdsC l)], .list ps.length pc (oidsC ps)] = some (if find (nds l) ps < 0 then .tup [.v (.int .i64 0), .v (.int .i64 19)] else .tup [.v (.int .i64 (find (nds l) ps)), .v (.int .i64 0)]) := by
 show Zsq M l.length cp (cdsC l) ps.length pc (oidsC ps) = _
 unfold Zsq
 have he : Z132 (nds l) = 0 := (Z1l7 h.ok.nds).2 hv
 refine Z1 (Z1k9 h cp) ?_
 refine Z1 (rdI_v _ _) ?_
 refine st_cF (i_bnf he) ?_
 refine Z1 (Z1lt h hv cp) ?_
 refine Z1 rfl ?_
 have := Z1ht (m := M) h hps hB pc M 0 (-1) (by unfold M; omega) (by omega)
 refine this.trans ?_
 rw [List.drop_zero]
 rcases Z1lr hv ps with ⟨e, w | w⟩ | ⟨j, hj, e, w⟩
 ·rw [w, e]; rfl
 ·rw [w, e]; rfl
 ·rw [w, e]
  unfold fndD
  dsimp only
end Go.Ev