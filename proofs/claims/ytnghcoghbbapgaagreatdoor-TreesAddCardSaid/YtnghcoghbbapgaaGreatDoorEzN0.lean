/-
 Policies, qualifiers and sets of the examples: what the trees' laws need of them.
-/
import Derived.Test.YtnghcoghbbapgaaGreatDoorEzL2
import Derived.Test.YtnghcoghbbapgaaGreatDoorEzG2
import Derived.Test.YtnghcoghbbapgaaGreatDoorEzOe
import Derived.Test.YtnghcoghbbapgaaGreatDoorEzXF
set_option linter.unusedSimpArgs false
set_option linter.unusedVariables false
set_option maxRecDepth 100000
namespace Go.Ev
open Go
theorem Z1qq (k : Nat) : Z7w [.v (.int .u8 (k : Int))] = some (.agg (polO k).cells) := by
 show Zrf M (k : Int) = _
 unfold Zrf polO
 rw [show (7 : Int) = ((7 : Nat) : Int) from rfl, Z1a0]
 have hlt : k % 7 < 7 := Nat.mod_lt _ (by omega)
 generalize k % 7 = j at hlt
 match j, hlt with
 | 0, _ | 1, _ | 2, _ | 3, _ | 4, _ | 5, _ | 6, _ => rfl
def notesB (k : Nat) : List Bool := if k % 4 = 1 then [true] else if k % 4 = 2 then [false] else if k % 4 = 3 then [false, true] else []
theorem Z203 (k : Nat) : Zj4 [.v (.int .u8 (k : Int))] = some (.list (notesB k).length (some (notesB k).length) (qsC (notesB k))) := by
 show Zve M (k : Int) = _
 unfold Zve notesB
 rw [show (4 : Int) = ((4 : Nat) : Int) from rfl, Z1a0]
 have hlt : k % 4 < 4 := Nat.mod_lt _ (by omega)
 generalize k % 4 = j at hlt
 match j, hlt with
 | 0, _ | 1, _ | 2, _ | 3, _ => rfl
theorem Z1xv {m : Nat} {o : Oid} (ho : o.ok) {l : List Oid} (h : ∀ x, x ∈ l → x.ok) (hb : l.length < 1000000000) (cp : Option Nat) : ∀ (c i : Nat) (d : Bool) (out : List Oid), l.length - i < c → i ≤ l.length → (∀ x, x ∈ out → x.ok) → out.length ≤ 2 * i →
  Znz m c l.length cp (oidsC l) out.length (cond d 1 0) (i : Int) o.cells (out.length * 17) (oidsC out) =
  some (.list (out ++ putFrom o d (l.drop i)).length none (oidsC (out ++ putFrom o d (l.drop i))))
 | 0, i, d, out, hc, hi, hout, hol => by omega
 | c + 1, i, d, out, hc, hi, hout, hol => by
  have hl := Zfm h
  have hol2 := Zfm hout
  have hlen := Oid.cells_len ho
  have rc : ∀ x : Oid, (out ++ [x]).length = out.length + 1 := fun x => by simp
  rw [Z1md]
  simp only [Int.toNat_natCast]
  by_cases hlt : i < l.length
  ·have hok := h _ (List.getElem_mem hlt)
   have hg := Zj3 h hlt
   have hgl := Oid.cells_len hok
   rw [List.drop_eq_getElem_cons hlt]
   have app : ∀ (out : List Oid) (d : Bool), (∀ x, x ∈ out → x.ok) → out.length ≤ 2 * i + 1 → Zh0 m c l.length cp (oidsC l) out.length (cond d 1 0) (i : Int) o.cells (out.length * 17) (oidsC out) =
     some (.list (out ++ l[i] :: putFrom o d (l.drop (i + 1))).length none (oidsC (out ++ l[i] :: putFrom o d (l.drop (i + 1))))) := fun out d hout hol => by
    rw [Zx3]
    simp only [Int.toNat_natCast, hg]
    refine st_if (by omega) ?_
    refine st_if (by omega) ?_
    refine st_if hgl ?_
    refine st_if ⟨rfl, by first | rfl | trivial, by constructor <;> omega, hgl⟩ ?_
    have := Z1xv (m := m) ho h hb cp c (i + 1) d (out ++ [l[i]]) (by omega) (by omega) (fun x hx => by
     rcases List.mem_append.1 hx with hx | hx
     ·exact hout x hx
     ·simp at hx; subst hx; exact hok) (by simp; omega)
    rw [List.length_append, List.length_singleton, Z181, Z1mk, List.append_assoc, List.singleton_append] at this
    rw [Z14 (by omega), this]
   have j8 : ∀ d : Bool, Zrg m c l.length cp (oidsC l) out.length (cond d 1 0) (i : Int) o.cells (out.length * 17) (oidsC out) =
     some (.list (out ++ if (!d && decide (o.cmp l[i] < 0)) then o :: l[i] :: putFrom o true (l.drop (i + 1)) else l[i] :: putFrom o d (l.drop (i + 1))).length none (oidsC (out ++ if (!d && decide (o.cmp l[i] < 0)) then o :: l[i] :: putFrom o true (l.drop (i + 1)) else l[i] :: putFrom o d (l.drop (i + 1))))) := fun d => by
    rw [Z1jh]
    simp only [Int.toNat_natCast, hg]
    cases d with
    | true =>
     refine st_cF rfl ?_
     exact app out true hout (by omega)
    | false =>
     refine st_cT rfl ?_
     refine st_if (by omega) ?_
     refine st_if (by omega) ?_
     refine Z0 (Zql ho hok) ?_
     refine Z0 (rdI_v _ _) ?_
     by_cases hlt2 : o.cmp l[i] < 0
     ·refine st_cT (decide_eq_true hlt2) ?_
      refine st_if hlen ?_
      refine st_if ⟨rfl, by first | rfl | trivial, by constructor <;> omega, hlen⟩ ?_
      have := app (out ++ [o]) true (fun x hx => by
       rcases List.mem_append.1 hx with hx | hx
       ·exact hout x hx
       ·simp at hx; subst hx; exact ho) (by simp; omega)
      rw [rc, show oidsC (out ++ [o]) = oidsC out ++ o.cells by rw [Z181, Z1mk], List.append_assoc, List.singleton_append] at this
      rw [Zx3] at this
      rw [Z1gs]
      rw [decide_eq_true hlt2]
      exact this
     ·refine st_cF (decide_eq_false hlt2) ?_
      rw [decide_eq_false hlt2]
      exact app out false hout (by omega)
   rw [hg, putFrom]
   refine st_cT (decide_eq_true (by omega)) ?_
   refine st_if (by omega) ?_
   refine st_if (by omega) ?_
   refine Z0 (oid_eq hok ho) ?_
   by_cases he : l[i] = o
   ·rw [decide_eq_true he, Bool.or_true]
    exact j8 true
   ·rw [decide_eq_false he, Bool.or_false]
    exact j8 d
  ·rw [show l.drop i = [] from List.drop_eq_nil_of_le (by omega)]
   refine st_cF (decide_eq_false (by omega)) ?_
   cases d with
   | true =>
    refine st_cF rfl ?_
    refine st_if (by omega) ?_
    rw [Z71 hol2]; simp [putFrom]
   | false =>
    refine st_cT rfl ?_
    refine st_if hlen ?_
    refine st_if ⟨rfl, by first | rfl | trivial, by constructor <;> omega, hlen⟩ ?_
    refine st_if (by omega) ?_
    rw [Z71 (by rw [List.length_append]; omega)]
    simp [putFrom, Z181, Z1mk]
theorem Z23c {l : List Oid} {o : Oid} (h : ∀ x, x ∈ l → x.ok) (ho : o.ok) (hb : l.length < 1000000000) (cp : Option Nat) : Zsx [.list l.length cp (oidsC l), .agg o.cells] = some (.list (putO l o).length none (oidsC (putO l o))) := by
 show Z13u M l.length cp (oidsC l) o.cells = _
 unfold Z13u
 refine st_if (Oid.cells_len ho) ?_
 exact Z1xv ho h hb cp M 0 false [] (by unfold M; omega) (by omega) (fun x hx => nomatch hx) (by simp)
end Go.Ev