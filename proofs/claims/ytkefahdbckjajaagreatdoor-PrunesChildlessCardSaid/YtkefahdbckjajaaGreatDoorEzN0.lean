/-
  Policies, qualifiers and sets of the examples: what the trees' laws need of them.
-/
import Derived.Test.YtkefahdbckjajaaGreatDoorEzL2
import Derived.Test.YtkefahdbckjajaaGreatDoorEzG2
import Derived.Test.YtkefahdbckjajaaGreatDoorEzOe
import Derived.Test.YtkefahdbckjajaaGreatDoorEzXF
set_option linter.unusedSimpArgs false
set_option linter.unusedVariables false
set_option maxRecDepth 100000
namespace Go.Ev
open Go

theorem Zyk (k : Nat) : Z4v [.v (.int .u8 (k : Int))] = some (.agg (polO k).cells) := by
  show Zh8 M (k : Int) = _
  unfold Zh8 polO
  rw [show (7 : Int) = ((7 : Nat) : Int) from rfl, tmod_nat]
  have hlt : k % 7 < 7 := Nat.mod_lt _ (by omega)
  generalize k % 7 = j at hlt
  match j, hlt with
  | 0, _ | 1, _ | 2, _ | 3, _ | 4, _ | 5, _ | 6, _ => rfl

/-- Qualifiers by their number. -/
def notesB (k : Nat) : List Bool := if k % 4 = 1 then [true] else if k % 4 = 2 then [false] else if k % 4 = 3 then [false, true] else []
theorem Z10f (k : Nat) : Zd7 [.v (.int .u8 (k : Int))] = some (.list (notesB k).length (some (notesB k).length) (qsC (notesB k))) := by
  show Zjs M (k : Int) = _
  unfold Zjs notesB
  rw [show (4 : Int) = ((4 : Nat) : Int) from rfl, tmod_nat]
  have hlt : k % 4 < 4 := Nat.mod_lt _ (by omega)
  generalize k % 4 = j at hlt
  match j, hlt with
  | 0, _ | 1, _ | 2, _ | 3, _ => rfl

theorem put_loop {m : Nat} {o : Oid} (ho : o.ok) {l : List Oid} (h : ∀ x, x ∈ l → x.ok) (hb : l.length < 1000000000) (cp : Option Nat) : ∀ (c i : Nat) (d : Bool) (out : List Oid), l.length - i < c → i ≤ l.length → (∀ x, x ∈ out → x.ok) → out.length ≤ 2 * i →
    Zfp m c l.length cp (oidsC l) out.length (cond d 1 0) (i : Int) o.cells (out.length * 17) (oidsC out) =
    some (.list (out ++ putFrom o d (l.drop i)).length none (oidsC (out ++ putFrom o d (l.drop i))))
  | 0, i, d, out, hc, hi, hout, hol => by omega
  | c + 1, i, d, out, hc, hi, hout, hol => by
    have hl := oidsC_len h
    have hol2 := oidsC_len hout
    have hlen := Oid.cells_len ho
    have rc : ∀ x : Oid, (out ++ [x]).length = out.length + 1 := fun x => by simp
    rw [Zwc]
    simp only [Int.toNat_natCast]
    by_cases hlt : i < l.length
    · have hok := h _ (List.getElem_mem hlt)
      have hg := oidsC_get h hlt
      have hgl := Oid.cells_len hok
      rw [List.drop_eq_getElem_cons hlt]
      have app : ∀ (out : List Oid) (d : Bool), (∀ x, x ∈ out → x.ok) → out.length ≤ 2 * i + 1 → Zc3 m c l.length cp (oidsC l) out.length (cond d 1 0) (i : Int) o.cells (out.length * 17) (oidsC out) =
          some (.list (out ++ l[i] :: putFrom o d (l.drop (i + 1))).length none (oidsC (out ++ l[i] :: putFrom o d (l.drop (i + 1))))) := fun out d hout hol => by
        rw [Zkq]
        simp only [Int.toNat_natCast, hg]
        refine st_if (by omega) ?_
        refine st_if (by omega) ?_
        refine st_if hgl ?_
        refine st_if ⟨rfl, by first | rfl | trivial, by constructor <;> omega, hgl⟩ ?_
        have := put_loop (m := m) ho h hb cp c (i + 1) d (out ++ [l[i]]) (by omega) (by omega) (fun x hx => by
          rcases List.mem_append.1 hx with hx | hx
          · exact hout x hx
          · simp at hx; subst hx; exact hok) (by simp; omega)
        rw [List.length_append, List.length_singleton, oidsC_append, oidsC_one, List.append_assoc, List.singleton_append] at this
        rw [wrap_succ (by omega), this]
      have j8 : ∀ d : Bool, Zh9 m c l.length cp (oidsC l) out.length (cond d 1 0) (i : Int) o.cells (out.length * 17) (oidsC out) =
          some (.list (out ++ if (!d && decide (o.cmp l[i] < 0)) then o :: l[i] :: putFrom o true (l.drop (i + 1)) else l[i] :: putFrom o d (l.drop (i + 1))).length none (oidsC (out ++ if (!d && decide (o.cmp l[i] < 0)) then o :: l[i] :: putFrom o true (l.drop (i + 1)) else l[i] :: putFrom o d (l.drop (i + 1))))) := fun d => by
        rw [Zv5]
        simp only [Int.toNat_natCast, hg]
        cases d with
        | true =>
          refine st_cF rfl ?_
          exact app out true hout (by omega)
        | false =>
          refine st_cT rfl ?_
          refine st_if (by omega) ?_
          refine st_if (by omega) ?_
          refine st_bind (Zgy ho hok) ?_
          refine st_bind (rdI_v _ _) ?_
          by_cases hlt2 : o.cmp l[i] < 0
          · refine st_cT (decide_eq_true hlt2) ?_
            refine st_if hlen ?_
            refine st_if ⟨rfl, by first | rfl | trivial, by constructor <;> omega, hlen⟩ ?_
            have := app (out ++ [o]) true (fun x hx => by
              rcases List.mem_append.1 hx with hx | hx
              · exact hout x hx
              · simp at hx; subst hx; exact ho) (by simp; omega)
            rw [rc, show oidsC (out ++ [o]) = oidsC out ++ o.cells by rw [oidsC_append, oidsC_one], List.append_assoc, List.singleton_append] at this
            rw [Zkq] at this
            rw [Zto]
            rw [decide_eq_true hlt2]
            exact this
          · refine st_cF (decide_eq_false hlt2) ?_
            rw [decide_eq_false hlt2]
            exact app out false hout (by omega)
      rw [hg, putFrom]
      refine st_cT (decide_eq_true (by omega)) ?_
      refine st_if (by omega) ?_
      refine st_if (by omega) ?_
      refine st_bind (oid_eq hok ho) ?_
      by_cases he : l[i] = o
      · rw [decide_eq_true he, Bool.or_true]
        exact j8 true
      · rw [decide_eq_false he, Bool.or_false]
        exact j8 d
    · rw [show l.drop i = [] from List.drop_eq_nil_of_le (by omega)]
      refine st_cF (decide_eq_false (by omega)) ?_
      cases d with
      | true =>
        refine st_cF rfl ?_
        refine st_if (by omega) ?_
        rw [cutL_all hol2]; simp [putFrom]
      | false =>
        refine st_cT rfl ?_
        refine st_if hlen ?_
        refine st_if ⟨rfl, by first | rfl | trivial, by constructor <;> omega, hlen⟩ ?_
        refine st_if (by omega) ?_
        rw [cutL_all (by rw [List.length_append]; omega)]
        simp [putFrom, oidsC_append, oidsC_one]
theorem law_Put {l : List Oid} {o : Oid} (h : ∀ x, x ∈ l → x.ok) (ho : o.ok) (hb : l.length < 1000000000) (cp : Option Nat) : Zil [.list l.length cp (oidsC l), .agg o.cells] = some (.list (putO l o).length none (oidsC (putO l o))) := by
  show Znp M l.length cp (oidsC l) o.cells = _
  unfold Znp
  refine st_if (Oid.cells_len ho) ?_
  exact put_loop ho h hb cp M 0 false [] (by unfold M; omega) (by omega) (fun x hx => nomatch hx) (by simp)
end Go.Ev
