/-
  Nodes copied: what the clones of slices, and of nodes, return.
-/
import Derived.Test.YtkefahdbckjajaaGreatDoorEzN0
import Derived.Test.YtkefahdbckjajaaGreatDoorEzG7
set_option linter.unusedSimpArgs false
set_option linter.unusedVariables false
set_option maxRecDepth 100000
namespace Go.Ev
open Go

theorem clone_cut {n s : Nat} {a Z : List D} (ha : a.length = n * s) (hZ : Z.length = n * s) : cutL (n * s) (List.take 0 Z ++ (List.take (Nat.min n n * s) a ++ List.drop (0 + Nat.min n n * s) Z)) 0 (n * s) = a := by
  have e : Nat.min n n = n := Nat.min_self n
  rw [e, List.take_zero, List.nil_append, List.take_of_length_le (by omega), Nat.zero_add, List.drop_eq_nil_of_le (by omega), List.append_nil, cutL_all ha]
theorem clone_blk {n s : Nat} {a Z : List D} (ha : a.length = n * s) (hZ : Z.length = n * s) : List.take 0 Z ++ (List.take (Nat.min n n * s) a ++ List.drop (0 + Nat.min n n * s) Z) = a := by
  have e : Nat.min n n = n := Nat.min_self n
  rw [e, List.take_zero, List.nil_append, List.take_of_length_le (by omega), Nat.zero_add, List.drop_eq_nil_of_le (by omega), List.append_nil]
theorem rep_len (n s : Nat) {r : List D} (h : r.length = s) : ((List.replicate n r).flatten).length = n * s := by
  rw [List.length_flatten, List.map_replicate, List.sum_replicate_nat, h]
theorem nil_of_len {l : List D} {n s : Nat} (h : l.length = n * s) (h0 : n = 0) : l = [] := by
  subst h0; rw [Nat.zero_mul] at h; exact List.length_eq_zero_iff.1 h
theorem Zuu {l : List Oid} (h : ∀ x, x ∈ l → x.ok) (hb : l.length < 1000000000) (cp : Option Nat) : Z3t [.list l.length cp (oidsC l)] = some (.list l.length (some l.length) (oidsC l)) := by
  show Z5g M l.length cp (oidsC l) = _
  unfold Z5g
  have hl := oidsC_len h
  by_cases h0 : l.length = 0
  · refine st_cT (i_eq (by omega)) ?_
    rw [nil_of_len hl h0, h0]
  · refine st_cF (i_ne (by omega)) ?_
    simp only [Int.toNat_natCast]
    refine st_if ⟨by omega, by omega, by constructor <;> omega⟩ ?_
    refine st_if hl ?_
    refine st_if ⟨by omega, hl⟩ ?_
    refine st_if (by omega) ?_
    rw [clone_cut hl (rep_len _ _ rfl)]
theorem clone_u32_nil : Z46 [.list 0 (some 0) []] = some (.list 0 (some 0) []) := rfl
theorem clone_byte_nil : Z4x [.list 0 (some 0) []] = some (.list 0 (some 0) []) := rfl

theorem set_at {l : List D} {i : Nat} {v : D} (h : l[i]? = some v) : l.set i v = l := by
  refine list_ext_get (by simp) fun j hj => ?_
  by_cases e : i = j
  · subst e; rw [List.getElem?_set_self (by simpa using hj), h]
  · rw [List.getElem?_set_ne e]
theorem qC_5 (b : Bool) : (qC b)[5]? = some (.list 0 (some 0) []) := by cases b <;> rfl
theorem qC_26 (b : Bool) : (qC b)[26]? = some (.list 0 (some 0) []) := by cases b <;> rfl
theorem qsC_at {l : List Bool} {i j : Nat} (hi : i < l.length) (hj : j < 27) : (qsC l)[i * 27 + j]? = (qC l[i])[j]? := row_at' (fun b _ => qC_len b) hi hj

theorem cp_loop {m : Nat} {y1_3 y1_4 y1_5 y1_6 y1_7 y1_8 y1_9 y1_10 y1_11 y1_12 y1_13 y1_14 y1_15 y1_16 y1_17 y1_18 y1_19 y1_20 : Int} {y1_21 : Nat} {y1_22 : Option Nat} {y1_23 : List D} {q : List Bool} (hb : q.length < 1000000000) : ∀ (c i : Nat), q.length - i < c → i ≤ q.length →
    Z8i m c q.length (q.length : Int) (i : Int) y1_3 y1_4 y1_5 y1_6 y1_7 y1_8 y1_9 y1_10 y1_11 y1_12 y1_13 y1_14 y1_15 y1_16 y1_17 y1_18 y1_19 y1_20 y1_21 y1_22 y1_23 (q.length * 27) (qsC q) =
    some (.agg [(D.v (.int .i64 y1_3)), (D.v (.int .u8 y1_4)), (D.v (.int .u32 y1_5)), (D.v (.int .u32 y1_6)), (D.v (.int .u32 y1_7)), (D.v (.int .u32 y1_8)), (D.v (.int .u32 y1_9)), (D.v (.int .u32 y1_10)), (D.v (.int .u32 y1_11)), (D.v (.int .u32 y1_12)), (D.v (.int .u32 y1_13)), (D.v (.int .u32 y1_14)), (D.v (.int .u32 y1_15)), (D.v (.int .u32 y1_16)), (D.v (.int .u32 y1_17)), (D.v (.int .u32 y1_18)), (D.v (.int .u32 y1_19)), (D.v (.int .u32 y1_20)), (.list y1_21 y1_22 y1_23), (.list q.length (some q.length) (qsC q))])
  | 0, i, hc, hi => by omega
  | c + 1, i, hc, hi => by
    have hq := qsC_len q
    rw [Zo3]
    simp only [Int.toNat_natCast, Nat.zero_add]
    by_cases hlt : i < q.length
    · refine st_cT (decide_eq_true (by omega)) ?_
      refine st_if (by omega) ?_
      refine st_if (by omega) ?_
      have hg : cutL (q.length * 27) (qsC q) (i * 27) 27 = qC q[i] := by rw [cutL_eq hq]; exact qsC_get hlt
      rw [hg]
      refine st_if (qC_len _) ?_
      refine st_bind (rdL_get (qC_5 _)) ?_
      refine st_bind clone_u32_nil ?_
      refine st_bind (rdL_v _ _ _) ?_
      refine st_if (by omega) ?_
      refine st_if ⟨by first | rfl | trivial, by omega⟩ ?_
      refine st_bind (rdL_get (qC_26 _)) ?_
      refine st_bind clone_byte_nil ?_
      refine st_bind (rdL_v _ _ _) ?_
      refine st_if (by omega) ?_
      refine st_if ⟨by first | rfl | trivial, by omega⟩ ?_
      dsimp only
      have e1 : (qsC q).set (i * 27 + 5) (.list 0 (some 0) []) = qsC q := set_at (by rw [qsC_at hlt (by omega), qC_5])
      have e2 : (qsC q).set (i * 27 + 26) (.list 0 (some 0) []) = qsC q := set_at (by rw [qsC_at hlt (by omega), qC_26])
      rw [e1, e2, wrap_succ (by omega)]
      exact cp_loop hb c (i + 1) (by omega) (by omega)
    · refine st_cF (decide_eq_false (by omega)) ?_
      refine st_if (by omega) ?_
      rw [cutL_all hq]

theorem cons_of_len {α : Type} {l : List α} {n : Nat} (h : l.length = n + 1) : ∃ a t, l = a :: t ∧ t.length = n := by
  cases l with
  | nil => simp at h
  | cons a t => exact ⟨a, t, rfl, by simpa using h⟩
theorem list16 {l : List Nat} (h : l.length = 16) : ∃ a0 a1 a2 a3 a4 a5 a6 a7 a8 a9 a10 a11 a12 a13 a14 a15, l = [a0, a1, a2, a3, a4, a5, a6, a7, a8, a9, a10, a11, a12, a13, a14, a15] := by
  obtain ⟨a0, t0, rfl, h0⟩ := cons_of_len h
  obtain ⟨a1, t1, rfl, h1⟩ := cons_of_len h0
  obtain ⟨a2, t2, rfl, h2⟩ := cons_of_len h1
  obtain ⟨a3, t3, rfl, h3⟩ := cons_of_len h2
  obtain ⟨a4, t4, rfl, h4⟩ := cons_of_len h3
  obtain ⟨a5, t5, rfl, h5⟩ := cons_of_len h4
  obtain ⟨a6, t6, rfl, h6⟩ := cons_of_len h5
  obtain ⟨a7, t7, rfl, h7⟩ := cons_of_len h6
  obtain ⟨a8, t8, rfl, h8⟩ := cons_of_len h7
  obtain ⟨a9, t9, rfl, h9⟩ := cons_of_len h8
  obtain ⟨a10, t10, rfl, h10⟩ := cons_of_len h9
  obtain ⟨a11, t11, rfl, h11⟩ := cons_of_len h10
  obtain ⟨a12, t12, rfl, h12⟩ := cons_of_len h11
  obtain ⟨a13, t13, rfl, h13⟩ := cons_of_len h12
  obtain ⟨a14, t14, rfl, h14⟩ := cons_of_len h13
  obtain ⟨a15, t15, rfl, h15⟩ := cons_of_len h14
  obtain rfl := List.length_eq_zero_iff.1 h15
  exact ⟨a0, a1, a2, a3, a4, a5, a6, a7, a8, a9, a10, a11, a12, a13, a14, a15, rfl⟩
/-- A node without spare capacity. -/
def Cd.cp (x : Cd) : Cd := ⟨x.n, some x.n.ex.length, some x.n.q.length⟩
theorem Zvc {x : Cd} (h : x.n.ok) (hb : x.n.ex.length < 1000000000) (hq : x.n.q.length < 1000000000) : Zai [.agg x.cells] = some (.agg x.cp.cells) := by
  obtain ⟨⟨par, ⟨pn, pa⟩, ex, q⟩, ec, qc⟩ := x
  have h16 : pa.length = 16 := h.pol.len
  dsimp only at hb hq
  obtain ⟨a0, a1, a2, a3, a4, a5, a6, a7, a8, a9, a10, a11, a12, a13, a14, a15, rfl⟩ := list16 h16
  show Zfv M par pn a0 a1 a2 a3 a4 a5 a6 a7 a8 a9 a10 a11 a12 a13 a14 a15 ex.length ec (oidsC ex) q.length qc (qsC q) = some (.agg (Cd.cells ⟨⟨par, ⟨pn, _⟩, ex, q⟩, some ex.length, some q.length⟩))
  unfold Zfv
  refine st_bind (Zuu h.ex hb ec) ?_
  refine st_bind (rdL_v _ _ _) ?_
  by_cases h0 : q.length = 0
  · refine st_cT (i_eq (by omega)) ?_
    obtain rfl := List.length_eq_zero_iff.1 h0
    show Zha M (M - 1 + 1) _ _ _ _ _ _ _ _ _ _ _ _ _ _ _ _ _ _ _ _ _ = _
    rw [Zqg]
    rfl
  · refine st_cF (i_ne (by omega)) ?_
    have hl := qsC_len q
    simp only [Int.toNat_natCast]
    refine st_if ⟨by omega, by omega, by constructor <;> omega⟩ ?_
    refine st_if hl ?_
    refine st_if ⟨by omega, hl⟩ ?_
    rw [clone_blk hl (rep_len _ _ rfl)]
    exact (cp_loop (q := q) hq M 0 (by unfold M; omega) (by omega)).trans rfl
end Go.Ev
