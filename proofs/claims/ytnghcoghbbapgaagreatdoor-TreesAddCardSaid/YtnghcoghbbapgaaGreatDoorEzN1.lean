/-
 Nodes copied: what the clones of slices, and of nodes, return.
-/
import Derived.Test.YtnghcoghbbapgaaGreatDoorEzN0
import Derived.Test.YtnghcoghbbapgaaGreatDoorEzG7
set_option linter.unusedSimpArgs false
set_option linter.unusedVariables false
set_option maxRecDepth 100000
namespace Go.Ev
open Go
theorem Z1mp {n s : Nat} {a Z : List D} (ha : a.length = n * s) (hZ : Z.length = n * s) : cutL (n * s) (List.take 0 Z ++ (List.take (Nat.min n n * s) a ++ List.drop (0 + Nat.min n n * s) Z)) 0 (n * s) = a := by
 have e : Nat.min n n = n := Nat.min_self n
 rw [e, List.take_zero, List.nil_append, List.take_of_length_le (by omega), Nat.zero_add, List.drop_eq_nil_of_le (by omega), List.append_nil, Z71 ha]
theorem Z204 {n s : Nat} {a Z : List D} (ha : a.length = n * s) (hZ : Z.length = n * s) : List.take 0 Z ++ (List.take (Nat.min n n * s) a ++ List.drop (0 + Nat.min n n * s) Z) = a := by
 have e : Nat.min n n = n := Nat.min_self n
 rw [e, List.take_zero, List.nil_append, List.take_of_length_le (by omega), Nat.zero_add, List.drop_eq_nil_of_le (by omega), List.append_nil]
theorem Z18b (n s : Nat) {r : List D} (h : r.length = s) : ((List.replicate n r).flatten).length = n * s := by
 rw [List.length_flatten, List.map_replicate, List.sum_replicate_nat, h]
theorem Z1h8 {l : List D} {n s : Nat} (h : l.length = n * s) (h0 : n = 0) : l = [] := by
 subst h0; rw [Nat.zero_mul] at h; exact List.length_eq_zero_iff.1 h
theorem Z1ex {l : List Oid} (h : ∀ x, x ∈ l → x.ok) (hb : l.length < 1000000000) (cp : Option Nat) : Z3q [.list l.length cp (oidsC l)] = some (.list l.length (some l.length) (oidsC l)) := by
 show Z8s M l.length cp (oidsC l) = _
 unfold Z8s
 have hl := Zfm h
 by_cases h0 : l.length = 0
 ·refine st_cT (i_eq (by omega)) ?_
  rw [Z1h8 hl h0, h0]
 ·refine st_cF (i_ne (by omega)) ?_
  simp only [Int.toNat_natCast]
  refine st_if ⟨by omega, by omega, by constructor <;> omega⟩ ?_
  refine st_if hl ?_
  refine st_if ⟨by omega, hl⟩ ?_
  refine st_if (by omega) ?_
  rw [Z1mp hl (Z18b _ _ rfl)]
theorem clone_u32_nil : Z6s [.list 0 (some 0) []] = some (.list 0 (some 0) []) := rfl
theorem clone_byte_nil : Z7z [.list 0 (some 0) []] = some (.list 0 (some 0) []) := rfl
theorem set_at {l : List D} {i : Nat} {v : D} (h : l[i]? = some v) : l.set i v = l := by
 refine Z6r (by simp) fun j hj => ?_
 by_cases e : i = j
 ·subst e; rw [List.getElem?_set_self (by simpa using hj), h]
 ·rw [List.getElem?_set_ne e]
theorem qC_5 (b : Bool) : (qC b)[5]? = some (.list 0 (some 0) []) := by cases b <;> rfl
theorem qC_26 (b : Bool) : (qC b)[26]? = some (.list 0 (some 0) []) := by cases b <;> rfl
theorem qsC_at {l : List Bool} {i j : Nat} (hi : i < l.length) (hj : j < 27) : (qsC l)[i * 27 + j]? = (qC l[i])[j]? := Z1wo (fun b _ => qC_len b) hi hj
theorem Z205 {m : Nat} {Zug Zn0 Zq7 Zpc Zh1 Zrj Zpi Zj6 Zh4 Z8t Zj7 Z16g Z1ad Z1ae Z123 Z18a Z1v4 Z1v5 : Int} {Z1v6 : Nat} {Z1v7 : Option Nat} {Z1v8 : List D} {q : List Bool} (hb : q.length < 1000000000) : ∀ (c i : Nat), q.length - i < c → i ≤ q.length →
  Zd9 m c q.length (q.length : Int) (i : Int) Zug Zn0 Zq7 Zpc Zh1 Zrj Zpi Zj6 Zh4 Z8t Zj7 Z16g Z1ad Z1ae Z123 Z18a Z1v4 Z1v5 Z1v6 Z1v7 Z1v8 (q.length * 27) (qsC q) =
  some (.agg [(D.v (.int .i64 Zug)), (D.v (.int .u8 Zn0)), (D.v (.int .u32 Zq7)), (D.v (.int .u32 Zpc)), (D.v (.int .u32 Zh1)), (D.v (.int .u32 Zrj)), (D.v (.int .u32 Zpi)), (D.v (.int .u32 Zj6)), (D.v (.int .u32 Zh4)), (D.v (.int .u32 Z8t)), (D.v (.int .u32 Zj7)), (D.v (.int .u32 Z16g)), (D.v (.int .u32 Z1ad)), (D.v (.int .u32 Z1ae)), (D.v (.int .u32 Z123)), (D.v (.int .u32 Z18a)), (D.v (.int .u32 Z1v4)), (D.v (.int .u32 Z1v5)), (.list Z1v6 Z1v7 Z1v8), (.list q.length (some q.length) (qsC q))])
 | 0, i, hc, hi => by omega
 | c + 1, i, hc, hi => by
  have hq := Z185 q
  rw [Z1af]
  simp only [Int.toNat_natCast, Nat.zero_add]
  by_cases hlt : i < q.length
  ·refine st_cT (decide_eq_true (by omega)) ?_
   refine st_if (by omega) ?_
   refine st_if (by omega) ?_
   have hg : cutL (q.length * 27) (qsC q) (i * 27) 27 = qC q[i] := by rw [Z1wh hq]; exact Z1cm hlt
   rw [hg]
   refine st_if (qC_len _) ?_
   refine Z0 (Zcx (qC_5 _)) ?_
   refine Z0 clone_u32_nil ?_
   refine Z0 (rdL_v _ _ _) ?_
   refine st_if (by omega) ?_
   refine st_if ⟨by first | rfl | trivial, by omega⟩ ?_
   refine Z0 (Zcx (qC_26 _)) ?_
   refine Z0 clone_byte_nil ?_
   refine Z0 (rdL_v _ _ _) ?_
   refine st_if (by omega) ?_
   refine st_if ⟨by first | rfl | trivial, by omega⟩ ?_
   dsimp only
   have e1 : (qsC q).set (i * 27 + 5) (.list 0 (some 0) []) = qsC q := set_at (by rw [qsC_at hlt (by omega), qC_5])
   have e2 : (qsC q).set (i * 27 + 26) (.list 0 (some 0) []) = qsC q := set_at (by rw [qsC_at hlt (by omega), qC_26])
   rw [e1, e2, Z14 (by omega)]
   exact Z205 hb c (i + 1) (by omega) (by omega)
  ·refine st_cF (decide_eq_false (by omega)) ?_
   refine st_if (by omega) ?_
   rw [Z71 hq]
theorem Z4m {α : Type} {l : List α} {n : Nat} (h : l.length = n + 1) : ∃ a t, l = a :: t ∧ t.length = n := by
 cases l with
 | nil => simp at h
 | cons a t => exact ⟨a, t, rfl, by simpa using h⟩
theorem list16 {l : List Nat} (h : l.length = 16) : ∃ a0 a1 a2 a3 a4 a5 a6 a7 a8 a9 a10 a11 a12 a13 a14 a15, l = [a0, a1, a2, a3, a4, a5, a6, a7, a8, a9, a10, a11, a12, a13, a14, a15] := by
 obtain ⟨a0, t0, rfl, h0⟩ := Z4m h
 obtain ⟨a1, t1, rfl, h1⟩ := Z4m h0
 obtain ⟨a2, t2, rfl, h2⟩ := Z4m h1
 obtain ⟨a3, t3, rfl, h3⟩ := Z4m h2
 obtain ⟨a4, t4, rfl, h4⟩ := Z4m h3
 obtain ⟨a5, t5, rfl, h5⟩ := Z4m h4
 obtain ⟨a6, t6, rfl, h6⟩ := Z4m h5
 obtain ⟨a7, t7, rfl, h7⟩ := Z4m h6
 obtain ⟨a8, t8, rfl, h8⟩ := Z4m h7
 obtain ⟨a9, t9, rfl, h9⟩ := Z4m h8
 obtain ⟨a10, t10, rfl, h10⟩ := Z4m h9
 obtain ⟨a11, t11, rfl, h11⟩ := Z4m h10
 obtain ⟨a12, t12, rfl, h12⟩ := Z4m h11
 obtain ⟨a13, t13, rfl, h13⟩ := Z4m h12
 obtain ⟨a14, t14, rfl, h14⟩ := Z4m h13
 obtain ⟨a15, t15, rfl, h15⟩ := Z4m h14
 obtain rfl := List.length_eq_zero_iff.1 h15
 exact ⟨a0, a1, a2, a3, a4, a5, a6, a7, a8, a9, a10, a11, a12, a13, a14, a15, rfl⟩
def Cd.cp (x : Cd) : Cd := ⟨x.n, some x.n.ex.length, some x.n.q.length⟩
theorem Z1a2 {x : Cd} (h : x.n.ok) (hb : x.n.ex.length < 1000000000) (hq : x.n.q.length < 1000000000) : Z2k [.agg x.cells] = some (.agg x.cp.cells) := by
 obtain ⟨⟨par, ⟨pn, pa⟩, ex, q⟩, ec, qc⟩ := x
 have h16 : pa.length = 16 := h.pol.len
 dsimp only at hb hq
 obtain ⟨a0, a1, a2, a3, a4, a5, a6, a7, a8, a9, a10, a11, a12, a13, a14, a15, rfl⟩ := list16 h16
 show Zrl M par pn a0 a1 a2 a3 a4 a5 a6 a7 a8 a9 a10 a11 a12 a13 a14 a15 ex.length ec (oidsC ex) q.length qc (qsC q) = some (.agg (Cd.cells ⟨⟨par, ⟨pn, _⟩, ex, q⟩, some ex.length, some q.length⟩))
 unfold Zrl
 refine Z0 (Z1ex h.ex hb ec) ?_
 refine Z0 (rdL_v _ _ _) ?_
 by_cases h0 : q.length = 0
 ·refine st_cT (i_eq (by omega)) ?_
  obtain rfl := List.length_eq_zero_iff.1 h0
  show Zty M (M - 1 + 1) _ _ _ _ _ _ _ _ _ _ _ _ _ _ _ _ _ _ _ _ _ = _
  rw [Z1ew]
  rfl
 ·refine st_cF (i_ne (by omega)) ?_
  have hl := Z185 q
  simp only [Int.toNat_natCast]
  refine st_if ⟨by omega, by omega, by constructor <;> omega⟩ ?_
  refine st_if hl ?_
  refine st_if ⟨by omega, hl⟩ ?_
  rw [Z204 hl (Z18b _ _ rfl)]
  exact (Z205 (q := q) hq M 0 (by unfold M; omega) (by omega)).trans rfl
end Go.Ev