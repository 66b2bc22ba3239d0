/-
  The reference's prunings, and what stays.
-/
import Derived.Test.YtkefahdbckjajaaGreatDoorEzU2
import Derived.Test.YtkefahdbckjajaaGreatDoorEzXI
set_option linter.unusedSimpArgs false
set_option linter.unusedVariables false
set_option maxRecDepth 100000
namespace Go.Ev
open Go

section
variable {N : List Nd} {A : Nat → Bool} {d : Nat} {l : List Cd}
end
def trD (l : List Cd) (cp : Option Nat) : D := .agg [.list l.length cp (cdsC l)]
/-! ### What stays -/
theorem below_loop {fn : List D → Option D} {m : Nat} {l : List Cd} {cp : Option Nat} {d : Nat} {ks : List Nat} (hks : ks.length < 1000000000) (kc : Option Nat) (hF : ∀ k, k ∈ ks → fn [.agg [.list l.length cp (cdsC l)], .v (.int .i64 (k : Int)), .v (.int .i64 (d : Int))] = some (.v (.int .i64 (b01 (stays (nds l) d k))))) : ∀ (c i : Nat), ks.length - i < c → i ≤ ks.length →
    Zgc fn m c (d : Int) ks.length kc (ints (ks.map fun j : Nat => (j : Int))) (i : Int) l.length cp (cdsC l) = some (.v (.int .i64 (b01 ((ks.drop i).any (stays (nds l) d)))))
  | 0, i, hc, hi => by omega
  | c + 1, i, hc, hi => by
    rw [Zuc]
    simp only [Int.toNat_natCast, Nat.mul_one]
    by_cases hlt : i < ks.length
    · have ih := below_loop (m := m) hks kc hF c (i + 1) (by omega) (by omega)
      rw [List.drop_eq_getElem_cons hlt, List.any_cons]
      have hg : (ks.map fun j : Nat => (j : Int)).getD i 0 = (ks[i] : Int) := by simp [hlt]
      refine st_cT (decide_eq_true (by omega)) ?_
      refine st_if (by omega) ?_
      refine st_bind ((ints_get (by simpa using hlt)).trans (by rw [hg])) ?_
      refine st_bind (hF _ (List.getElem_mem hlt)) ?_
      refine st_bind (rdI_v _ _) ?_
      cases hst : stays (nds l) d ks[i] with
      | true => refine st_cT rfl ?_; rfl
      | false =>
        refine st_cF rfl ?_
        rw [wrap_succ (by omega), ih]; rfl
    · obtain rfl : i = ks.length := by omega
      refine st_cF (decide_eq_false (by omega)) ?_
      rw [List.drop_length]; rfl
theorem below_law {l : List Cd} (h : CdsB l) (hs : Shape (nds l)) (cp : Option Nat) (d : Nat) : ∀ (n i : Nat), l.length - i < n → i < l.length → dep (nds l) i ≤ d →
    Z48 n [.agg [.list l.length cp (cdsC l)], .v (.int .i64 (i : Int)), .v (.int .i64 (d : Int))] = some (.v (.int .i64 (b01 (stays (nds l) d i))))
  | 0, i, hn, hi, hd => by omega
  | n + 1, i, hn, hi, hd => by
    show Zk0 (Z48 n) M l.length cp (cdsC l) (i : Int) (d : Int) = _
    unfold Zk0
    have hB := h.len
    have hin : i < (nds l).length := by rw [nds_len]; exact hi
    have hst := stays_iff hs hin (d := d)
    refine st_bind (Zqf h hs cp hi) ?_
    refine st_bind (rdI_v _ _) ?_
    by_cases he : dep (nds l) i = d
    · refine st_cT (i_eq (by omega)) ?_
      rw [hst.2 (.inl (by omega))]; rfl
    · refine st_cF (i_ne (by omega)) ?_
      refine st_bind (Zta h cp _) ?_
      refine st_bind (rdL_v _ _ _) ?_
      dsimp only
      have hil := inI_len (chF (nds l) (i : Int)) l.length
      have hmem : ∀ k, k ∈ (List.range l.length).filter (chF (nds l) (i : Int)) ↔ k < l.length ∧ 0 < k ∧ parN (nds l) k = i := fun k => by
        rw [List.mem_filter, List.mem_range]
        constructor
        · rintro ⟨h1, h2⟩
          unfold chF at h2
          have h2 := of_decide_eq_true h2
          rw [parI_nds h1] at h2
          have h0 : 0 < k := Nat.pos_of_ne_zero fun e => by
            subst e
            have := hs.root _ (nds_get h1)
            omega
          have := (Pt.of hs (k + 1)).parN h1 h0 (by omega)
          exact ⟨h1, h0, by omega⟩
        · rintro ⟨h1, h0, h2⟩
          have := (Pt.of hs (k + 1)).parN h1 h0 (by omega)
          refine ⟨h1, ?_⟩
          unfold chF
          rw [parI_nds h1]
          exact decide_eq_true (by omega)
      have hL : (inI (chF (nds l) (i : Int)) l.length).length = ((List.range l.length).filter (chF (nds l) (i : Int))).length := by unfold inI; rw [List.length_map]
      rw [hL]
      unfold inI
      have := below_loop (fn := Z48 n) (m := M) (l := l) (cp := cp) (d := d) (ks := (List.range l.length).filter (chF (nds l) (i : Int))) (by omega) none (fun k hk => by
        obtain ⟨h1, h0, h2⟩ := (hmem k).1 hk
        have hlt := (Pt.of hs (k + 1)).parN h1 h0 (by omega)
        have hdp := dep_pos hs (by rw [nds_len]; exact h1) h0
        rw [h2] at hdp
        exact below_law h hs cp d n k (by omega) h1 (by omega)) M 0 (by unfold M; omega) (by omega)
      refine this.trans ?_
      rw [List.drop_zero]
      have : ((List.range l.length).filter (chF (nds l) (i : Int))).any (stays (nds l) d) = stays (nds l) d i := by
        rw [Bool.eq_iff_iff, List.any_eq_true, hst]
        constructor
        · rintro ⟨k, hk, hs2⟩
          obtain ⟨h1, h0, h2⟩ := (hmem k).1 hk
          exact .inr ⟨k, by rw [nds_len]; exact h1, h0, hs2, h2⟩
        · rintro (h1 | ⟨k, h1, h0, hs2, h2⟩)
          · omega
          · rw [nds_len] at h1
            exact ⟨k, (hmem k).2 ⟨h1, h0, h2⟩, hs2⟩
      rw [this]
theorem rst_loop {m : Nat} {l : List Cd} (h : CdsB l) (hs : Shape (nds l)) (cp : Option Nat) (d : Nat) : ∀ (c i : Nat), l.length - i < c → i ≤ l.length →
    Zbm m c (d : Int) ((inI (stays (nds l) d) i).length) (i : Int) l.length cp (cdsC l) ((inI (stays (nds l) d) i).length * 1) (ints (inI (stays (nds l) d) i)) =
    some (.list (inI (stays (nds l) d) l.length).length none (ints (inI (stays (nds l) d) l.length)))
  | 0, i, hc, hi => by omega
  | c + 1, i, hc, hi => by
    have hB := h.len
    have hil := inI_len (stays (nds l) d) i
    rw [Zud]
    simp only [Nat.mul_one]
    by_cases hlt : i < l.length
    · have hin : i < (nds l).length := by rw [nds_len]; exact hlt
      have hst := stays_iff hs hin (d := d)
      have ih := rst_loop (m := m) h hs cp d c (i + 1) (by omega) (by omega)
      rw [inI_succ] at ih
      simp only [Nat.mul_one] at ih
      refine st_cT (decide_eq_true (by omega)) ?_
      refine st_bind (Zqf h hs cp hlt) ?_
      refine st_bind (rdI_v _ _) ?_
      by_cases hd : d ≤ dep (nds l) i
      · refine st_cT (decide_eq_true (by omega)) ?_
        refine st_if ⟨rfl, by first | rfl | trivial, by constructor <;> omega, by first | rfl | trivial⟩ ?_
        rw [Zm6, wrap_succ (by omega)]
        rw [if_pos (hst.2 (.inl hd)), List.length_append, List.length_singleton, ints_append, ints_one] at ih
        exact ih
      · refine st_cF (decide_eq_false (by omega)) ?_
        refine st_bind (below_law h hs cp d M i (by unfold M; omega) hlt (by omega)) ?_
        refine st_bind (rdI_v _ _) ?_
        cases hb : stays (nds l) d i with
        | true =>
          refine st_cT rfl ?_
          refine st_if ⟨rfl, by first | rfl | trivial, by constructor <;> omega, by first | rfl | trivial⟩ ?_
          rw [Zm6, wrap_succ (by omega)]
          rw [if_pos hb, List.length_append, List.length_singleton, ints_append, ints_one] at ih
          exact ih
        | false =>
          refine st_cF rfl ?_
          rw [Zqo, wrap_succ (by omega)]
          rw [if_neg (by rw [hb]; decide)] at ih
          exact ih
    · obtain rfl : i = l.length := by omega
      refine st_cF (decide_eq_false (by omega)) ?_
      refine st_if (by omega) ?_
      rw [cutL_all (ints_len _)]
theorem Z10c {l : List Cd} (h : CdsB l) (hs : Shape (nds l)) (cp : Option Nat) (d : Nat) : Z4n [.agg [.list l.length cp (cdsC l)], .v (.int .i64 (d : Int))] = some (.list (inI (stays (nds l) d) l.length).length none (ints (inI (stays (nds l) d) l.length))) := by
  show Zk1 M l.length cp (cdsC l) (d : Int) = _
  unfold Zk1
  have hB := h.len
  exact rst_loop h hs cp d M 0 (by unfold M; omega) (by omega)
end Go.Ev
