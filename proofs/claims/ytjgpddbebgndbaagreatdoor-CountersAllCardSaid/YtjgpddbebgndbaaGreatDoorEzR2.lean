/-
  Records as plain data are valid.
-/
import Derived.Test.YtjgpddbebgndbaaGreatDoorEzR1
set_option linter.unusedSimpArgs false
set_option linter.unusedVariables false
set_option maxRecDepth 100000
namespace Go.Ev
open Go

theorem firstE_zero {f : Nat → Int} : ∀ (n i : Nat), (∀ j, i ≤ j → j < i + n → f j = 0) → firstE f n i = 0
  | 0, i, h => rfl
  | n + 1, i, h => by
    unfold firstE
    rw [if_pos (h i (by omega) (by omega))]
    exact firstE_zero n (i + 1) (fun j h1 h2 => h j (by omega) (by omega))

theorem contains_take {α : Type} [DecidableEq α] {l : List α} (h : l.Nodup) {i : Nat} (hi : i < l.length) : (l.take i).contains l[i] = false := by
  cases hc : (l.take i).contains l[i] with
  | false => rfl
  | true =>
    exfalso
    have hm : l[i] ∈ l.take i := by simpa using hc
    obtain ⟨j, hj, e⟩ := List.getElem_of_mem hm
    rw [List.getElem_take] at e
    have h1 : j < i := by simp at hj; omega
    exact absurd e (List.pairwise_iff_getElem.1 h j i (by omega) hi h1)

structure PsOk (ps : List Pol) : Prop where
  le : ps.length ≤ 4
  one : ∀ p, p ∈ ps → ∃ k, p = polN k
  nd : (ps.map Pol.id).Nodup
structure MsOk (ms : List Mp) : Prop where
  le : ms.length ≤ 4
  one : ∀ p, p ∈ ms → ∃ k, p = mpO k
  nd : ms.Nodup
theorem nodup_snoc {α : Type} {l : List α} {x : α} (h : l.Nodup) (hx : x ∉ l) : (l ++ [x]).Nodup := by
  rw [List.nodup_append]
  exact ⟨h, by simp, fun a ha b hb => by simp at hb; subst hb; exact fun e => hx (e ▸ ha)⟩
theorem polsOf_psok : ∀ (l : List Nat) (ps : List Pol), PsOk ps → PsOk (polsOf ps l)
  | [], ps, h => h
  | k :: r, ps, h => by
    unfold polsOf
    split
    · exact h
    · refine polsOf_psok r _ ?_
      split
      · exact h
      · rename_i h4 hc
        refine ⟨by simp; omega, fun p hp => ?_, ?_⟩
        · rcases List.mem_append.1 hp with hp | hp
          · exact h.one p hp
          · simp only [List.mem_singleton] at hp; exact ⟨k, hp⟩
        · rw [List.map_append]
          exact nodup_snoc h.nd (show polO k ∉ _ by simpa using hc)
theorem mapsOf_msok : ∀ (l : List Nat) (ps : List Mp), MsOk ps → MsOk (mapsOf ps l)
  | [], ps, h => h
  | k :: r, ps, h => by
    unfold mapsOf
    split
    · exact h
    · refine mapsOf_msok r _ ?_
      split
      · exact h
      · rename_i h4 hc
        refine ⟨by simp; omega, fun p hp => ?_, ?_⟩
        · rcases List.mem_append.1 hp with hp | hp
          · exact h.one p hp
          · simp only [List.mem_singleton] at hp; exact ⟨k, hp⟩
        · exact nodup_snoc h.nd (by simpa using hc)
theorem Ri.psok (x : Ri) : PsOk x.rcd.ps := polsOf_psok _ _ ⟨by simp, (fun p hp => nomatch hp), by simp⟩
theorem Ri.msok (x : Ri) : MsOk x.rcd.ms := mapsOf_msok _ _ ⟨by simp, (fun p hp => nomatch hp), by simp⟩
theorem mpO_good (k : Nat) : (mpO k).i.good = true ∧ (mpO k).s.good = true := by
  unfold mpO
  refine ⟨?_, ?_⟩ <;> dsimp only <;> split <;> first | exact anyO_good | exact polO_good _
theorem Ri.rcd_ok (x : Ri) : x.rcd.ok := by
  refine ⟨fun p hp => ?_, fun p hp => ?_, fun p hp => ?_⟩
  · obtain ⟨k, rfl⟩ := x.psok.one p hp; exact polO_ok k
  · obtain ⟨k, rfl⟩ := x.psok.one p hp; exact notes_ok _
  · obtain ⟨k, rfl⟩ := x.msok.one p hp; exact mpO_ok k
theorem Ri.rcd_err (x : Ri) : x.rcd.err = 0 := by
  have h4 := x.psok.le
  have h5 := x.msok.le
  have hs : x.rcd.shape = 0 := by
    unfold Rcd.shape
    rw [if_neg, if_neg, if_neg]
    · rintro (⟨h1, h2⟩ | ⟨h1, h2⟩)
      · have : decide (0 < x.rcd.ps.length) = true := h1
        rw [h2] at this; cases this
      · have : decide (0 < x.rcd.ms.length) = true := h1
        rw [h2] at this; cases this
    · have e1 : x.rcd.r = ((x.c0 % 8 : Nat) : Int) - 1 := rfl
      have e2 : x.rcd.i = ((x.c1 % 8 : Nat) : Int) - 1 := rfl
      have e3 : x.rcd.y = ((x.c2 % 8 : Nat) : Int) - 1 := rfl
      omega
    · have e1 : x.rcd.r = ((x.c0 % 8 : Nat) : Int) - 1 := rfl
      have e2 : x.rcd.i = ((x.c1 % 8 : Nat) : Int) - 1 := rfl
      have e3 : x.rcd.y = ((x.c2 % 8 : Nat) : Int) - 1 := rfl
      rintro (⟨h1, h2⟩ | ⟨h1, h2⟩ | h | h | h)
      · have : decide (0 < x.rcd.ps.length) = false := h2
        simp at this; rw [this] at h1; simp at h1
      · have : decide (0 < x.rcd.ms.length) = false := h2
        simp at this; rw [this] at h1; simp at h1
      · omega
      · omega
      · omega
  have hm : x.rcd.mapsE 0 = 0 := by
    unfold Rcd.mapsE
    refine firstE_zero _ _ fun j _ hj => ?_
    have hj' : j < x.rcd.ms.length := by omega
    rw [mapErr_eq hj', contains_take x.msok.nd hj']
    obtain ⟨k, e⟩ := x.msok.one _ (List.getElem_mem hj')
    rw [e, (mpO_good k).1, (mpO_good k).2]; rfl
  unfold Rcd.err
  rw [if_pos hs]
  unfold Rcd.polsE
  have hp : firstE (polErr x.rcd.ps) (x.rcd.ps.length - 0) 0 = 0 := by
    refine firstE_zero _ _ fun j _ hj => ?_
    have hj' : j < x.rcd.ps.length := by omega
    obtain ⟨k, e⟩ := x.psok.one _ (List.getElem_mem hj')
    have hc := contains_take x.psok.nd (i := j) (by simpa using hj')
    rw [List.getElem_map] at hc
    unfold polErr
    rw [List.getElem?_eq_getElem hj']
    dsimp only
    rw [List.map_take, hc, e, show (polN k).id.good = true from polO_good k]; rfl
  dsimp only
  rw [if_pos hp, hm]

/-! ### Sets -/
def putFrom (o : Oid) : Bool → List Oid → List Oid
  | d, [] => if d then [] else [o]
  | d, x :: r => if (!(d || decide (x = o)) && decide (o.cmp x < 0)) then o :: x :: putFrom o true r else x :: putFrom o (d || decide (x = o)) r
def putO (l : List Oid) (o : Oid) : List Oid := putFrom o false l
theorem putFrom_ok {o : Oid} (ho : o.ok) : ∀ (l : List Oid) (d : Bool), (∀ x, x ∈ l → x.ok) → ∀ x, x ∈ putFrom o d l → x.ok
  | [], d, h, x, hx => by
    unfold putFrom at hx; split at hx
    · cases hx
    · simp at hx; subst hx; exact ho
  | y :: r, d, h, x, hx => by
    have hr : ∀ x, x ∈ r → x.ok := fun x hx => h x (by simp [hx])
    unfold putFrom at hx; split at hx
    · rcases List.mem_cons.1 hx with rfl | hx
      · exact ho
      · rcases List.mem_cons.1 hx with rfl | hx
        · exact h x (by simp)
        · exact putFrom_ok ho r true hr x hx
    · rcases List.mem_cons.1 hx with rfl | hx
      · exact h x (by simp)
      · exact putFrom_ok ho r _ hr x hx
theorem putO_ok {l : List Oid} {o : Oid} (h : ∀ x, x ∈ l → x.ok) (ho : o.ok) : ∀ x, x ∈ putO l o → x.ok := putFrom_ok ho l false h
theorem oidsC_append (a b : List Oid) : oidsC (a ++ b) = oidsC a ++ oidsC b := by simp [oidsC]
theorem oidsC_one (o : Oid) : oidsC [o] = o.cells := by simp [oidsC]
theorem putFrom_len (o : Oid) : ∀ (l : List Oid) (d : Bool), (putFrom o d l).length ≤ l.length + (if d then 0 else 1)
  | [], d => by cases d <;> simp [putFrom]
  | x :: r, d => by
    unfold putFrom; split
    · rename_i h
      have := putFrom_len o r true
      cases d with
      | false => simp at this ⊢; omega
      | true => simp at h
    · have := putFrom_len o r (d || decide (x = o))
      generalize decide (x = o) = b at this ⊢
      cases d <;> cases b <;> simp at this ⊢ <;> omega
theorem put_loop {m : Nat} {o : Oid} (ho : o.ok) {l : List Oid} (h : ∀ x, x ∈ l → x.ok) (hb : l.length < 1000000000) (cp : Option Nat) : ∀ (c i : Nat) (d : Bool) (out : List Oid), l.length - i < c → i ≤ l.length → (∀ x, x ∈ out → x.ok) → out.length ≤ 2 * i →
    F_ref23_Put_4 m c l.length cp (oidsC l) out.length (cond d 1 0) (i : Int) o.cells (out.length * 17) (oidsC out) =
    some (.list (out ++ putFrom o d (l.drop i)).length none (oidsC (out ++ putFrom o d (l.drop i))))
  | 0, i, d, out, hc, hi, hout, hol => by omega
  | c + 1, i, d, out, hc, hi, hout, hol => by
    have hl := oidsC_len h
    have hol2 := oidsC_len hout
    have hlen := Oid.cells_len ho
    have rc : ∀ x : Oid, (out ++ [x]).length = out.length + 1 := fun x => by simp
    rw [F_ref23_Put_4_s]
    simp only [Int.toNat_natCast]
    by_cases hlt : i < l.length
    · have hok := h _ (List.getElem_mem hlt)
      have hg := oidsC_get h hlt
      have hgl := Oid.cells_len hok
      rw [List.drop_eq_getElem_cons hlt]
      have app : ∀ (out : List Oid) (d : Bool), (∀ x, x ∈ out → x.ok) → out.length ≤ 2 * i + 1 → F_ref23_Put_j11v2 m c l.length cp (oidsC l) out.length (cond d 1 0) (i : Int) o.cells (out.length * 17) (oidsC out) =
          some (.list (out ++ l[i] :: putFrom o d (l.drop (i + 1))).length none (oidsC (out ++ l[i] :: putFrom o d (l.drop (i + 1))))) := fun out d hout hol => by
        rw [F_ref23_Put_j11v2_e]
        simp only [Int.toNat_natCast, hg]
        refine st_if (by omega) ?_
        refine st_if (by omega) ?_
        refine st_if hgl ?_
        refine st_if ⟨rfl, by first | rfl | trivial, by constructor <;> omega, hgl⟩ ?_
        have := put_loop (m := m) ho h hb cp c (i + 1) d (out ++ [l[i]]) (by omega) (by omega) (fun x hx => by
          rcases List.mem_append.1 hx with hx | hx
          · exact hout x hx
          · simp at hx; subst hx; exact hok) (by simp; omega)
        rw [List.length_append, List.length_singleton, oidsC_append, oidsC_one, List.append_assoc, List.singleton_append] at this
        rw [wrap_succ (by omega), this]
      have j8 : ∀ d : Bool, F_ref23_Put_j8 m c l.length cp (oidsC l) out.length (cond d 1 0) (i : Int) o.cells (out.length * 17) (oidsC out) =
          some (.list (out ++ if (!d && decide (o.cmp l[i] < 0)) then o :: l[i] :: putFrom o true (l.drop (i + 1)) else l[i] :: putFrom o d (l.drop (i + 1))).length none (oidsC (out ++ if (!d && decide (o.cmp l[i] < 0)) then o :: l[i] :: putFrom o true (l.drop (i + 1)) else l[i] :: putFrom o d (l.drop (i + 1))))) := fun d => by
        rw [F_ref23_Put_j8_e]
        simp only [Int.toNat_natCast, hg]
        cases d with
        | true =>
          refine st_cF rfl ?_
          exact app out true hout (by omega)
        | false =>
          refine st_cT rfl ?_
          refine st_if (by omega) ?_
          refine st_if (by omega) ?_
          refine st_bind (law_ref06_Compare ho hok) ?_
          refine st_bind (rdI_v _ _) ?_
          by_cases hlt2 : o.cmp l[i] < 0
          · refine st_cT (decide_eq_true hlt2) ?_
            refine st_if hlen ?_
            refine st_if ⟨rfl, by first | rfl | trivial, by constructor <;> omega, hlen⟩ ?_
            have := app (out ++ [o]) true (fun x hx => by
              rcases List.mem_append.1 hx with hx | hx
              · exact hout x hx
              · simp at hx; subst hx; exact ho) (by simp; omega)
            rw [rc, show oidsC (out ++ [o]) = oidsC out ++ o.cells by rw [oidsC_append, oidsC_one], List.append_assoc, List.singleton_append] at this
            rw [F_ref23_Put_j11v2_e] at this
            rw [F_ref23_Put_j11_e]
            rw [decide_eq_true hlt2]
            exact this
          · refine st_cF (decide_eq_false hlt2) ?_
            rw [decide_eq_false hlt2]
            exact app out false hout (by omega)
      rw [hg, putFrom]
      refine st_cT (decide_eq_true (by omega)) ?_
      refine st_if (by omega) ?_
      refine st_if (by omega) ?_
      refine st_bind (oid_eq hok ho) ?_
      by_cases he : l[i] = o
      · rw [decide_eq_true he, Bool.or_true]
        exact j8 true
      · rw [decide_eq_false he, Bool.or_false]
        exact j8 d
    · rw [show l.drop i = [] from List.drop_eq_nil_of_le (by omega)]
      refine st_cF (decide_eq_false (by omega)) ?_
      cases d with
      | true =>
        refine st_cF rfl ?_
        refine st_if (by omega) ?_
        rw [cutL_all hol2]; simp [putFrom]
      | false =>
        refine st_cT rfl ?_
        refine st_if hlen ?_
        refine st_if ⟨rfl, by first | rfl | trivial, by constructor <;> omega, hlen⟩ ?_
        refine st_if (by omega) ?_
        rw [cutL_all (by rw [List.length_append]; omega)]
        simp [putFrom, oidsC_append, oidsC_one]
theorem law_Put {l : List Oid} {o : Oid} (h : ∀ x, x ∈ l → x.ok) (ho : o.ok) (hb : l.length < 1000000000) (cp : Option Nat) : sp_ref23_Put [.list l.length cp (oidsC l), .agg o.cells] = some (.list (putO l o).length none (oidsC (putO l o))) := by
  show F_ref23_Put M l.length cp (oidsC l) o.cells = _
  unfold F_ref23_Put
  refine st_if (Oid.cells_len ho) ?_
  exact put_loop ho h hb cp M 0 false [] (by unfold M; omega) (by omega) (fun x hx => nomatch hx) (by simp)
end Go.Ev
