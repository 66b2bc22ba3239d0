/-
  Records as plain data are valid.
-/
import Derived.Test.YtjgpddbebgndbaaGreatDoorEzR1
set_option linter.unusedSimpArgs false
set_option linter.unusedVariables false
set_option maxRecDepth 100000
namespace Go.Ev
open Go

theorem firstE_zero {f : Nat → Int} : ∀ (n i : Nat), (∀ j, i ≤ j → j < i + n → f j = 0) → firstE f n i = 0
  | 0, i, h => rfl
  | n + 1, i, h => by
    unfold firstE
    rw [if_pos (h i (by omega) (by omega))]
    exact firstE_zero n (i + 1) (fun j h1 h2 => h j (by omega) (by omega))

theorem contains_take {α : Type} [DecidableEq α] {l : List α} (h : l.Nodup) {i : Nat} (hi : i < l.length) : (l.take i).contains l[i] = false := by
  cases hc : (l.take i).contains l[i] with
  | false => rfl
  | true =>
    exfalso
    have hm : l[i] ∈ l.take i := by simpa using hc
    obtain ⟨j, hj, e⟩ := List.getElem_of_mem hm
    rw [List.getElem_take] at e
    have h1 : j < i := by simp at hj; omega
    exact absurd e (List.pairwise_iff_getElem.1 h j i (by omega) hi h1)

structure PsOk (ps : List Pol) : Prop where
  le : ps.length ≤ 4
  one : ∀ p, p ∈ ps → ∃ k, p = polN k
  nd : (ps.map Pol.id).Nodup
structure MsOk (ms : List Mp) : Prop where
  le : ms.length ≤ 4
  one : ∀ p, p ∈ ms → ∃ k, p = mpO k
  nd : ms.Nodup
theorem nodup_snoc {α : Type} {l : List α} {x : α} (h : l.Nodup) (hx : x ∉ l) : (l ++ [x]).Nodup := by
  rw [List.nodup_append]
  exact ⟨h, by simp, fun a ha b hb => by simp at hb; subst hb; exact fun e => hx (e ▸ ha)⟩
theorem polsOf_psok : ∀ (l : List Nat) (ps : List Pol), PsOk ps → PsOk (polsOf ps l)
  | [], ps, h => h
  | k :: r, ps, h => by
    unfold polsOf
    split
    · exact h
    · refine polsOf_psok r _ ?_
      split
      · exact h
      · rename_i h4 hc
        refine ⟨by simp; omega, fun p hp => ?_, ?_⟩
        · rcases List.mem_append.1 hp with hp | hp
          · exact h.one p hp
          · simp only [List.mem_singleton] at hp; exact ⟨k, hp⟩
        · rw [List.map_append]
          exact nodup_snoc h.nd (show polO k ∉ _ by simpa using hc)
theorem mapsOf_msok : ∀ (l : List Nat) (ps : List Mp), MsOk ps → MsOk (mapsOf ps l)
  | [], ps, h => h
  | k :: r, ps, h => by
    unfold mapsOf
    split
    · exact h
    · refine mapsOf_msok r _ ?_
      split
      · exact h
      · rename_i h4 hc
        refine ⟨by simp; omega, fun p hp => ?_, ?_⟩
        · rcases List.mem_append.1 hp with hp | hp
          · exact h.one p hp
          · simp only [List.mem_singleton] at hp; exact ⟨k, hp⟩
        · exact nodup_snoc h.nd (by simpa using hc)
theorem Ri.psok (x : Ri) : PsOk x.rcd.ps := polsOf_psok _ _ ⟨by simp, (fun p hp => nomatch hp), by simp⟩
theorem Ri.msok (x : Ri) : MsOk x.rcd.ms := mapsOf_msok _ _ ⟨by simp, (fun p hp => nomatch hp), by simp⟩
theorem mpO_good (k : Nat) : (mpO k).i.good = true ∧ (mpO k).s.good = true := by
  unfold mpO
  refine ⟨?_, ?_⟩ <;> dsimp only <;> split <;> first | exact anyO_good | exact polO_good _
theorem Ri.rcd_ok (x : Ri) : x.rcd.ok := by
  refine ⟨fun p hp => ?_, fun p hp => ?_, fun p hp => ?_⟩
  · obtain ⟨k, rfl⟩ := x.psok.one p hp; exact polO_ok k
  · obtain ⟨k, rfl⟩ := x.psok.one p hp; exact notes_ok _
  · obtain ⟨k, rfl⟩ := x.msok.one p hp; exact mpO_ok k
theorem Ri.rcd_err (x : Ri) : x.rcd.err = 0 := by
  have h4 := x.psok.le
  have h5 := x.msok.le
  have hs : x.rcd.shape = 0 := by
    unfold Rcd.shape
    rw [if_neg, if_neg, if_neg]
    · rintro (⟨h1, h2⟩ | ⟨h1, h2⟩)
      · have : decide (0 < x.rcd.ps.length) = true := h1
        rw [h2] at this; cases this
      · have : decide (0 < x.rcd.ms.length) = true := h1
        rw [h2] at this; cases this
    · have e1 : x.rcd.r = ((x.c0 % 8 : Nat) : Int) - 1 := rfl
      have e2 : x.rcd.i = ((x.c1 % 8 : Nat) : Int) - 1 := rfl
      have e3 : x.rcd.y = ((x.c2 % 8 : Nat) : Int) - 1 := rfl
      omega
    · have e1 : x.rcd.r = ((x.c0 % 8 : Nat) : Int) - 1 := rfl
      have e2 : x.rcd.i = ((x.c1 % 8 : Nat) : Int) - 1 := rfl
      have e3 : x.rcd.y = ((x.c2 % 8 : Nat) : Int) - 1 := rfl
      rintro (⟨h1, h2⟩ | ⟨h1, h2⟩ | h | h | h)
      · have : decide (0 < x.rcd.ps.length) = false := h2
        simp at this; rw [this] at h1; simp at h1
      · have : decide (0 < x.rcd.ms.length) = false := h2
        simp at this; rw [this] at h1; simp at h1
      · omega
      · omega
      · omega
  have hm : x.rcd.mapsE 0 = 0 := by
    unfold Rcd.mapsE
    refine firstE_zero _ _ fun j _ hj => ?_
    have hj' : j < x.rcd.ms.length := by omega
    rw [mapErr_eq hj', contains_take x.msok.nd hj']
    obtain ⟨k, e⟩ := x.msok.one _ (List.getElem_mem hj')
    rw [e, (mpO_good k).1, (mpO_good k).2]; rfl
  unfold Rcd.err
  rw [if_pos hs]
  unfold Rcd.polsE
  have hp : firstE (polErr x.rcd.ps) (x.rcd.ps.length - 0) 0 = 0 := by
    refine firstE_zero _ _ fun j _ hj => ?_
    have hj' : j < x.rcd.ps.length := by omega
    obtain ⟨k, e⟩ := x.psok.one _ (List.getElem_mem hj')
    have hc := contains_take x.psok.nd (i := j) (by simpa using hj')
    rw [List.getElem_map] at hc
    unfold polErr
    rw [List.getElem?_eq_getElem hj']
    dsimp only
    rw [List.map_take, hc, e, show (polN k).id.good = true from polO_good k]; rfl
  dsimp only
  rw [if_pos hp, hm]

/-! ### Sets -/
def putFrom (o : Oid) : Bool → List Oid → List Oid
  | d, [] => if d then [] else [o]
  | d, x :: r => if (!(d || decide (x = o)) && decide (o.cmp x < 0)) then o :: x :: putFrom o true r else x :: putFrom o (d || decide (x = o)) r
def putO (l : List Oid) (o : Oid) : List Oid := putFrom o false l
end Go.Ev
