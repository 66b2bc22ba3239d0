/-
 Records as plain data are valid.
-/
import Derived.Test.YthakkigkdhaihaaGreatDoorEzR1
set_option linter.unusedSimpArgs false
set_option linter.unusedVariables false
set_option maxRecDepth 100000
namespace Go.Ev
open Go
theorem Zvb {f : Nat → Int} : ∀ (n i : Nat), (∀ j, i ≤ j → j < i + n → f j = 0) → firstE f n i = 0
 | 0, i, h => rfl
 | n + 1, i, h => by
  unfold firstE
  rw [if_pos (h i (by omega) (by omega))]
  exact Zvb n (i + 1) (fun j h1 h2 => h j (by omega) (by omega))
theorem Zxg {α : Type} [DecidableEq α] {l : List α} (h : l.Nodup) {i : Nat} (hi : i < l.length) : (l.take i).contains l[i] = false := by
 cases hc : (l.take i).contains l[i] with
 | false => rfl
 | true =>
  exfalso
  have hm : l[i] ∈ l.take i := by simpa using hc
  obtain ⟨j, hj, e⟩ := List.getElem_of_mem hm
  rw [List.getElem_take] at e
  have h1 : j < i := by simp at hj; omega
  exact absurd e (List.pairwise_iff_getElem.1 h j i (by omega) hi h1)
structure PsOk (ps : List Pol) : Prop where
 le : ps.length ≤ 4
 one : ∀ p, p ∈ ps → ∃ k, p = polN k
 nd : (ps.map Pol.id).Nodup
structure MsOk (ms : List Mp) : Prop where
 le : ms.length ≤ 4
 one : ∀ p, p ∈ ms → ∃ k, p = mpO k
 nd : ms.Nodup
theorem Z16o {α : Type} {l : List α} {x : α} (h : l.Nodup) (hx : x ∉ l) : (l ++ [x]).Nodup := by
 rw [List.nodup_append]
 exact ⟨h, by simp, fun a ha b hb => by simp at hb; subst hb; exact fun e => hx (e ▸ ha)⟩
theorem polsOf_psok : ∀ (l : List Nat) (ps : List Pol), PsOk ps → PsOk (polsOf ps l)
 | [], ps, h => h
 | k :: r, ps, h => by
  unfold polsOf
  split
  ·exact h
  ·refine polsOf_psok r _ ?_
   split
   ·exact h
   ·rename_i h4 hc
    refine ⟨by simp; omega, fun p hp => ?_, ?_⟩
    ·rcases List.mem_append.1 hp with hp | hp
     ·exact h.one p hp
     ·simp only [List.mem_singleton] at hp; exact ⟨k, hp⟩
    ·rw [List.map_append]
     exact Z16o h.nd (show polO k ∉ _ by simpa using hc)
theorem mapsOf_msok : ∀ (l : List Nat) (ps : List Mp), MsOk ps → MsOk (mapsOf ps l)
 | [], ps, h => h
 | k :: r, ps, h => by
  unfold mapsOf
  split
  ·exact h
  ·refine mapsOf_msok r _ ?_
   split
   ·exact h
   ·rename_i h4 hc
    refine ⟨by simp; omega, fun p hp => ?_, ?_⟩
    ·rcases List.mem_append.1 hp with hp | hp
     ·exact h.one p hp
     ·simp only [List.mem_singleton] at hp; exact ⟨k, hp⟩
    ·exact Z16o h.nd (by simpa using hc)
theorem Ri.psok (x : Ri) : PsOk x.rcd.ps := polsOf_psok _ _ ⟨by simp, (fun p hp => nomatch hp), by simp⟩
theorem Ri.msok (x : Ri) : MsOk x.rcd.ms := mapsOf_msok _ _ ⟨by simp, (fun p hp => nomatch hp), by simp⟩
theorem Z1dh (k : Nat) : (mpO k).i.good = true ∧ (mpO k).s.good = true := by
 unfold mpO
 refine ⟨?_, ?_⟩ <;> dsimp only <;> split <;> first | exact anyO_good | exact Z145 _
theorem Ri.rcd_ok (x : Ri) : x.rcd.ok := by
 refine ⟨fun p hp => ?_, fun p hp => ?_, fun p hp => ?_⟩
 ·obtain ⟨k, rfl⟩ := x.psok.one p hp; exact Zim k
 ·obtain ⟨k, rfl⟩ := x.psok.one p hp; exact Z1k8 _
 ·obtain ⟨k, rfl⟩ := x.msok.one p hp; exact mpO_ok k
theorem Ri.rcd_err (x : Ri) : x.rcd.err = 0 := by
 have h4 := x.psok.le
 have h5 := x.msok.le
 have hs : x.rcd.shape = 0 := by
  unfold Rcd.shape
  rw [if_neg, if_neg, if_neg]
  ·rintro (⟨h1, h2⟩ | ⟨h1, h2⟩)
   ·have : decide (0 < x.rcd.ps.length) = true := h1
    rw [h2] at this; cases this
   ·have : decide (0 < x.rcd.ms.length) = true := h1
    rw [h2] at this; cases this
  ·have e1 : x.rcd.r = ((x.c0 % 8 : Nat) : Int) - 1 := rfl
   have e2 : x.rcd.i = ((x.c1 % 8 : Nat) : Int) - 1 := rfl
   have e3 : x.rcd.y = ((x.c2 % 8 : Nat) : Int) - 1 := rfl
   omega
  ·have e1 : x.rcd.r = ((x.c0 % 8 : Nat) : Int) - 1 := rfl
   have e2 : x.rcd.i = ((x.c1 % 8 : Nat) : Int) - 1 := rfl
   have e3 : x.rcd.y = ((x.c2 % 8 : Nat) : Int) - 1 := rfl
   rintro (⟨h1, h2⟩ | ⟨h1, h2⟩ | h | h | h)
   ·have : decide (0 < x.rcd.ps.length) = false := h2
    simp at this; rw [this] at h1; simp at h1
   ·have : decide (0 < x.rcd.ms.length) = false := h2
    simp at this; rw [this] at h1; simp at h1
   ·omega
   ·omega
   ·omega
 have hm : x.rcd.mapsE 0 = 0 := by
  unfold Rcd.mapsE
  refine Zvb _ _ fun j _ hj => ?_
  have hj' : j < x.rcd.ms.length := by omega
  rw [Z1b4 hj', Zxg x.msok.nd hj']
  obtain ⟨k, e⟩ := x.msok.one _ (List.getElem_mem hj')
  rw [e, (Z1dh k).1, (Z1dh k).2]; rfl
 unfold Rcd.err
 rw [if_pos hs]
 unfold Rcd.polsE
 have hp : firstE (polErr x.rcd.ps) (x.rcd.ps.length - 0) 0 = 0 := by
  refine Zvb _ _ fun j _ hj => ?_
  have hj' : j < x.rcd.ps.length := by omega
  obtain ⟨k, e⟩ := x.psok.one _ (List.getElem_mem hj')
  have hc := Zxg x.psok.nd (i := j) (by simpa using hj')
  rw [List.getElem_map] at hc
  unfold polErr
  rw [List.getElem?_eq_getElem hj']
  dsimp only
  rw [List.map_take, hc, e, show (polN k).id.good = true from Z145 k]; rfl
 dsimp only
 rw [if_pos hp, hm]
theorem Z1di {m : Nat} {o : Oid} (ho : o.ok) {l : List Oid} (h : ∀ x, x ∈ l → x.ok) (hb : l.length < 1000000000) (cp : Option Nat) : ∀ (c i : Nat) (d : Bool) (out : List Oid), l.length - i < c → i ≤ l.length → (∀ x, x ∈ out → x.ok) → out.length ≤ 2 * i →
  Zhh m c l.length cp (oidsC l) out.length (cond d 1 0) (i : Int) o.cells (out.length * 17) (oidsC out) =
  some (.list (out ++ putFrom o d (l.drop i)).length none (oidsC (out ++ putFrom o d (l.drop i))))
 | 0, i, d, out, hc, hi, hout, hol => by omega
 | c + 1, i, d, out, hc, hi, hout, hol => by
  have hl := Z13o h
  have hol2 := Z13o hout
  have hlen := Oid.cells_len ho
  have rc : ∀ x : Oid, (out ++ [x]).length = out.length + 1 := fun x => by simp
  rw [Z14c]
  simp only [Int.toNat_natCast]
  by_cases hlt : i < l.length
  ·have hok := h _ (List.getElem_mem hlt)
   have hg := Z13p h hlt
   have hgl := Oid.cells_len hok
   rw [List.drop_eq_getElem_cons hlt]
   have app : ∀ (out : List Oid) (d : Bool), (∀ x, x ∈ out → x.ok) → out.length ≤ 2 * i + 1 → Zdp m c l.length cp (oidsC l) out.length (cond d 1 0) (i : Int) o.cells (out.length * 17) (oidsC out) =
     some (.list (out ++ l[i] :: putFrom o d (l.drop (i + 1))).length none (oidsC (out ++ l[i] :: putFrom o d (l.drop (i + 1))))) := fun out d hout hol => by
    rw [Zm0]
    simp only [Int.toNat_natCast, hg]
    refine st_if (by omega) ?_
    refine st_if (by omega) ?_
    refine st_if hgl ?_
    refine st_if ⟨rfl, by first | rfl | trivial, by constructor <;> omega, hgl⟩ ?_
    have := Z1di (m := m) ho h hb cp c (i + 1) d (out ++ [l[i]]) (by omega) (by omega) (fun x hx => by
     rcases List.mem_append.1 hx with hx | hx
     ·exact hout x hx
     ·simp at hx; subst hx; exact hok) (by simp; omega)
    rw [List.length_append, List.length_singleton, Zt3, Z146, List.append_assoc, List.singleton_append] at this
    rw [Z40 (by omega), this]
   have j8 : ∀ d : Bool, Zj2 m c l.length cp (oidsC l) out.length (cond d 1 0) (i : Int) o.cells (out.length * 17) (oidsC out) =
     some (.list (out ++ if (!d && decide (o.cmp l[i] < 0)) then o :: l[i] :: putFrom o true (l.drop (i + 1)) else l[i] :: putFrom o d (l.drop (i + 1))).length none (oidsC (out ++ if (!d && decide (o.cmp l[i] < 0)) then o :: l[i] :: putFrom o true (l.drop (i + 1)) else l[i] :: putFrom o d (l.drop (i + 1))))) := fun d => by
    rw [Z11n]
    simp only [Int.toNat_natCast, hg]
    cases d with
    | true =>
     refine st_cF rfl ?_
     exact app out true hout (by omega)
    | false =>
     refine st_cT rfl ?_
     refine st_if (by omega) ?_
     refine st_if (by omega) ?_
     refine Z5 (Zyb ho hok) ?_
     refine Z5 (rdI_v _ _) ?_
     by_cases hlt2 : o.cmp l[i] < 0
     ·refine st_cT (decide_eq_true hlt2) ?_
      refine st_if hlen ?_
      refine st_if ⟨rfl, by first | rfl | trivial, by constructor <;> omega, hlen⟩ ?_
      have := app (out ++ [o]) true (fun x hx => by
       rcases List.mem_append.1 hx with hx | hx
       ·exact hout x hx
       ·simp at hx; subst hx; exact ho) (by simp; omega)
      rw [rc, show oidsC (out ++ [o]) = oidsC out ++ o.cells by rw [Zt3, Z146], List.append_assoc, List.singleton_append] at this
      rw [Zm0] at this
      rw [Zza]
      rw [decide_eq_true hlt2]
      exact this
     ·refine st_cF (decide_eq_false hlt2) ?_
      rw [decide_eq_false hlt2]
      exact app out false hout (by omega)
   rw [hg, putFrom]
   refine st_cT (decide_eq_true (by omega)) ?_
   refine st_if (by omega) ?_
   refine st_if (by omega) ?_
   refine Z5 (oid_eq hok ho) ?_
   by_cases he : l[i] = o
   ·rw [decide_eq_true he, Bool.or_true]
    exact j8 true
   ·rw [decide_eq_false he, Bool.or_false]
    exact j8 d
  ·rw [show l.drop i = [] from List.drop_eq_nil_of_le (by omega)]
   refine st_cF (decide_eq_false (by omega)) ?_
   cases d with
   | true =>
    refine st_cF rfl ?_
    refine st_if (by omega) ?_
    rw [Zgf hol2]; simp [putFrom]
   | false =>
    refine st_cT rfl ?_
    refine st_if hlen ?_
    refine st_if ⟨rfl, by first | rfl | trivial, by constructor <;> omega, hlen⟩ ?_
    refine st_if (by omega) ?_
    rw [Zgf (by rw [List.length_append]; omega)]
    simp [putFrom, Zt3, Z146]
theorem Z1nf {l : List Oid} {o : Oid} (h : ∀ x, x ∈ l → x.ok) (ho : o.ok) (hb : l.length < 1000000000) (cp : Option Nat) : Zk3 [.list l.length cp (oidsC l), .agg o.cells] = some (.list (putO l o).length none (oidsC (putO l o))) := by
 show Zqf M l.length cp (oidsC l) o.cells = _
 unfold Zqf
 refine st_if (Oid.cells_len ho) ?_
 exact Z1di ho h hb cp M 0 false [] (by unfold M; omega) (by omega) (fun x hx => nomatch hx) (by simp)
end Go.Ev