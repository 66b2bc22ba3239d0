/-
 Records without qualifiers: what their checks return.
-/
import Derived.Test.YthakkigkdhaihaaGreatDoorEzL6
set_option linter.unusedSimpArgs false
set_option linter.unusedVariables false
set_option maxRecDepth 100000
namespace Go.Ev
open Go
section
variable {l : List Mp}
theorem Zx9 (h : ∀ p, p ∈ l → p.ok) : (mapsC l).length = l.length * 34 := rows_len fun x hx => Mp.cells_len (h x hx)
theorem Z148 (h : ∀ p, p ∈ l → p.ok) {i : Nat} (hi : i < l.length) : ((mapsC l).drop (i * 34)).take 34 = l[i].cells := row_get (fun x hx => Mp.cells_len (h x hx)) hi
end
theorem Z16h (m : Nat) {l : List Mp} (h : ∀ p, p ∈ l → p.ok) {q : Mp} (hq : q.ok) (hb : l.length < 1000000) (cp : Option Nat) : ∀ (c k : Nat), l.length - k < c → k ≤ l.length →
  ∃ z : Int, Z1t m c l.length cp (mapsC l) (l.length : Int) (k : Int) q.cells = some (.v (.int .i64 z)) ∧ decide (z ≥ 0) = Zcp l q k
 | 0, k, hc, hk => by omega
 | c + 1, k, hc, hk => by
  have hl := Zx9 h
  rw [Z9g]
  by_cases hlt : k < l.length
  ·have e1 : IntKind.wrap .i64 ((k : Int) + 1) = ((k + 1 : Nat) : Int) := Zbu (by omega) (by omega)
   rw [decide_eq_true (by omega), cond_true, if_pos (by omega), e1]
   simp only [Int.toNat_natCast]
   rw [if_pos (by omega), Z148 h hlt]
   have e2 := mp_eq hq (h _ (List.getElem_mem hlt))
   simp only [k17, List.cons_append, List.nil_append] at e2
   rw [e2, Option.bind_some, Znl hlt]
   by_cases he : l[k] = q
   ·rw [decide_eq_true he.symm, decide_eq_true he]
    exact ⟨_, rfl, decide_eq_true (by omega)⟩
   ·rw [decide_eq_false (fun e => he e.symm), decide_eq_false he]
    obtain ⟨z, h1, h2⟩ := Z16h m h hq hb cp c (k + 1) (by omega) (by omega)
    exact ⟨z, h1, by rw [h2, Bool.false_or]⟩
  ·rw [decide_eq_false (by omega), cond_false, Zqc (by omega)]
   exact ⟨-1, rfl, rfl⟩
theorem Z1b3 {l : List Mp} (h : ∀ p, p ∈ l → p.ok) {q : Mp} (hq : q.ok) (hb : l.length < 1000000) (cp : Option Nat) :
  Z1p [.list l.length cp (mapsC l), .agg q.cells] = some (.v (.bool (l.contains q))) := by
 show Z2g M l.length cp (mapsC l) q.cells = _
 unfold Z2g
 have e : Z1x [.list l.length cp (mapsC l), .agg q.cells] = Z1t M M l.length cp (mapsC l) (l.length : Int) ((0 : Nat) : Int) q.cells := by
  show Z2o M l.length cp (mapsC l) q.cells = _
  unfold Z2o
  rw [if_pos (Mp.cells_len hq)]; rfl
 obtain ⟨z, h1, h2⟩ := Z16h M h hq hb cp M 0 (by unfold M; omega) (by omega)
 rw [if_pos (Mp.cells_len hq), e, h1, Option.bind_some, rdI_v, Option.bind_some, h2, Znm]
structure Rcd where
 s : Bool
 hp : Bool
 ps : List Pol
 pc : Option Nat
 hm : Bool
 ms : List Mp
 mc : Option Nat
 r : Int
 i : Int
 y : Int
abbrev Rcd.cells (q : Rcd) : List D := recC q.s q.hp q.ps.length q.pc (polsC q.ps) q.hm q.ms.length q.mc (mapsC q.ms) q.r q.i q.y
structure Rcd.ok (q : Rcd) : Prop where
 ps : ∀ p, p ∈ q.ps → p.id.ok
 q0 : ∀ p, p ∈ q.ps → QOk p.qn p.qs
 ms : ∀ p, p ∈ q.ms → p.ok
def Rcd.shape (q : Rcd) : Int :=
 if 0 < q.ps.length ∧ q.hp = false ∨ 0 < q.ms.length ∧ q.hm = false ∨ q.r < -1 ∨ q.i < -1 ∨ q.y < -1 then 1
 else if 2147483647 < q.r ∨ 2147483647 < q.i ∨ 2147483647 < q.y ∨ 64 < q.ps.length ∨ 64 < q.ms.length then 3
 else if q.hp = true ∧ q.ps.length = 0 ∨ q.hm = true ∧ q.ms.length = 0 then 17 else 0
theorem Rcd.shape_small {q : Rcd} (h : q.shape = 0) : q.ps.length ≤ 64 ∧ q.ms.length ≤ 64 := by
 unfold Rcd.shape at h
 split at h
 ·cases h
 ·split at h
  ·cases h
  ·omega
def Rcd.mapsE (q : Rcd) (k : Nat) : Int := firstE (mapErr q.ms) (q.ms.length - k) k
def Rcd.polsE (q : Rcd) (k : Nat) : Int := let e := firstE (polErr q.ps) (q.ps.length - k) k; if e = 0 then q.mapsE 0 else e
def Rcd.err (q : Rcd) : Int := if q.shape = 0 then q.polsE 0 else q.shape
theorem Rcd.mapsE_step {q : Rcd} {k : Nat} (h : k < q.ms.length) : q.mapsE k = if mapErr q.ms k = 0 then q.mapsE (k + 1) else mapErr q.ms k := by
 unfold Rcd.mapsE
 obtain ⟨n, hn⟩ : ∃ n, q.ms.length - k = n + 1 := ⟨q.ms.length - k - 1, by omega⟩
 rw [hn, firstE, show q.ms.length - (k + 1) = n by omega]
theorem Rcd.mapsE_end {q : Rcd} {k : Nat} (h : q.ms.length ≤ k) : q.mapsE k = 0 := by
 unfold Rcd.mapsE
 rw [show q.ms.length - k = 0 by omega]; rfl
theorem Rcd.polsE_step {q : Rcd} {k : Nat} (h : k < q.ps.length) : q.polsE k = if polErr q.ps k = 0 then q.polsE (k + 1) else polErr q.ps k := by
 unfold Rcd.polsE
 obtain ⟨n, hn⟩ : ∃ n, q.ps.length - k = n + 1 := ⟨q.ps.length - k - 1, by omega⟩
 simp only
 rw [hn, firstE, show q.ps.length - (k + 1) = n by omega]
 by_cases h0 : polErr q.ps k = 0
 ·rw [if_pos h0, if_pos h0]
 ·rw [if_neg h0, if_neg h0, if_neg h0]
theorem Rcd.polsE_end {q : Rcd} {k : Nat} (h : q.ps.length ≤ k) : q.polsE k = q.mapsE 0 := by
 unfold Rcd.polsE
 rw [show q.ps.length - k = 0 by omega]; rfl
theorem Z1b4 {l : List Mp} {i : Nat} (hi : i < l.length) : mapErr l i = if l[i].i.good = false then 1 else if l[i].s.good = false then 1 else cond ((l.take i).contains l[i]) 14 0 := by
 unfold mapErr
 rw [List.getElem?_eq_getElem hi]
 simp only
 cases (l.take i).contains l[i] <;> rfl
theorem Z1b5 (m : Nat) {q : Rcd} (h : q.ok) (hb : q.ms.length < 1000000) : ∀ (c k : Nat), q.ms.length - k < c → k ≤ q.ms.length →
  Za9 m c q.ms.length q.mc (mapsC q.ms) (q.ms.length : Int) (k : Int) q.s q.hp q.ps.length q.pc (polsC q.ps) q.hm q.r q.i q.y = some (.v (.int .i64 (q.mapsE k)))
 | 0, k, hc, hk => by omega
 | c + 1, k, hc, hk => by
  have hl := Zx9 h.ms
  rw [Ztt]
  by_cases hlt : k < q.ms.length
  ·have e1 : IntKind.wrap .i64 ((k : Int) + 1) = ((k + 1 : Nat) : Int) := Zbu (by omega) (by omega)
   have hok := h.ms _ (List.getElem_mem hlt)
   have ht : (mapsC q.ms).take (k * 34) = mapsC (q.ms.take k) := row_take fun x hx => Mp.cells_len (h.ms x hx)
   have hh : ∀ p, p ∈ q.ms.take k → p.ok := fun p hp => h.ms p (List.mem_of_mem_take hp)
   have htl : (q.ms.take k).length = k := by simp; omega
   have hc' := Z1b3 hh hok (by omega) (Option.map (fun q => q - 0) q.mc)
   rw [htl] at hc'
   rw [decide_eq_true (by omega), cond_true, if_pos (by omega), e1]
   simp only [Int.toNat_natCast, Nat.sub_zero, List.drop_zero]
   rw [if_pos (by omega), Z148 h.ms hlt, if_pos (Mp.cells_len hok), Mp.cells_i hok, Mp.cells_s hok, Zix hok.i, Zix hok.s, Option.bind_some, rdI_v, Option.bind_some, Oid.err_bne, Rcd.mapsE_step hlt, Z1b4 hlt]
   cases hg : q.ms[k].i.good with
   | false => rw [Oid.err_bad hg]; rfl
   | true =>
    rw [if_neg (show ¬ (true = false) by simp), Bool.not_true, cond_false, Option.bind_some, rdI_v, Option.bind_some, Oid.err_bne]
    cases hg2 : q.ms[k].s.good with
    | false => rw [Oid.err_bad hg2]; rfl
    | true =>
     rw [if_neg (show ¬ (true = false) by simp), Bool.not_true, cond_false, if_pos (by omega), ht]
     simp only [Nat.sub_zero] at hc'
     rw [hc', Option.bind_some, rdB_v, Option.bind_some, Z1b5 m h hb c (k + 1) (by omega) (by omega)]
     cases (q.ms.take k).contains q.ms[k] <;> rfl
  ·rw [decide_eq_false (by omega), cond_false, Rcd.mapsE_end (by omega)]
theorem Z1b6 {q : Rcd} (h : q.ok) (hb : q.ps.length < 1000000) (hb2 : q.ms.length < 1000000) : ∀ (c k : Nat), q.ps.length - k < c → k ≤ q.ps.length →
  Zdb M c (q.ps.length : Int) (k : Int) q.s q.hp q.ps.length q.pc (polsC q.ps) q.hm q.ms.length q.mc (mapsC q.ms) q.r q.i q.y = some (.v (.int .i64 (q.polsE k)))
 | 0, k, hc, hk => by omega
 | c + 1, k, hc, hk => by
  rw [Zuu]
  by_cases hlt : k < q.ps.length
  ·have e1 : IntKind.wrap .i64 ((k : Int) + 1) = ((k + 1 : Nat) : Int) := Zbu (by omega) (by omega)
   rw [decide_eq_true (by omega), cond_true, Zx8 h.ps h.q0 hb q.pc hlt, Option.bind_some, rdI_v, Option.bind_some, e1, Z1b6 h hb hb2 c (k + 1) (by omega) (by omega), Rcd.polsE_step hlt]
   by_cases h0 : polErr q.ps k = 0
   ·rw [if_pos h0, h0]; rfl
   ·rw [if_neg h0, bne_iff_ne.2 h0]; rfl
  ·rw [decide_eq_false (by omega), cond_false, Rcd.polsE_end (by omega)]
   exact Z1b5 M h hb2 M 0 (by unfold M; omega) (by omega)
theorem Zz8 {q : Rcd} (h : q.ok) : Z22 [.agg q.cells] = some (.v (.int .i64 q.err)) := by
 show Zh5 M q.s q.hp q.ps.length q.pc (polsC q.ps) q.hm q.ms.length q.mc (mapsC q.ms) q.r q.i q.y = _
 unfold Zh5
 rw [Zz7, Option.bind_some, rdI_v, Option.bind_some]
 show cond (q.shape != 0) (some (D.v (.int .i64 q.shape))) _ = _
 unfold Rcd.err
 by_cases h0 : q.shape = 0
 ·have := Rcd.shape_small h0
  rw [if_pos h0, h0, show ((0 : Int) != 0) = false from rfl, cond_false]
  exact Z1b6 h (by omega) (by omega) M 0 (by unfold M; omega) (by omega)
 ·rw [if_neg h0, bne_iff_ne.2 h0, cond_true]
end Go.Ev