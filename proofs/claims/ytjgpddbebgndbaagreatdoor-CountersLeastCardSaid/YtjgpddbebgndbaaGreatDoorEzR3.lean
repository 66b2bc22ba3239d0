/-
  Chains as plain data.
-/
import Derived.Test.YtjgpddbebgndbaaGreatDoorEzR2
import Derived.Test.YtjgpddbebgndbaaGreatDoorEzL3
set_option linter.unusedSimpArgs false
set_option linter.unusedVariables false
set_option maxRecDepth 100000
namespace Go.Ev
open Go

structure Ci where
  l : List Ri
  lc : Option Nat
  u : Nat
  f : Nat
structure Ci.ok (x : Ci) : Prop where
  l : ∀ r, r ∈ x.l → r.ok
  ll : x.l.length ≤ 9223372036854775807
  u : x.u < 256
  f : x.f < 256
def risC (l : List Ri) : List D := (l.map Ri.cells).flatten
theorem Ri.cells_len (x : Ri) : x.cells.length = 6 := rfl
theorem risC_len (l : List Ri) : (risC l).length = l.length * 6 := rows_len fun x _ => x.cells_len
theorem risC_get {l : List Ri} {i : Nat} (hi : i < l.length) : ((risC l).drop (i * 6)).take 6 = l[i].cells := row_get (fun x _ => x.cells_len) hi
def Ci.cells (x : Ci) : List D := [.list x.l.length x.lc (risC x.l), .v (.int .u8 (x.u : Int)), .v (.int .u8 (x.f : Int))]
def rcdsC (l : List Rcd) : List D := (l.map Rcd.cells).flatten
theorem Rcd.cells_len (q : Rcd) : q.cells.length = 8 := rfl
theorem rcdsC_len (l : List Rcd) : (rcdsC l).length = l.length * 8 := rows_len fun q _ => q.cells_len
theorem rcdsC_append (a b : List Rcd) : rcdsC (a ++ b) = rcdsC a ++ rcdsC b := by simp [rcdsC]
theorem rcdsC_one (a : Rcd) : rcdsC [a] = a.cells := by simp [rcdsC]
/-- The empty record as plain data. -/
def ri0 : Ri := ⟨0, [], some 0, [], some 0, 0, 0, 0⟩
theorem ri0_ok : ri0.ok := ⟨by decide, (fun k hk => nomatch hk), (fun k hk => nomatch hk), by decide, by decide, by decide, by decide, by decide⟩
theorem ri0_cells : ri0.cells = [.v (.int .u8 (0 : Int)), .list 0 (some 0) [], .list 0 (some 0) [], .v (.int .u8 (0 : Int)), .v (.int .u8 (0 : Int)), .v (.int .u8 (0 : Int))] := rfl
/-- The policies whose bits are set. -/
abbrev Ini := List Oid × Option Nat
def iniStep (u i : Nat) (s : Ini) : Ini := if u / 2 ^ i % 2 = 1 then (putO s.1 (polO i), none) else s
def iniFrom (u : Nat) : Nat → Nat → Ini → Ini
  | 0, _, s => s
  | k + 1, i, s => iniFrom u k (i + 1) (iniStep u i s)
def Ci.chain (x : Ci) : List Rcd := if x.l.length = 0 then [ri0.rcd] else (x.l.take 5).map Ri.rcd
def Ci.ini (x : Ci) : Ini := iniFrom x.u 7 0 ([], some 0)

theorem shift_u8 (u i : Nat) (hi : i < 8) : (Int.tmod (Int.fdiv (u : Int) (2 ^ (min (Int.toNat (i : Int)) (IntKind.bits .u8)))) (2 : Int) == (1 : Int)) = decide (u / 2 ^ i % 2 = 1) := by
  have e : min (Int.toNat (i : Int)) (IntKind.bits .u8) = i := by simp [IntKind.bits]; omega
  rw [e]
  have e2 : Int.fdiv (u : Int) (2 ^ i) = ((u / 2 ^ i : Nat) : Int) := by
    rw [Int.fdiv_eq_ediv_of_nonneg _ (by exact_mod_cast Nat.zero_le _)]
    push_cast
    rfl
  rw [e2, show (2 : Int) = ((2 : Nat) : Int) from rfl, tmod_nat]
  generalize u / 2 ^ i % 2 = q
  by_cases h : q = 1
  · subst h; rfl
  · rw [decide_eq_false h]; exact i_ne (by omega)

theorem ini_ok : ∀ (k i u : Nat) (s : Ini), (∀ x, x ∈ s.1 → x.ok) → ∀ x, x ∈ (iniFrom u k i s).1 → x.ok
  | 0, i, u, s, h => h
  | k + 1, i, u, s, h => ini_ok k (i + 1) u _ (by
      unfold iniStep; split
      · exact putO_ok h (polO_ok i)
      · exact h)

theorem cof_loop2 {m : Nat} {y1_2 : Nat} {y1_3 : Option Nat} {y1_4 : List D} {y1_6 : Int} {y1_7 y1_8 y1_9 y1_15 y1_16 y1_17 : Bool} {u : Nat} (hu : u < 256) {rs : List Rcd} : ∀ (c k i : Nat) (s : Ini), k < c → k + i = 7 → (∀ x, x ∈ s.1 → x.ok) → s.1.length ≤ i →
    F_law23_C_Of_10 m c rs.length (i : Int) y1_2 y1_3 y1_4 (u : Int) y1_6 y1_7 y1_8 y1_9 (rs.length * 8) (rcdsC rs) s.1.length s.2 (oidsC s.1) y1_15 y1_16 y1_17 =
    some (.tup [.list rs.length none (rcdsC rs), .agg [.list (iniFrom u k i s).1.length (iniFrom u k i s).2 (oidsC (iniFrom u k i s).1), .v (.bool y1_15), .v (.bool y1_16), .v (.bool y1_17)]])
  | 0, k, i, s, hc, hk, hs, hl => by omega
  | c + 1, k, i, s, hc, hk, hs, hl => by
    rw [F_law23_C_Of_10_s]
    match k with
    | 0 =>
      refine st_cF (decide_eq_false (by omega)) ?_
      refine st_if (by omega) ?_
      rw [cutL_all (rcdsC_len rs)]; rfl
    | k + 1 =>
      refine st_cT (decide_eq_true (by omega)) ?_
      refine st_ifn (by omega) ?_
      rw [shift_u8 u i (by omega)]
      have next : ∀ s' : Ini, (∀ x, x ∈ s'.1 → x.ok) → s'.1.length ≤ i + 1 → F_law23_C_Of_j11 m c rs.length (i : Int) y1_2 y1_3 y1_4 (u : Int) y1_6 y1_7 y1_8 y1_9 (rs.length * 8) (rcdsC rs) s'.1.length s'.2 (oidsC s'.1) y1_15 y1_16 y1_17 =
          some (.tup [.list rs.length none (rcdsC rs), .agg [.list (iniFrom u k (i + 1) s').1.length (iniFrom u k (i + 1) s').2 (oidsC (iniFrom u k (i + 1) s').1), .v (.bool y1_15), .v (.bool y1_16), .v (.bool y1_17)]]) := fun s' h1 h2 => by
        rw [F_law23_C_Of_j11_e, wrap_succ (by omega)]
        exact cof_loop2 hu c k (i + 1) s' (by omega) (by omega) h1 h2
      simp only [iniFrom, iniStep]
      by_cases hb : u / 2 ^ i % 2 = 1
      · refine st_cT (decide_eq_true hb) ?_
        rw [wrap_u8_nat (by omega), if_pos hb]
        refine st_bind (law_Policy i) ?_
        refine st_bind (rdA_v _) ?_
        refine st_bind (law_Put hs (polO_ok i) (by omega) s.2) ?_
        refine st_bind (rdL_v _ _ _) ?_
        have := putFrom_len (polO i) s.1 false
        exact next (putO s.1 (polO i), none) (putO_ok hs (polO_ok i)) (by simp at this ⊢; unfold putO; omega)
      · refine st_cF (decide_eq_false hb) ?_
        rw [if_neg hb]
        exact next s hs (by omega)

def Ci.x (x : Ci) : Bool := x.f % 2 == 1
def Ci.y (x : Ci) : Bool := x.f / 2 % 2 == 1
def Ci.z (x : Ci) : Bool := x.f / 4 % 2 == 1
def Ci.out (x : Ci) : D := .tup [.list x.chain.length none (rcdsC x.chain), .agg (inC x.ini.1 x.ini.2 x.x x.y x.z)]

theorem bit_u8 (f d : Nat) (hf : f < 256) (hd : 0 < d) : (Int.tmod (IntKind.wrap .u8 (Int.tdiv (f : Int) ((d : Nat) : Int))) (2 : Int) == (1 : Int)) = (f / d % 2 == 1) := by
  rw [tdiv_nat, wrap_u8_nat (Nat.lt_of_le_of_lt (Nat.div_le_self _ _) hf), show (2 : Int) = ((2 : Nat) : Int) from rfl, tmod_nat]
  have : f / d % 2 < 2 := Nat.mod_lt _ (by omega)
  generalize f / d % 2 = j at this
  match j, this with
  | 0, _ | 1, _ => rfl

theorem cof_8 {x : Ci} (h : x.ok) {m : Nat} (hm : 8 < m) {u2_1 : Nat} {u2_2 : Option Nat} {u2_3 : List D} {b1 b2 b3 : Bool} {rs : List Rcd} :
    F_law23_C_Of_j8 m rs.length u2_1 u2_2 u2_3 (x.u : Int) (x.f : Int) b1 b2 b3 (rs.length * 8) (rcdsC rs) = some (.tup [.list rs.length none (rcdsC rs), .agg (inC x.ini.1 x.ini.2 x.x x.y x.z)]) := by
  rw [F_law23_C_Of_j8_e]
  have e1 := bit_u8 x.f 1 h.f (by omega)
  have e2 := bit_u8 x.f 2 h.f (by omega)
  have e4 := bit_u8 x.f 4 h.f (by omega)
  have e0 : (Int.tmod (x.f : Int) (2 : Int) == (1 : Int)) = x.x := by
    rw [show (2 : Int) = ((2 : Nat) : Int) from rfl, tmod_nat]
    unfold Ci.x
    have : x.f % 2 < 2 := Nat.mod_lt _ (by omega)
    generalize x.f % 2 = j at this
    match j, this with
    | 0, _ | 1, _ => rfl
  rw [show (4 : Int) = ((4 : Nat) : Int) from rfl, e4, e0, show Int.tdiv (x.f : Int) (2 : Int) = Int.tdiv (x.f : Int) ((2 : Nat) : Int) from rfl, e2]
  exact cof_loop2 h.u m 7 0 ([], some 0) (by omega) (by omega) (fun x hx => nomatch hx) (by simp)

theorem cof_loop {x : Ci} (h : x.ok) {m : Nat} (hm : 8 < m) {b1 b2 b3 : Bool} : ∀ (c i : Nat), x.l.length - i < c → i ≤ min x.l.length 5 →
    F_law23_C_Of_3 m c ((x.l.take i).map Ri.rcd).length (i : Int) x.l.length x.lc (risC x.l) (x.u : Int) (x.f : Int) b1 b2 b3 (((x.l.take i).map Ri.rcd).length * 8) (rcdsC ((x.l.take i).map Ri.rcd)) = some x.out
  | 0, i, hc, hi => by omega
  | c + 1, i, hc, hi => by
    have hll := h.ll
    have hlen : ((x.l.take i).map Ri.rcd).length = i := by simp; omega
    have hr := risC_len x.l
    rw [F_law23_C_Of_3_s]
    have j6 : i = min x.l.length 5 → F_law23_C_Of_j6 m ((x.l.take i).map Ri.rcd).length x.l.length x.lc (risC x.l) (x.u : Int) (x.f : Int) b1 b2 b3 (((x.l.take i).map Ri.rcd).length * 8) (rcdsC ((x.l.take i).map Ri.rcd)) = some x.out := fun hi => by
      rw [F_law23_C_Of_j6_e]
      unfold Ci.out Ci.chain
      by_cases h0 : x.l.length = 0
      · rw [if_pos h0]
        have : i = 0 := by omega
        subst this
        refine st_cT (i_eq (by omega)) ?_
        rw [← ri0_cells]
        refine st_bind (law_R_Of ri0_ok) ?_
        refine st_bind (rdA_v _) ?_
        refine st_if ri0.rcd.cells_len ?_
        refine st_if ⟨rfl, by first | rfl | trivial, by constructor <;> (rw [hlen]; omega), ri0.rcd.cells_len⟩ ?_
        have := cof_8 h hm (rs := [ri0.rcd]) (u2_1 := x.l.length) (u2_2 := x.lc) (u2_3 := risC x.l) (b1 := b1) (b2 := b2) (b3 := b3)
        rw [rcdsC_one] at this
        exact this
      · rw [if_neg h0]
        refine st_cF (i_ne (by omega)) ?_
        have e : x.l.take i = x.l.take 5 := by
          rw [hi]
          rcases Nat.le_total x.l.length 5 with hh | hh
          · rw [Nat.min_eq_left hh, List.take_length, List.take_of_length_le hh]
          · rw [Nat.min_eq_right hh]
        rw [e]
        exact cof_8 h hm
    by_cases hlt : i < x.l.length
    · refine st_cT (decide_eq_true (by omega)) ?_
      by_cases h5 : i < 5
      · refine st_cT (decide_eq_true (by omega)) ?_
        rw [F_law23_C_Of_j5_e]
        simp only [Int.toNat_natCast]
        rw [risC_get hlt]
        refine st_if (by omega) ?_
        refine st_if (by omega) ?_
        refine st_bind (law_R_Of (h.l _ (List.getElem_mem hlt))) ?_
        refine st_bind (rdA_v _) ?_
        refine st_if (Rcd.cells_len _) ?_
        refine st_if ⟨rfl, by first | rfl | trivial, by constructor <;> (rw [hlen]; omega), Rcd.cells_len _⟩ ?_
        have e : (x.l.take (i + 1)).map Ri.rcd = (x.l.take i).map Ri.rcd ++ [x.l[i].rcd] := by
          rw [List.take_add_one, List.getElem?_eq_getElem hlt, List.map_append]; rfl
        have := cof_loop h hm (b1 := b1) (b2 := b2) (b3 := b3) c (i + 1) (by omega) (by omega)
        rw [e, List.length_append, List.length_singleton, rcdsC_append, rcdsC_one] at this
        rw [wrap_succ (by omega)]
        exact this
      · refine st_cF (decide_eq_false (by omega)) ?_
        exact j6 (by omega)
    · refine st_cF (decide_eq_false (by omega)) ?_
      exact j6 (by omega)

theorem law_C_Of {x : Ci} (h : x.ok) : sp_law23_C_Of [.agg x.cells] = some x.out := by
  show F_law23_C_Of M x.l.length x.lc (risC x.l) (x.u : Int) (x.f : Int) = _
  unfold F_law23_C_Of
  have := h.ll
  exact cof_loop h (m := M) (by unfold M; omega) M 0 (by unfold M; omega) (by omega)

/-! ### They are valid -/
theorem Ci.chain_len (x : Ci) : 1 ≤ x.chain.length ∧ x.chain.length ≤ 5 := by
  unfold Ci.chain
  split
  · simp
  · simp; omega
theorem Ci.chain_one (x : Ci) : ∀ q, q ∈ x.chain → ∃ r : Ri, q = r.rcd := by
  unfold Ci.chain
  intro q hq
  split at hq
  · simp at hq; exact ⟨_, hq⟩
  · obtain ⟨r, _, rfl⟩ := List.mem_map.1 hq; exact ⟨r, rfl⟩
theorem iniFrom_mod (u : Nat) : ∀ (k i : Nat) (s : Ini), k + i ≤ 7 → iniFrom u k i s = iniFrom (u % 128) k i s
  | 0, i, s, h => rfl
  | k + 1, i, s, h => by
    unfold iniFrom
    have e : u % 128 / 2 ^ i % 2 = u / 2 ^ i % 2 := by
      have : i ≤ 6 := by omega
      match i, this with
      | 0, _ | 1, _ | 2, _ | 3, _ | 4, _ | 5, _ | 6, _ => simp only [Nat.reducePow]; omega
    have : iniStep (u % 128) i s = iniStep u i s := by unfold iniStep; rw [e]
    rw [this]
    exact iniFrom_mod u k (i + 1) _ (by omega)
theorem ini_good_all : (List.range 128).all (fun u => decide (setErr (iniFrom u 7 0 ([], some 0)).1 = 0)) = true := by decide +kernel
theorem Ci.ini_ok (x : Ci) : ∀ o, o ∈ x.ini.1 → o.ok := Go.Ev.ini_ok 7 0 x.u _ (fun x hx => nomatch hx)
theorem Ci.ini_good (x : Ci) : setErr x.ini.1 = 0 := by
  unfold Ci.ini
  rw [iniFrom_mod x.u 7 0 _ (by omega)]
  have := List.all_eq_true.1 ini_good_all (x.u % 128) (List.mem_range.2 (Nat.mod_lt _ (by omega)))
  simpa using this
end Go.Ev
