/-
  The statements about the first certificates before which counters are 0.
-/
import Derived.Test.YtjgpddbebgndbaaGreatDoorEzR5
set_option linter.unusedSimpArgs false
set_option linter.unusedVariables false
set_option maxRecDepth 100000
namespace Go.Ev
open Go

/-- One counter behind the first records. -/
def compAt (lim : Rcd → Int) (l : List Rcd) (v : Int) (k : Nat) : Int := (l.take k).foldl (fun v q => afterC q.s v (lim q)) v
theorem foldl_nx : ∀ (l : List Rcd) (c : C3), l.foldl (fun c q => q.nx c) c = (l.foldl (fun v q => afterC q.s v q.r) c.1, l.foldl (fun v q => afterC q.s v q.i) c.2.1, l.foldl (fun v q => afterC q.s v q.y) c.2.2)
  | [], c => rfl
  | q :: r, c => by rw [List.foldl_cons, foldl_nx r]; rfl
theorem stAt_comp (l : List Rcd) (c : C3) (k : Nat) : stAt l c k = (compAt Rcd.r l c.1 k, compAt Rcd.i l c.2.1 k, compAt Rcd.y l c.2.2 k) := foldl_nx _ _

/-- The number of the first one that is 0, else 'v'. -/
def firstZ (f : Nat → Int) : Nat → Nat → Int → Int
  | _, 0, v => v
  | k, n + 1, v => if f k = 0 then ((k + 1 : Nat) : Int) else firstZ f (k + 1) n v
def fwZ (f : Nat → Int) : Nat → Nat → Int → Int
  | _, 0, v => v
  | k, n + 1, v => fwZ f (k + 1) n (atC v (f k) k)
def bwZ (f : Nat → Int) : Nat → Int → Int
  | 0, v => v
  | n + 1, v => bwZ f n (if f n = 0 then ((n + 1 : Nat) : Int) else v)
theorem fwZ_small (f : Nat → Int) : ∀ (n k : Nat) (v : Int), v ≤ k → fwZ f k n v = v
  | 0, k, v, h => rfl
  | n + 1, k, v, h => by
    have e : atC v (f k) k = v := by
      unfold atC mm
      cases (f k == 0) with
      | true => simp; omega
      | false => rfl
    unfold fwZ
    rw [e]; exact fwZ_small f n (k + 1) v (by omega)
theorem fwZ_first (f : Nat → Int) : ∀ (n k : Nat) (v : Int), ((k + n + 1 : Nat) : Int) ≤ v → fwZ f k n v = firstZ f k n v
  | 0, k, v, h => rfl
  | n + 1, k, v, h => by
    unfold fwZ firstZ atC
    by_cases h0 : f k = 0
    · rw [if_pos h0, h0, show ((0 : Int) == 0) = true from rfl, cond_true]
      have e : mm true v ((k + 1 : Nat) : Int) = ((k + 1 : Nat) : Int) := by unfold mm; simp; omega
      rw [e, fwZ_small f n (k + 1) _ (by omega)]
    · rw [if_neg h0, i_ne h0, cond_false]
      exact fwZ_first f n (k + 1) v (by rw [show k + 1 + n + 1 = k + (n + 1) + 1 by omega]; exact h)
theorem firstZ_snoc (f : Nat → Int) : ∀ (n k : Nat) (v : Int), firstZ f k (n + 1) v = firstZ f k n (if f (k + n) = 0 then ((k + n + 1 : Nat) : Int) else v)
  | 0, k, v => rfl
  | n + 1, k, v => by
    rw [firstZ, firstZ_snoc f n (k + 1) v]
    conv => rhs; rw [firstZ]
    rw [show k + 1 + n = k + (n + 1) by omega]
theorem bwZ_first (f : Nat → Int) : ∀ (n : Nat) (v : Int), bwZ f n v = firstZ f 0 n v
  | 0, v => rfl
  | n + 1, v => by
    rw [bwZ, bwZ_first f n, firstZ_snoc]; simp
theorem zeroC_eq {l : List Rcd} (c : C3) : ∀ (n k : Nat) (a b d : Int), k + n = l.length → zeroC Rcd.nx a b d (stAt l c k) k (l.drop k) =
    [.v (.int .i64 (fwZ (compAt Rcd.r l c.1) k n a)), .v (.int .i64 (fwZ (compAt Rcd.i l c.2.1) k n b)), .v (.int .i64 (fwZ (compAt Rcd.y l c.2.2) k n d)), .v (.int .i64 0)]
  | 0, k, a, b, d, h => by rw [List.drop_eq_nil_of_le (by omega)]; rfl
  | n + 1, k, a, b, d, h => by
    have hk : k < l.length := by omega
    rw [List.drop_eq_getElem_cons hk, zeroC, ← stAt_succ hk, zeroC_eq c n (k + 1) _ _ _ (by omega)]
    simp only [fwZ, stAt_comp]

/-- The first certificates before which the counters are 0. -/
def wantZ (l : List Rcd) (lim : Rcd → Int) (v : Int) : Int := firstZ (compAt lim l v) 0 l.length ((l.length : Int) + 1)
theorem wantZ_zero {l : List Rcd} (h : 0 < l.length) (lim : Rcd → Int) : wantZ l lim 0 = 1 := by
  unfold wantZ
  obtain ⟨n, hn⟩ : ∃ n, l.length = n + 1 := ⟨l.length - 1, by omega⟩
  rw [hn, firstZ, if_pos (show compAt lim l 0 0 = 0 from rfl)]; rfl
section
variable {l : List Rcd} (h : Chain l) {cp : Option Nat} {u : List Oid} (hu : ∀ x, x ∈ u → x.ok) (hue : setErr u = 0) {cu : Option Nat} {x y z : Bool}
include h hu hue
theorem zero_all : sp_counters_Zero [.list l.length cp (rcdsC l), .agg (inC u cu x y z)] =
    some (.tup [.v (.int .i64 (wantZ l Rcd.r (c0 l.length x y z).1)), .v (.int .i64 (wantZ l Rcd.i (c0 l.length x y z).2.1)), .v (.int .i64 (wantZ l Rcd.y (c0 l.length x y z).2.2)), .v (.int .i64 0)]) := by
  have h1 := law_counters_Zero (Rcd.does l) h.chk cp hu cu x y z
  rw [if_pos (h.all hue)] at h1
  refine h1.trans ?_
  have := zeroC_eq (l := l) (c0 l.length x y z) l.length 0 ((l.length : Int) + 1) ((l.length : Int) + 1) ((l.length : Int) + 1) (by omega)
  rw [List.drop_zero] at this
  have e : stAt l (c0 l.length x y z) 0 = c0 l.length x y z := rfl
  rw [e] at this
  rw [this, fwZ_first _ _ _ _ (by omega), fwZ_first _ _ _ _ (by omega), fwZ_first _ _ _ _ (by omega)]
  rfl
end
theorem t4 {a b c d : D} : [a, b, c, d].length = 4 := rfl

section
variable {l : List Rcd} (h : Chain l) {cp : Option Nat} {u : List Oid} (hu : ∀ x, x ∈ u → x.ok) (hue : setErr u = 0) {cu : Option Nat} {x y z : Bool}
include h hu hue
theorem zero_23 {m u4_4 : Nat} {u4_5 : Option Nat} {u4_6 : List D} {u4_7 u4_8 : Int} {n : Nat} (a b d : Int)
    (h0 : n % 3 = 0 → wantZ l Rcd.r (c0 l.length x y z).1 = 1 ∧ wantZ l Rcd.i (c0 l.length x y z).2.1 = b ∧ wantZ l Rcd.y (c0 l.length x y z).2.2 = d)
    (h1 : n % 3 = 1 → wantZ l Rcd.r (c0 l.length x y z).1 = a ∧ wantZ l Rcd.i (c0 l.length x y z).2.1 = 1 ∧ wantZ l Rcd.y (c0 l.length x y z).2.2 = d)
    (h2 : n % 3 = 2 → wantZ l Rcd.r (c0 l.length x y z).1 = a ∧ wantZ l Rcd.i (c0 l.length x y z).2.1 = b ∧ wantZ l Rcd.y (c0 l.length x y z).2.2 = 1) :
    F_law24_CountersZero_j23 m (n : Int) l.length cp (rcdsC l) u4_4 u4_5 u4_6 u4_7 u4_8 (inC u cu x y z) a b d = some (.v (.bool true)) := by
  rw [F_law24_CountersZero_j23_e, show Int.tmod (n : Int) (3 : Int) = ((n % 3 : Nat) : Int) from tmod_nat _ 3]
  have hlt : n % 3 < 3 := Nat.mod_lt _ (by omega)
  generalize n % 3 = j at hlt h0 h1 h2 ⊢
  refine st_if (by omega) ?_
  simp only [Int.toNat_natCast]
  refine st_if (by simp; omega) ?_
  refine st_bind (zero_all h hu hue) ?_
  refine st_bind (rdT_v _) ?_
  refine st_if t4 ?_
  refine st_bind (rdI_v _ _) ?_
  refine st_bind (rdI_v _ _) ?_
  refine st_bind (rdI_v _ _) ?_
  refine st_bind (rdI_v _ _) ?_
  refine st_cT rfl ?_
  have fin : (sp_law24_lives []).bind (fun d43 => (rdB (some d43)).bind fun b44 => some (D.v (.bool b44))) = some (D.v (.bool true)) := st_bind law_lives (st_bind (rdB_v _) rfl)
  match j, hlt with
  | 0, _ =>
    obtain ⟨e1, e2, e3⟩ := h0 rfl
    refine st_bind (rdI_v _ _) ?_
    refine st_cT (i_eq e1) ?_
    refine st_bind (rdI_v _ _) ?_
    refine st_cT (i_eq e2) ?_
    refine st_bind (rdI_v _ _) ?_
    exact st_cT (i_eq e3) fin
  | 1, _ =>
    obtain ⟨e1, e2, e3⟩ := h1 rfl
    refine st_bind (rdI_v _ _) ?_
    refine st_cT (i_eq e1) ?_
    refine st_bind (rdI_v _ _) ?_
    refine st_cT (i_eq e2) ?_
    refine st_bind (rdI_v _ _) ?_
    exact st_cT (i_eq e3) fin
  | 2, _ =>
    obtain ⟨e1, e2, e3⟩ := h2 rfl
    refine st_bind (rdI_v _ _) ?_
    refine st_cT (i_eq e1) ?_
    refine st_bind (rdI_v _ _) ?_
    refine st_cT (i_eq e2) ?_
    refine st_bind (rdI_v _ _) ?_
    exact st_cT (i_eq e3) fin

theorem zero_16 {m u3_4 : Nat} {u3_5 : Option Nat} {u3_6 : List D} {u3_7 u3_8 : Int} {n : Nat} :
    F_law24_CountersZero_j16 m (n : Int) l.length cp (rcdsC l) u3_4 u3_5 u3_6 u3_7 u3_8 (inC u cu x y z) (wantZ l Rcd.r (c0 l.length x y z).1) (wantZ l Rcd.i (c0 l.length x y z).2.1) (wantZ l Rcd.y (c0 l.length x y z).2.2) = some (.v (.bool true)) := by
  rw [F_law24_CountersZero_j16_e]
  have e3 : Int.tmod (n : Int) (3 : Int) = ((n % 3 : Nat) : Int) := tmod_nat _ 3
  have hlt : n % 3 < 3 := Nat.mod_lt _ (by omega)
  have hp := h.pos
  by_cases h0 : n % 3 = 0
  · refine st_cT (i_eq (by omega)) ?_
    exact zero_23 h hu hue (x := true) _ _ _ (fun _ => ⟨wantZ_zero (by omega) _, rfl, rfl⟩) (fun e => by omega) (fun e => by omega)
  · refine st_cF (i_ne (by omega)) ?_
    by_cases h1 : n % 3 = 1
    · refine st_cT (i_eq (by omega)) ?_
      exact zero_23 h hu hue (y := true) _ _ _ (fun e => by omega) (fun _ => ⟨rfl, wantZ_zero (by omega) _, rfl⟩) (fun e => by omega)
    · refine st_cF (i_ne (by omega)) ?_
      refine st_cT (i_eq (by omega)) ?_
      exact zero_23 h hu hue (z := true) _ _ _ (fun e => by omega) (fun e => by omega) (fun _ => ⟨rfl, rfl, wantZ_zero (by omega) _⟩)

theorem zero_5 {m : Nat} {y0_9 : Nat} {y0_10 : Option Nat} {y0_11 : List D} {y0_12 y0_13 : Int} {n : Nat} : ∀ (c k : Nat) (a b d : Int), k < c → k ≤ l.length →
    bwZ (compAt Rcd.r l (c0 l.length x y z).1) k a = wantZ l Rcd.r (c0 l.length x y z).1 → bwZ (compAt Rcd.i l (c0 l.length x y z).2.1) k b = wantZ l Rcd.i (c0 l.length x y z).2.1 → bwZ (compAt Rcd.y l (c0 l.length x y z).2.2) k d = wantZ l Rcd.y (c0 l.length x y z).2.2 →
    F_law24_CountersZero_5 m c (n : Int) l.length cp (rcdsC l) (wantZ l Rcd.r (c0 l.length x y z).1) (wantZ l Rcd.i (c0 l.length x y z).2.1) (wantZ l Rcd.y (c0 l.length x y z).2.2) 0 (k : Int) y0_9 y0_10 y0_11 y0_12 y0_13 (inC u cu x y z) a b d = some (.v (.bool true))
  | 0, k, a, b, d, hc, hk, _, _, _ => by omega
  | c + 1, k, a, b, d, hc, hk, ha, hb, hd => by
    have hle := h.le
    rw [F_law24_CountersZero_5_s]
    match k with
    | 0 =>
      simp only [bwZ] at ha hb hd
      refine st_cF (decide_eq_false (by omega)) ?_
      refine st_cF rfl ?_
      refine st_cF (i_bnf ha.symm) ?_
      refine st_cF (i_bnf hb.symm) ?_
      refine st_cF (i_bnf hd.symm) ?_
      rw [ha, hb, hd]
      exact zero_16 h hu hue
    | k + 1 =>
      simp only [bwZ] at ha hb hd
      refine st_cT (decide_eq_true (by omega)) ?_
      refine st_bind (law_ref24_Before h cp u cu x y z (by omega)) ?_
      refine st_bind (rdA_v _) ?_
      refine st_if rfl ?_
      rw [stAt_comp]
      have e1 : IntKind.wrap .i64 (((k + 1 : Nat) : Int) - (1 : Int)) = (k : Int) := by rw [wrap_id (by omega) (by omega)]; omega
      have nx : ∀ a b d : Int, bwZ (compAt Rcd.r l (c0 l.length x y z).1) k a = wantZ l Rcd.r (c0 l.length x y z).1 → bwZ (compAt Rcd.i l (c0 l.length x y z).2.1) k b = wantZ l Rcd.i (c0 l.length x y z).2.1 → bwZ (compAt Rcd.y l (c0 l.length x y z).2.2) k d = wantZ l Rcd.y (c0 l.length x y z).2.2 → F_law24_CountersZero_j6 m c (n : Int) l.length cp (rcdsC l) (wantZ l Rcd.r (c0 l.length x y z).1) (wantZ l Rcd.i (c0 l.length x y z).2.1) (wantZ l Rcd.y (c0 l.length x y z).2.2) 0 ((k + 1 : Nat) : Int) y0_9 y0_10 y0_11 y0_12 y0_13 (inC u cu x y z) a b d = some (.v (.bool true)) := fun a b d ha hb hd => by
        rw [F_law24_CountersZero_j6_e, e1]
        exact zero_5 c k a b d (by omega) (by omega) ha hb hd
      refine st_bind (rdI_v _ _) ?_
      rw [F_law24_CountersZero_j10_e, F_law24_CountersZero_j10_e, F_law24_CountersZero_j12_e, F_law24_CountersZero_j12_e, F_law24_CountersZero_j12_e, F_law24_CountersZero_j12_e]
      generalize compAt Rcd.r l (c0 l.length x y z).1 k = q1 at ha ⊢
      generalize compAt Rcd.i l (c0 l.length x y z).2.1 k = q2 at hb ⊢
      generalize compAt Rcd.y l (c0 l.length x y z).2.2 k = q3 at hd ⊢
      by_cases c1 : q1 = 0
      · rw [if_pos c1] at ha
        refine st_cT (i_eq c1) ?_
        refine st_bind (rdI_v _ _) ?_
        by_cases c2 : q2 = 0
        · rw [if_pos c2] at hb
          refine st_cT (i_eq c2) ?_
          refine st_bind (rdI_v _ _) ?_
          by_cases c3 : q3 = 0
          · rw [if_pos c3] at hd
            exact st_cT (i_eq c3) (nx _ _ _ ha hb hd)
          · rw [if_neg c3] at hd
            exact st_cF (i_ne c3) (nx _ _ _ ha hb hd)
        · rw [if_neg c2] at hb
          refine st_cF (i_ne c2) ?_
          refine st_bind (rdI_v _ _) ?_
          by_cases c3 : q3 = 0
          · rw [if_pos c3] at hd
            exact st_cT (i_eq c3) (nx _ _ _ ha hb hd)
          · rw [if_neg c3] at hd
            exact st_cF (i_ne c3) (nx _ _ _ ha hb hd)
      · rw [if_neg c1] at ha
        refine st_cF (i_ne c1) ?_
        refine st_bind (rdI_v _ _) ?_
        by_cases c2 : q2 = 0
        · rw [if_pos c2] at hb
          refine st_cT (i_eq c2) ?_
          refine st_bind (rdI_v _ _) ?_
          by_cases c3 : q3 = 0
          · rw [if_pos c3] at hd
            exact st_cT (i_eq c3) (nx _ _ _ ha hb hd)
          · rw [if_neg c3] at hd
            exact st_cF (i_ne c3) (nx _ _ _ ha hb hd)
        · rw [if_neg c2] at hb
          refine st_cF (i_ne c2) ?_
          refine st_bind (rdI_v _ _) ?_
          by_cases c3 : q3 = 0
          · rw [if_pos c3] at hd
            exact st_cT (i_eq c3) (nx _ _ _ ha hb hd)
          · rw [if_neg c3] at hd
            exact st_cF (i_ne c3) (nx _ _ _ ha hb hd)
end

theorem law_CountersZero {x : Ci} (hx : x.ok) (n : Nat) : sp_law24_CountersZero [.agg x.cells, .v (.int .u8 (n : Int))] = some (.v (.bool true)) := by
  show F_law24_CountersZero M x.l.length x.lc (risC x.l) (x.u : Int) (x.f : Int) (n : Int) = _
  unfold F_law24_CountersZero
  have h := x.chain_ok
  have hle := h.le
  refine st_bind (law_C_Of hx) ?_
  refine st_bind (rdT_v _) ?_
  refine st_if t2 ?_
  refine st_bind (rdL_v _ _ _) ?_
  refine st_bind (rdA_v _) ?_
  refine st_if inC_len ?_
  refine st_bind (zero_all h x.ini_ok x.ini_good) ?_
  refine st_bind (rdT_v _) ?_
  refine st_if t4 ?_
  refine st_bind (rdI_v _ _) ?_
  refine st_bind (rdI_v _ _) ?_
  refine st_bind (rdI_v _ _) ?_
  refine st_bind (rdI_v _ _) ?_
  dsimp only
  rw [wrap_id (by omega) (by omega)]
  have e : ∀ lim v, bwZ (compAt lim x.chain v) x.chain.length ((x.chain.length : Int) + 1) = wantZ x.chain lim v := fun lim v => bwZ_first _ _ _
  exact zero_5 h x.ini_ok x.ini_good M x.chain.length _ _ _ (by unfold M; omega) (by omega) (e _ _) (e _ _) (e _ _)
end Go.Ev
