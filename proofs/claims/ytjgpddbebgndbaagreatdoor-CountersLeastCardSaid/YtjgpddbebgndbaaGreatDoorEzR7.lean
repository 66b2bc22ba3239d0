/-
  The stage's theorem about counters: each is the minimum of the initial value and of the limits, each less the certificates that count.
-/
import Derived.Test.YtjgpddbebgndbaaGreatDoorEzR6
set_option linter.unusedSimpArgs false
set_option linter.unusedVariables false
set_option maxRecDepth 100000
namespace Go.Ev
open Go

def Rcd.d (q : Rcd) : Int := if q.s then 0 else 1
/-- How many count. -/
def cnt : List Rcd → Int
  | [] => 0
  | q :: r => q.d + cnt r
theorem cnt_append : ∀ (a b : List Rcd), cnt (a ++ b) = cnt a + cnt b
  | [], b => by simp [cnt]
  | q :: a, b => by simp only [List.cons_append, cnt, cnt_append a b]; omega
theorem cnt_bound : ∀ (l : List Rcd), 0 ≤ cnt l ∧ cnt l ≤ l.length
  | [] => by simp [cnt]
  | q :: r => by
    have := cnt_bound r
    unfold cnt Rcd.d
    simp only [List.length_cons]
    split <;> omega
/-- The minimum, as the statement has it. -/
def gL (lim : Rcd → Int) : Int → List Rcd → Int
  | out, [] => out
  | out, q :: r => gL lim (if lim q = -1 then out else min out (lim q - cnt r)) r
def fL (lim : Rcd → Int) : Int → List Rcd → Int
  | v, [] => v
  | v, q :: r => fL lim (if lim q = -1 then v - q.d else min (v - q.d) (lim q)) r
theorem fL_gL (lim : Rcd → Int) : ∀ (l : List Rcd) (v : Int), fL lim v l = gL lim (v - cnt l) l
  | [], v => by simp [fL, gL, cnt]
  | q :: r, v => by
    unfold fL gL
    rw [fL_gL lim r]
    congr 1
    rw [show cnt (q :: r) = q.d + cnt r from rfl]
    split <;> omega
theorem foldl_fL {lim : Rcd → Int} : ∀ (l : List Rcd), (∀ q, q ∈ l → -1 ≤ lim q) → ∀ (v x : Int), x = max v 0 → v ≤ 65 → l.foldl (fun v q => afterC q.s v (lim q)) x = max (fL lim v l) 0
  | [], h, v, x, hx, hv => hx
  | q :: r, h, v, x, hx, hv => by
    have hq := h q (by simp)
    have h0 : 0 ≤ x := by omega
    have h1 : x ≤ 65 := by omega
    rw [List.foldl_cons, fL]
    refine foldl_fL r (fun q hq => h q (by simp [hq])) _ _ ?_ ?_
    · rw [afterC_R h0 h1, afterR_eq h0 h1]
      unfold Rcd.d
      split <;> split <;> omega
    · unfold Rcd.d
      split <;> split <;> omega

section
variable {l : List Rcd} (hle : l.length ≤ 64) {cp c2 : Option Nat} {lim : Rcd → Int} {k : Nat} (hk : k < l.length)
include hle hk
theorem least_13 {m n0 : Nat} {out : Int} {j : Nat} : ∀ (c p : Nat) (n : Int), k - p < c → p ≤ k → -(p : Int) - 10 ≤ n → n ≤ 9000000000000 →
    F_law24_least_13 m n0 c l.length cp (rcdsC l) l.length c2 (ints (l.map lim)) ((k + 1 : Nat) : Int) out ((j + 1 : Nat) : Int) n ((p + 1 : Nat) : Int) =
    F_law24_least_j9 m n0 l.length cp (rcdsC l) l.length c2 (ints (l.map lim)) ((k + 1 : Nat) : Int) (mm true out (n - cnt ((l.take k).drop p))) ((j + 1 : Nat) : Int)
  | 0, p, n, hc, hp, _, _ => by omega
  | c + 1, p, n, hc, hp, hn, hn2 => by
    have e1 : IntKind.wrap .i64 (((p + 1 : Nat) : Int) - (1 : Int)) = (p : Int) := by rw [wrap_id (by omega) (by omega)]; omega
    rw [F_law24_least_13_s, e1]
    simp only [Int.toNat_natCast]
    by_cases hlt : p < k
    · have hd : (l.take k).drop p = l[p] :: (l.take k).drop (p + 1) := by
        rw [List.drop_eq_getElem_cons (by simp; omega), List.getElem_take]
      refine st_cT (decide_eq_true (by omega)) ?_
      refine st_if (by omega) ?_
      refine st_bind (rdB_get (rcdsC_at (i := p) (j := 0) (by omega) (by omega))) ?_
      rw [hd, F_law24_least_j14_e, F_law24_least_j14_e, wrap_succ (by omega)]
      rw [show cnt (l[p] :: (l.take k).drop (p + 1)) = l[p].d + cnt ((l.take k).drop (p + 1)) from rfl]
      unfold Rcd.d
      cases hs : l[p].s with
      | true =>
        refine st_cF rfl ?_
        rw [least_13 c (p + 1) n (by omega) (by omega) (by omega) hn2]
        simp
      | false =>
        refine st_cT rfl ?_
        rw [wrap_id (by omega) (by omega), least_13 c (p + 1) (n - 1) (by omega) (by omega) (by omega) (by omega)]
        congr 2
        simp; omega
    · obtain rfl : p = k := by omega
      refine st_cF (decide_eq_false (by omega)) ?_
      rw [show (l.take p).drop p = [] from List.drop_eq_nil_of_le (by simp; omega)]
      simp [cnt]
theorem least_8 {m : Nat} (hm : 100 < m) (hl : ∀ q, q ∈ l → -1 ≤ lim q ∧ lim q ≤ 2147483647) : ∀ (c j : Nat) (out : Int), k - j < c → j ≤ k →
    F_law24_least_8 m c l.length cp (rcdsC l) l.length c2 (ints (l.map lim)) ((k + 1 : Nat) : Int) out ((j + 1 : Nat) : Int) = some (.v (.int .i64 (max (gL lim out ((l.take k).drop j)) 0)))
  | 0, j, out, hc, hj => by omega
  | c + 1, j, out, hc, hj => by
    have e1 : IntKind.wrap .i64 (((j + 1 : Nat) : Int) - (1 : Int)) = (j : Int) := by rw [wrap_id (by omega) (by omega)]; omega
    rw [F_law24_least_8_s, e1]
    simp only [Int.toNat_natCast, Nat.mul_one]
    by_cases hlt : j < k
    · have hd : (l.take k).drop j = l[j] :: (l.take k).drop (j + 1) := by
        rw [List.drop_eq_getElem_cons (by simp; omega), List.getElem_take]
      have hj' : j < l.length := by omega
      have hlim := hl _ (List.getElem_mem hj')
      have hg : rdI .i64 (ints (l.map lim))[j]? = some (lim l[j]) := by
        rw [ints_get (by simpa using hj')]
        simp [hj']
      have key : ∀ out, F_law24_least_j9 m c l.length cp (rcdsC l) l.length c2 (ints (l.map lim)) ((k + 1 : Nat) : Int) out ((j + 1 : Nat) : Int) = some (.v (.int .i64 (max (gL lim out ((l.take k).drop (j + 1))) 0))) := fun out => by
        rw [F_law24_least_j9_e, wrap_succ (by omega)]
        exact least_8 hm hl c (j + 1) out (by omega) (by omega)
      refine st_cT (decide_eq_true (by omega)) ?_
      refine st_if (by omega) ?_
      refine st_bind hg ?_
      rw [hd, gL]
      by_cases h1 : lim l[j] = -1
      · refine st_cT (i_eq h1) ?_
        rw [if_pos h1]; exact key _
      · refine st_cF (i_ne h1) ?_
        refine st_if (by omega) ?_
        refine st_bind hg ?_
        rw [wrap_succ (by omega), if_neg h1]
        refine (least_13 hle hk m (j + 1) (lim l[j]) (by omega) (by omega) (by omega) (by omega)).trans ?_
        rw [key]
        have : mm true out (lim l[j] - cnt ((l.take k).drop (j + 1))) = min out (lim l[j] - cnt ((l.take k).drop (j + 1))) := by unfold mm; simp; omega
        rw [this]
    · obtain rfl : j = k := by omega
      refine st_cF (decide_eq_false (by omega)) ?_
      rw [show (l.take j).drop j = [] from List.drop_eq_nil_of_le (by simp; omega)]
      have : mm false out 0 = max out 0 := by unfold mm; simp; omega
      rw [this]; rfl
theorem least_3 {m : Nat} (hm : 100 < m) (hl : ∀ q, q ∈ l → -1 ≤ lim q ∧ lim q ≤ 2147483647) {v : Int} (hv0 : 0 ≤ v) (hv1 : v ≤ 65) : ∀ (c j : Nat), k - j < c → j ≤ k →
    F_law24_least_3 m c l.length cp (rcdsC l) l.length c2 (ints (l.map lim)) ((k + 1 : Nat) : Int) (v - cnt (l.take j)) ((j + 1 : Nat) : Int) = some (.v (.int .i64 (max (gL lim (v - cnt (l.take k)) (l.take k)) 0)))
  | 0, j, hc, hj => by omega
  | c + 1, j, hc, hj => by
    have e1 : IntKind.wrap .i64 (((j + 1 : Nat) : Int) - (1 : Int)) = (j : Int) := by rw [wrap_id (by omega) (by omega)]; omega
    rw [F_law24_least_3_s, e1]
    simp only [Int.toNat_natCast]
    by_cases hlt : j < k
    · have hj' : j < l.length := by omega
      refine st_cT (decide_eq_true (by omega)) ?_
      refine st_if (by omega) ?_
      refine st_bind (rdB_get (rcdsC_at (i := j) (j := 0) (by omega) (by omega))) ?_
      have ih := least_3 hm hl hv0 hv1 c (j + 1) (by omega) (by omega)
      have hb := cnt_bound (l.take j)
      have hbl : (l.take j).length ≤ 64 := by simp; omega
      have hs1 : cnt (l.take (j + 1)) = cnt (l.take j) + l[j].d := by
        rw [List.take_add_one, List.getElem?_eq_getElem hj', cnt_append]; simp [cnt]
      rw [hs1] at ih
      rw [F_law24_least_j4_e, F_law24_least_j4_e, wrap_succ (by omega)]
      unfold Rcd.d at ih
      cases hs : l[j].s with
      | true =>
        refine st_cF rfl ?_
        rw [hs] at ih
        simpa using ih
      | false =>
        refine st_cT rfl ?_
        rw [hs] at ih
        rw [wrap_id (by omega) (by omega)]
        rw [show v - (cnt (l.take j) + if false = true then 0 else 1) = v - cnt (l.take j) - 1 by simp; omega] at ih
        exact ih
    · obtain rfl : j = k := by omega
      refine st_cF (decide_eq_false (by omega)) ?_
      have := least_8 hle hk (cp := cp) (c2 := c2) hm hl m 0 (v - cnt (l.take j)) (by omega) (by omega)
      rw [List.drop_zero] at this
      exact this
end
theorem law_least {l : List Rcd} (hle : l.length ≤ 64) {cp c2 : Option Nat} {lim : Rcd → Int} (hl : ∀ q, q ∈ l → -1 ≤ lim q ∧ lim q ≤ 2147483647) {k : Nat} (hk : k < l.length) {v : Int} (hv0 : 0 ≤ v) (hv1 : v ≤ 65) :
    sp_law24_least [.list l.length cp (rcdsC l), .v (.int .i64 v), .list l.length c2 (ints (l.map lim)), .v (.int .i64 ((k + 1 : Nat) : Int))] = some (.v (.int .i64 (compAt lim l v k))) := by
  show F_law24_least M l.length cp (rcdsC l) v l.length c2 (ints (l.map lim)) ((k + 1 : Nat) : Int) = _
  unfold F_law24_least
  have := least_3 hle hk (cp := cp) (c2 := c2) (m := M) (by unfold M; omega) hl hv0 hv1 M 0 (by unfold M; omega) (by omega)
  rw [show v - cnt (l.take 0) = v by simp [cnt]] at this
  refine this.trans ?_
  unfold compAt
  rw [← fL_gL, foldl_fL (l.take k) (fun q hq => (hl q (List.mem_of_mem_take hq)).1) v v (by omega) hv1]

theorem lims {l : List Rcd} (h : Chain l) : (∀ q, q ∈ l → -1 ≤ q.r ∧ q.r ≤ 2147483647) ∧ (∀ q, q ∈ l → -1 ≤ q.i ∧ q.i ≤ 2147483647) ∧ (∀ q, q ∈ l → -1 ≤ q.y ∧ q.y ≤ 2147483647) :=
  ⟨fun q hq => by have := (h.good q hq).lim; omega, fun q hq => by have := (h.good q hq).lim; omega, fun q hq => by have := (h.good q hq).lim; omega⟩
section
variable {l : List Rcd} (h : Chain l) {cp : Option Nat} {u : List Oid} {cu : Option Nat} {x y z : Bool}
include h
theorem cl_14 {m : Nat} {y1_4 : Option Nat} {y1_7 : Nat} {y1_8 : Option Nat} {y1_9 : List D} {y1_10 y1_11 : Int} : ∀ (c k : Nat), l.length - k < c → k ≤ l.length →
    F_law24_CountersLeast_14 m c l.length cp (rcdsC l) l.length y1_4 (((states Rcd.nx (c0 l.length x y z) l).map ctr3).flatten) (k : Int) y1_7 y1_8 y1_9 y1_10 y1_11 (inC u cu x y z) l.length l.length l.length l.length (ints (l.map Rcd.r)) l.length (ints (l.map Rcd.i)) l.length (ints (l.map Rcd.y)) (ctr3 (c0 l.length x y z)) = some (.v (.bool true))
  | 0, k, hc, hk => by omega
  | c + 1, k, hc, hk => by
    have hle := h.le
    have hsl := statesC_len (l := l) (c0 l.length x y z)
    have hin := c0_in hle (x := x) (y := y) (z := z)
    obtain ⟨a1, a2, a3, a4, a5, a6⟩ := hin
    obtain ⟨l1, l2, l3⟩ := lims h
    have g : ∀ f : Rcd → Int, cutL l.length (ints (l.map f)) 0 l.length = ints (l.map f) := fun f => cutL_all (by rw [ints_len, List.length_map])
    rw [F_law24_CountersLeast_14_s]
    simp only [Int.toNat_natCast, Nat.mul_one, g]
    by_cases hlt : k < l.length
    · refine st_cT (decide_eq_true (by omega)) ?_
      refine st_if (by omega) ?_
      refine st_if (by omega) ?_
      rw [wrap_succ (by omega), statesC_get hlt, stAt_comp]
      refine st_bind (rdI_v _ _) ?_
      refine st_if (by omega) ?_
      refine st_bind (law_least hle l1 hlt a1 a2) ?_
      refine st_bind (rdI_v _ _) ?_
      refine st_bind (rdI_v _ _) ?_
      refine st_if (by omega) ?_
      refine st_bind (law_least hle l2 hlt a3 a4) ?_
      refine st_bind (rdI_v _ _) ?_
      refine st_bind (rdI_v _ _) ?_
      refine st_if (by omega) ?_
      refine st_bind (law_least hle l3 hlt a5 a6) ?_
      refine st_bind (rdI_v _ _) ?_
      refine st_bind (law_three _ _ _) ?_
      refine st_bind (rdA_v _) ?_
      refine st_bind (ctr3_eq (_, _, _) (_, _, _)) ?_
      refine st_cF (by simp [compAt]) ?_
      exact cl_14 c (k + 1) (by omega) (by omega)
    · refine st_cF (decide_eq_false (by omega)) ?_
      exact st_bind law_lives (st_bind (rdB_v _) rfl)
theorem cl_7 {m : Nat} (hm : 100 < m) {y0_4 : Option Nat} {y0_7 : Nat} {y0_8 : Option Nat} {y0_9 : List D} {y0_10 y0_11 : Int} : ∀ (c k : Nat), l.length - k < c → k ≤ l.length →
    F_law24_CountersLeast_7 m c l.length cp (rcdsC l) l.length y0_4 (((states Rcd.nx (c0 l.length x y z) l).map ctr3).flatten) (k : Int) y0_7 y0_8 y0_9 y0_10 y0_11 (inC u cu x y z) k k k k (ints ((l.take k).map Rcd.r)) k (ints ((l.take k).map Rcd.i)) k (ints ((l.take k).map Rcd.y)) = some (.v (.bool true))
  | 0, k, hc, hk => by omega
  | c + 1, k, hc, hk => by
    have hle := h.le
    rw [F_law24_CountersLeast_7_s]
    simp only [Int.toNat_natCast, Nat.mul_one]
    by_cases hlt : k < l.length
    · have e : ∀ f : Rcd → Int, ints ((l.take k).map f) ++ [.v (.int .i64 (f l[k]))] = ints ((l.take (k + 1)).map f) := fun f => by
        rw [List.take_add_one, List.getElem?_eq_getElem hlt, List.map_append, ints_append]; rfl
      have own : ∀ j : Nat, 2 < j → j < 10 → ownB ⟨0, [], false, []⟩ j = true := fun j h1 h2 => by
        have : j = 3 ∨ j = 4 ∨ j = 5 ∨ j = 6 ∨ j = 7 ∨ j = 8 ∨ j = 9 := by omega
        rcases this with rfl | rfl | rfl | rfl | rfl | rfl | rfl <;> rfl
      have fit : fitsRow (k + 1) 8 := by constructor <;> omega
      refine st_cT (decide_eq_true (by omega)) ?_
      refine st_if (by omega) ?_
      refine st_bind (rdI_get (rcdsC_at (i := k) (j := 5) hlt (by omega))) ?_
      refine st_if (by refine ⟨rfl, ?_⟩; first | exact ⟨rfl, fit, rfl⟩ | exact ⟨trivial, fit, trivial⟩) ?_
      refine st_if (by omega) ?_
      refine st_bind (rdI_get (rcdsC_at (i := k) (j := 6) hlt (by omega))) ?_
      refine st_if (by refine ⟨rfl, ?_⟩; first | exact ⟨rfl, fit, rfl⟩ | exact ⟨trivial, fit, trivial⟩) ?_
      refine st_if (by omega) ?_
      refine st_bind (rdI_get (rcdsC_at (i := k) (j := 7) hlt (by omega))) ?_
      refine st_if (by refine ⟨rfl, ?_⟩; first | exact ⟨rfl, fit, rfl⟩ | exact ⟨trivial, fit, trivial⟩) ?_
      rw [wrap_succ (by omega), e, e, e]
      exact cl_7 hm c (k + 1) (by omega) (by omega)
    · obtain rfl : k = l.length := by omega
      refine st_cF (decide_eq_false (by omega)) ?_
      refine st_bind (law_rStart hle u cu x y z) ?_
      refine st_bind (rdA_v _) ?_
      refine st_if rfl ?_
      rw [List.take_length]
      exact cl_14 h m 0 (by omega) (by omega)
end

theorem law_CountersLeast {x : Ci} (hx : x.ok) : sp_law24_CountersLeast [.agg x.cells] = some (.v (.bool true)) := by
  show F_law24_CountersLeast M x.l.length x.lc (risC x.l) (x.u : Int) (x.f : Int) = _
  unfold F_law24_CountersLeast
  have h := x.chain_ok
  have hle := h.le
  have h1 := law_counters_All (Rcd.does x.chain) h.chk none x.ini_ok x.ini.2 x.x x.y x.z
  rw [if_pos (h.all x.ini_good)] at h1
  refine st_bind (law_C_Of hx) ?_
  refine st_bind (rdT_v _) ?_
  refine st_if t2 ?_
  refine st_bind (rdL_v _ _ _) ?_
  refine st_bind (rdA_v _) ?_
  refine st_if inC_len ?_
  refine st_bind h1 ?_
  refine st_bind (rdT_v _) ?_
  refine st_if t2 ?_
  refine st_bind (rdL_v _ _ _) ?_
  refine st_bind (rdI_v _ _) ?_
  refine st_cF rfl ?_
  refine st_cF (i_bnf rfl) ?_
  rw [F_law24_CountersLeast_j5_e]
  exact cl_7 h (m := M) (by unfold M; omega) M 0 (by unfold M; omega) (by omega)
end Go.Ev
