/-
 The stage's theorem about counters: each is the minimum of the initial value and of the limits, each less the certificates that count.
-/
import Derived.Test.YthakkigkdhaihaaGreatDoorEzR6
set_option linter.unusedSimpArgs false
set_option linter.unusedVariables false
set_option maxRecDepth 100000
namespace Go.Ev
open Go
def Rcd.d (q : Rcd) : Int := if q.s then 0 else 1
def cnt : List Rcd → Int
 | [] => 0
 | q :: r => q.d + cnt r
theorem cnt_append : ∀ (a b : List Rcd), cnt (a ++ b) = cnt a + cnt b
 | [], b => by simp [cnt]
 | q :: a, b => by simp only [List.cons_append, cnt, cnt_append a b]; omega
theorem cnt_bound : ∀ (l : List Rcd), 0 ≤ cnt l ∧ cnt l ≤ l.length
 | [] => by simp [cnt]
 | q :: r => by
  have := cnt_bound r
  unfold cnt Rcd.d
  simp only [List.length_cons]
  split <;> omega
def gL (lim : Rcd → Int) : Int → List Rcd → Int
 | out, [] => out
 | out, q :: r => gL lim (if lim q = -1 then out else min out (lim q - cnt r)) r
def fL (lim : Rcd → Int) : Int → List Rcd → Int
 | v, [] => v
 | v, q :: r => fL lim (if lim q = -1 then v - q.d else min (v - q.d) (lim q)) r
theorem fL_gL (lim : Rcd → Int) : ∀ (l : List Rcd) (v : Int), fL lim v l = gL lim (v - cnt l) l
 | [], v => by simp [fL, gL, cnt]
 | q :: r, v => by
  unfold fL gL
  rw [fL_gL lim r]
  congr 1
  rw [show cnt (q :: r) = q.d + cnt r from rfl]
  split <;> omega
theorem Z1do {lim : Rcd → Int} : ∀ (l : List Rcd), (∀ q, q ∈ l → -1 ≤ lim q) → ∀ (v x : Int), x = max v 0 → v ≤ 65 → l.foldl (fun v q => afterC q.s v (lim q)) x = max (fL lim v l) 0
 | [], h, v, x, hx, hv => hx
 | q :: r, h, v, x, hx, hv => by
  have hq := h q (by simp)
  have h0 : 0 ≤ x := by omega
  have h1 : x ≤ 65 := by omega
  rw [List.foldl_cons, fL]
  refine Z1do r (fun q hq => h q (by simp [hq])) _ _ ?_ ?_
  ·rw [Z12l h0 h1, Z1bo h0 h1]
   unfold Rcd.d
   split <;> split <;> omega
  ·unfold Rcd.d
   split <;> split <;> omega
section
variable {l : List Rcd} (hle : l.length ≤ 64) {cp c2 : Option Nat} {lim : Rcd → Int} {k : Nat} (hk : k < l.length)
include hle hk
theorem Z18r {m n0 : Nat} {out : Int} {j : Nat} : ∀ (c p : Nat) (n : Int), k - p < c → p ≤ k → -(p : Int) - 10 ≤ n → n ≤ 9000000000000 →
  Zez m n0 c l.length cp (rcdsC l) l.length c2 (ints (l.map lim)) ((k + 1 : Nat) : Int) out ((j + 1 : Nat) : Int) n ((p + 1 : Nat) : Int) =
  Z9n m n0 l.length cp (rcdsC l) l.length c2 (ints (l.map lim)) ((k + 1 : Nat) : Int) (mm true out (n - cnt ((l.take k).drop p))) ((j + 1 : Nat) : Int)
 | 0, p, n, hc, hp, _, _ => by omega
 | c + 1, p, n, hc, hp, hn, hn2 => by
  have e1 : IntKind.wrap .i64 (((p + 1 : Nat) : Int) - (1 : Int)) = (p : Int) := by rw [Zil (by omega) (by omega)]; omega
  rw [Zxj, e1]
  simp only [Int.toNat_natCast]
  by_cases hlt : p < k
  ·have hd : (l.take k).drop p = l[p] :: (l.take k).drop (p + 1) := by
    rw [List.drop_eq_getElem_cons (by simp; omega), List.getElem_take]
   refine st_cT (decide_eq_true (by omega)) ?_
   refine st_if (by omega) ?_
   refine Z5 (Z1gt (Zxk (i := p) (j := 0) (by omega) (by omega))) ?_
   rw [hd, Zm4, Zm4, Z40 (by omega)]
   rw [show cnt (l[p] :: (l.take k).drop (p + 1)) = l[p].d + cnt ((l.take k).drop (p + 1)) from rfl]
   unfold Rcd.d
   cases hs : l[p].s with
   | true =>
    refine st_cF rfl ?_
    rw [Z18r c (p + 1) n (by omega) (by omega) (by omega) hn2]
    simp
   | false =>
    refine st_cT rfl ?_
    rw [Zil (by omega) (by omega), Z18r c (p + 1) (n - 1) (by omega) (by omega) (by omega) (by omega)]
    congr 2
    simp; omega
  ·obtain rfl : p = k := by omega
   refine st_cF (decide_eq_false (by omega)) ?_
   rw [show (l.take p).drop p = [] from List.drop_eq_nil_of_le (by simp; omega)]
   simp [cnt]
theorem Z1hn {m : Nat} (hm : 100 < m) (hl : ∀ q, q ∈ l → -1 ≤ lim q ∧ lim q ≤ 2147483647) : ∀ (c j : Nat) (out : Int), k - j < c → j ≤ k →
  Zhp m c l.length cp (rcdsC l) l.length c2 (ints (l.map lim)) ((k + 1 : Nat) : Int) out ((j + 1 : Nat) : Int) = some (.v (.int .i64 (max (gL lim out ((l.take k).drop j)) 0)))
 | 0, j, out, hc, hj => by omega
 | c + 1, j, out, hc, hj => by
  have e1 : IntKind.wrap .i64 (((j + 1 : Nat) : Int) - (1 : Int)) = (j : Int) := by rw [Zil (by omega) (by omega)]; omega
  rw [Z103, e1]
  simp only [Int.toNat_natCast, Nat.mul_one]
  by_cases hlt : j < k
  ·have hd : (l.take k).drop j = l[j] :: (l.take k).drop (j + 1) := by
    rw [List.drop_eq_getElem_cons (by simp; omega), List.getElem_take]
   have hj' : j < l.length := by omega
   have hlim := hl _ (List.getElem_mem hj')
   have hg : rdI .i64 (ints (l.map lim))[j]? = some (lim l[j]) := by
    rw [Z1ij (by simpa using hj')]
    simp [hj']
   have key : ∀ out, Z9n m c l.length cp (rcdsC l) l.length c2 (ints (l.map lim)) ((k + 1 : Nat) : Int) out ((j + 1 : Nat) : Int) = some (.v (.int .i64 (max (gL lim out ((l.take k).drop (j + 1))) 0))) := fun out => by
    rw [Zxi, Z40 (by omega)]
    exact Z1hn hm hl c (j + 1) out (by omega) (by omega)
   refine st_cT (decide_eq_true (by omega)) ?_
   refine st_if (by omega) ?_
   refine Z5 hg ?_
   rw [hd, gL]
   by_cases h1 : lim l[j] = -1
   ·refine st_cT (i_eq h1) ?_
    rw [if_pos h1]; exact key _
   ·refine st_cF (i_ne h1) ?_
    refine st_if (by omega) ?_
    refine Z5 hg ?_
    rw [Z40 (by omega), if_neg h1]
    refine (Z18r hle hk m (j + 1) (lim l[j]) (by omega) (by omega) (by omega) (by omega)).trans ?_
    rw [key]
    have : mm true out (lim l[j] - cnt ((l.take k).drop (j + 1))) = min out (lim l[j] - cnt ((l.take k).drop (j + 1))) := by unfold mm; simp; omega
    rw [this]
  ·obtain rfl : j = k := by omega
   refine st_cF (decide_eq_false (by omega)) ?_
   rw [show (l.take j).drop j = [] from List.drop_eq_nil_of_le (by simp; omega)]
   have : mm false out 0 = max out 0 := by unfold mm; simp; omega
   rw [this]; rfl
theorem Z1ho {m : Nat} (hm : 100 < m) (hl : ∀ q, q ∈ l → -1 ≤ lim q ∧ lim q ≤ 2147483647) {v : Int} (hv0 : 0 ≤ v) (hv1 : v ≤ 65) : ∀ (c j : Nat), k - j < c → j ≤ k →
  Zho m c l.length cp (rcdsC l) l.length c2 (ints (l.map lim)) ((k + 1 : Nat) : Int) (v - cnt (l.take j)) ((j + 1 : Nat) : Int) = some (.v (.int .i64 (max (gL lim (v - cnt (l.take k)) (l.take k)) 0)))
 | 0, j, hc, hj => by omega
 | c + 1, j, hc, hj => by
  have e1 : IntKind.wrap .i64 (((j + 1 : Nat) : Int) - (1 : Int)) = (j : Int) := by rw [Zil (by omega) (by omega)]; omega
  rw [Z104, e1]
  simp only [Int.toNat_natCast]
  by_cases hlt : j < k
  ·have hj' : j < l.length := by omega
   refine st_cT (decide_eq_true (by omega)) ?_
   refine st_if (by omega) ?_
   refine Z5 (Z1gt (Zxk (i := j) (j := 0) (by omega) (by omega))) ?_
   have ih := Z1ho hm hl hv0 hv1 c (j + 1) (by omega) (by omega)
   have hb := cnt_bound (l.take j)
   have hbl : (l.take j).length ≤ 64 := by simp; omega
   have hs1 : cnt (l.take (j + 1)) = cnt (l.take j) + l[j].d := by
    rw [List.take_add_one, List.getElem?_eq_getElem hj', cnt_append]; simp [cnt]
   rw [hs1] at ih
   rw [Znt, Znt, Z40 (by omega)]
   unfold Rcd.d at ih
   cases hs : l[j].s with
   | true =>
    refine st_cF rfl ?_
    rw [hs] at ih
    simpa using ih
   | false =>
    refine st_cT rfl ?_
    rw [hs] at ih
    rw [Zil (by omega) (by omega)]
    rw [show v - (cnt (l.take j) + if false = true then 0 else 1) = v - cnt (l.take j) - 1 by simp; omega] at ih
    exact ih
  ·obtain rfl : j = k := by omega
   refine st_cF (decide_eq_false (by omega)) ?_
   have := Z1hn hle hk (cp := cp) (c2 := c2) hm hl m 0 (v - cnt (l.take j)) (by omega) (by omega)
   rw [List.drop_zero] at this
   exact this
end
theorem Z14t {l : List Rcd} (hle : l.length ≤ 64) {cp c2 : Option Nat} {lim : Rcd → Int} (hl : ∀ q, q ∈ l → -1 ≤ lim q ∧ lim q ≤ 2147483647) {k : Nat} (hk : k < l.length) {v : Int} (hv0 : 0 ≤ v) (hv1 : v ≤ 65) :
  Z6s [.list l.length cp (rcdsC l), .v (.int .i64 v), .list l.length c2 (ints (l.map lim)), .v (.int .i64 ((k + 1 : Nat) : Int))] = some (.v (.int .i64 (compAt lim l v k))) := by
 show Zl5 M l.length cp (rcdsC l) v l.length c2 (ints (l.map lim)) ((k + 1 : Nat) : Int) = _
 unfold Zl5
 have := Z1ho hle hk (cp := cp) (c2 := c2) (m := M) (by unfold M; omega) hl hv0 hv1 M 0 (by unfold M; omega) (by omega)
 rw [show v - cnt (l.take 0) = v by simp [cnt]] at this
 refine this.trans ?_
 unfold compAt
 rw [← fL_gL, Z1do (l.take k) (fun q hq => (hl q (List.mem_of_mem_take hq)).1) v v (by omega) hv1]
theorem lims {l : List Rcd} (h : Chain l) : (∀ q, q ∈ l → -1 ≤ q.r ∧ q.r ≤ 2147483647) ∧ (∀ q, q ∈ l → -1 ≤ q.i ∧ q.i ≤ 2147483647) ∧ (∀ q, q ∈ l → -1 ≤ q.y ∧ q.y ≤ 2147483647) :=
 ⟨fun q hq => by have := (h.good q hq).lim; omega, fun q hq => by have := (h.good q hq).lim; omega, fun q hq => by have := (h.good q hq).lim; omega⟩
section
variable {l : List Rcd} (h : Chain l) {cp : Option Nat} {u : List Oid} {cu : Option Nat} {x y z : Bool}
include h
theorem cl_14 {m : Nat} {Zhu : Option Nat} {Zr8 : Nat} {Zng : Option Nat} {Zvc : List D} {Zh3 Zhv : Int} : ∀ (c k : Nat), l.length - k < c → k ≤ l.length →
  Z5d m c l.length cp (rcdsC l) l.length Zhu (((states Rcd.nx (c0 l.length x y z) l).map ctr3).flatten) (k : Int) Zr8 Zng Zvc Zh3 Zhv (inC u cu x y z) l.length l.length l.length l.length (ints (l.map Rcd.r)) l.length (ints (l.map Rcd.i)) l.length (ints (l.map Rcd.y)) (ctr3 (c0 l.length x y z)) = some (.v (.bool true))
 | 0, k, hc, hk => by omega
 | c + 1, k, hc, hk => by
  have hle := h.le
  have hsl := Z14p (l := l) (c0 l.length x y z)
  have hin := c0_in hle (x := x) (y := y) (z := z)
  obtain ⟨a1, a2, a3, a4, a5, a6⟩ := hin
  obtain ⟨l1, l2, l3⟩ := lims h
  have g : ∀ f : Rcd → Int, cutL l.length (ints (l.map f)) 0 l.length = ints (l.map f) := fun f => Zgf (by rw [Z1ii, List.length_map])
  rw [Zmf]
  simp only [Int.toNat_natCast, Nat.mul_one, g]
  by_cases hlt : k < l.length
  ·refine st_cT (decide_eq_true (by omega)) ?_
   refine st_if (by omega) ?_
   refine st_if (by omega) ?_
   rw [Z40 (by omega), Z14o hlt, Z14r]
   refine Z5 (rdI_v _ _) ?_
   refine st_if (by omega) ?_
   refine Z5 (Z14t hle l1 hlt a1 a2) ?_
   refine Z5 (rdI_v _ _) ?_
   refine Z5 (rdI_v _ _) ?_
   refine st_if (by omega) ?_
   refine Z5 (Z14t hle l2 hlt a3 a4) ?_
   refine Z5 (rdI_v _ _) ?_
   refine Z5 (rdI_v _ _) ?_
   refine st_if (by omega) ?_
   refine Z5 (Z14t hle l3 hlt a5 a6) ?_
   refine Z5 (rdI_v _ _) ?_
   refine Z5 (Zlz _ _ _) ?_
   refine Z5 (rdA_v _) ?_
   refine Z5 (Z1hm (_, _, _) (_, _, _)) ?_
   refine st_cF (by simp [compAt]) ?_
   exact cl_14 c (k + 1) (by omega) (by omega)
  ·refine st_cF (decide_eq_false (by omega)) ?_
   exact Z5 Zx5 (Z5 (rdB_v _) rfl)
theorem cl_7 {m : Nat} (hm : 100 < m) {Z1q : Option Nat} {Z4p : Nat} {Z57 : Option Nat} {Z6o : List D} {Z2l Z2k : Int} : ∀ (c k : Nat), l.length - k < c → k ≤ l.length →
  Z5n m c l.length cp (rcdsC l) l.length Z1q (((states Rcd.nx (c0 l.length x y z) l).map ctr3).flatten) (k : Int) Z4p Z57 Z6o Z2l Z2k (inC u cu x y z) k k k k (ints ((l.take k).map Rcd.r)) k (ints ((l.take k).map Rcd.i)) k (ints ((l.take k).map Rcd.y)) = some (.v (.bool true))
 | 0, k, hc, hk => by omega
 | c + 1, k, hc, hk => by
  have hle := h.le
  rw [Zo7]
  simp only [Int.toNat_natCast, Nat.mul_one]
  by_cases hlt : k < l.length
  ·have e : ∀ f : Rcd → Int, ints ((l.take k).map f) ++ [.v (.int .i64 (f l[k]))] = ints ((l.take (k + 1)).map f) := fun f => by
    rw [List.take_add_one, List.getElem?_eq_getElem hlt, List.map_append, Z1cm]; rfl
   have own : ∀ j : Nat, 2 < j → j < 10 → ownB ⟨0, [], false, []⟩ j = true := fun j h1 h2 => by
    have : j = 3 ∨ j = 4 ∨ j = 5 ∨ j = 6 ∨ j = 7 ∨ j = 8 ∨ j = 9 := by omega
    rcases this with rfl | rfl | rfl | rfl | rfl | rfl | rfl <;> rfl
   have fit : Z4y (k + 1) 8 := by constructor <;> omega
   refine st_cT (decide_eq_true (by omega)) ?_
   refine st_if (by omega) ?_
   refine Z5 (Z1cl (Zxk (i := k) (j := 5) hlt (by omega))) ?_
   refine st_if (by refine ⟨rfl, ?_⟩; first | exact ⟨rfl, fit, rfl⟩ | exact ⟨trivial, fit, trivial⟩) ?_
   refine st_if (by omega) ?_
   refine Z5 (Z1cl (Zxk (i := k) (j := 6) hlt (by omega))) ?_
   refine st_if (by refine ⟨rfl, ?_⟩; first | exact ⟨rfl, fit, rfl⟩ | exact ⟨trivial, fit, trivial⟩) ?_
   refine st_if (by omega) ?_
   refine Z5 (Z1cl (Zxk (i := k) (j := 7) hlt (by omega))) ?_
   refine st_if (by refine ⟨rfl, ?_⟩; first | exact ⟨rfl, fit, rfl⟩ | exact ⟨trivial, fit, trivial⟩) ?_
   rw [Z40 (by omega), e, e, e]
   exact cl_7 hm c (k + 1) (by omega) (by omega)
  ·obtain rfl : k = l.length := by omega
   refine st_cF (decide_eq_false (by omega)) ?_
   refine Z5 (Z16r hle u cu x y z) ?_
   refine Z5 (rdA_v _) ?_
   refine st_if rfl ?_
   rw [List.take_length]
   exact cl_14 h m 0 (by omega) (by omega)
end
theorem Z106 {x : Ci} (hx : x.ok) : Zz [.agg x.cells] = some (.v (.bool true)) := by
 show Z6n M x.l.length x.lc (risC x.l) (x.u : Int) (x.f : Int) = _
 unfold Z6n
 have h := x.chain_ok
 have hle := h.le
 have h1 := Zr6 (Rcd.does x.chain) h.chk none x.ini_ok x.ini.2 x.x x.y x.z
 rw [if_pos (h.all x.ini_good)] at h1
 refine Z5 (Z18p hx) ?_
 refine Z5 (rdT_v _) ?_
 refine st_if t2 ?_
 refine Z5 (rdL_v _ _ _) ?_
 refine Z5 (rdA_v _) ?_
 refine st_if Z1co ?_
 refine Z5 h1 ?_
 refine Z5 (rdT_v _) ?_
 refine st_if t2 ?_
 refine Z5 (rdL_v _ _ _) ?_
 refine Z5 (rdI_v _ _) ?_
 refine st_cF rfl ?_
 refine st_cF (i_bnf rfl) ?_
 rw [Zmg]
 exact cl_7 h (m := M) (by unfold M; omega) M 0 (by unfold M; omega) (by omega)
end Go.Ev