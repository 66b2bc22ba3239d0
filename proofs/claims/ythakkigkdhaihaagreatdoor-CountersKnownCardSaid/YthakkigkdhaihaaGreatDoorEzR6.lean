/-
 The statements about the first certificates before which counters are 0.
-/
import Derived.Test.YthakkigkdhaihaaGreatDoorEzR5
set_option linter.unusedSimpArgs false
set_option linter.unusedVariables false
set_option maxRecDepth 100000
namespace Go.Ev
open Go
def compAt (lim : Rcd → Int) (l : List Rcd) (v : Int) (k : Nat) : Int := (l.take k).foldl (fun v q => afterC q.s v (lim q)) v
theorem foldl_nx : ∀ (l : List Rcd) (c : C3), l.foldl (fun c q => q.nx c) c = (l.foldl (fun v q => afterC q.s v q.r) c.1, l.foldl (fun v q => afterC q.s v q.i) c.2.1, l.foldl (fun v q => afterC q.s v q.y) c.2.2)
 | [], c => rfl
 | q :: r, c => by rw [List.foldl_cons, foldl_nx r]; rfl
theorem Z14r (l : List Rcd) (c : C3) (k : Nat) : stAt l c k = (compAt Rcd.r l c.1 k, compAt Rcd.i l c.2.1 k, compAt Rcd.y l c.2.2 k) := foldl_nx _ _
def firstZ (f : Nat → Int) : Nat → Nat → Int → Int
 | _, 0, v => v
 | k, n + 1, v => if f k = 0 then ((k + 1 : Nat) : Int) else firstZ f (k + 1) n v
def fwZ (f : Nat → Int) : Nat → Nat → Int → Int
 | _, 0, v => v
 | k, n + 1, v => fwZ f (k + 1) n (atC v (f k) k)
def bwZ (f : Nat → Int) : Nat → Int → Int
 | 0, v => v
 | n + 1, v => bwZ f n (if f n = 0 then ((n + 1 : Nat) : Int) else v)
theorem Z1bp (f : Nat → Int) : ∀ (n k : Nat) (v : Int), v ≤ k → fwZ f k n v = v
 | 0, k, v, h => rfl
 | n + 1, k, v, h => by
  have e : atC v (f k) k = v := by
   unfold atC mm
   cases (f k == 0) with
   | true => simp; omega
   | false => rfl
  unfold fwZ
  rw [e]; exact Z1bp f n (k + 1) v (by omega)
theorem Zxl (f : Nat → Int) : ∀ (n k : Nat) (v : Int), ((k + n + 1 : Nat) : Int) ≤ v → fwZ f k n v = firstZ f k n v
 | 0, k, v, h => rfl
 | n + 1, k, v, h => by
  unfold fwZ firstZ atC
  by_cases h0 : f k = 0
  ·rw [if_pos h0, h0, show ((0 : Int) == 0) = true from rfl, cond_true]
   have e : mm true v ((k + 1 : Nat) : Int) = ((k + 1 : Nat) : Int) := by unfold mm; simp; omega
   rw [e, Z1bp f n (k + 1) _ (by omega)]
  ·rw [if_neg h0, i_ne h0, cond_false]
   exact Zxl f n (k + 1) v (by rw [show k + 1 + n + 1 = k + (n + 1) + 1 by omega]; exact h)
theorem Z14s (f : Nat → Int) : ∀ (n k : Nat) (v : Int), firstZ f k (n + 1) v = firstZ f k n (if f (k + n) = 0 then ((k + n + 1 : Nat) : Int) else v)
 | 0, k, v => rfl
 | n + 1, k, v => by
  rw [firstZ, Z14s f n (k + 1) v]
  conv => rhs; rw [firstZ]
  rw [show k + 1 + n = k + (n + 1) by omega]
theorem Z1bq (f : Nat → Int) : ∀ (n : Nat) (v : Int), bwZ f n v = firstZ f 0 n v
 | 0, v => rfl
 | n + 1, v => by
  rw [bwZ, Z1bq f n, Z14s]; simp
theorem Z1dn {l : List Rcd} (c : C3) : ∀ (n k : Nat) (a b d : Int), k + n = l.length → zeroC Rcd.nx a b d (stAt l c k) k (l.drop k) =
  [.v (.int .i64 (fwZ (compAt Rcd.r l c.1) k n a)), .v (.int .i64 (fwZ (compAt Rcd.i l c.2.1) k n b)), .v (.int .i64 (fwZ (compAt Rcd.y l c.2.2) k n d)), .v (.int .i64 0)]
 | 0, k, a, b, d, h => by rw [List.drop_eq_nil_of_le (by omega)]; rfl
 | n + 1, k, a, b, d, h => by
  have hk : k < l.length := by omega
  rw [List.drop_eq_getElem_cons hk, zeroC, ← Z14l hk, Z1dn c n (k + 1) _ _ _ (by omega)]
  simp only [fwZ, Z14r]
def wantZ (l : List Rcd) (lim : Rcd → Int) (v : Int) : Int := firstZ (compAt lim l v) 0 l.length ((l.length : Int) + 1)
theorem Z105 {l : List Rcd} (h : 0 < l.length) (lim : Rcd → Int) : wantZ l lim 0 = 1 := by
 unfold wantZ
 obtain ⟨n, hn⟩ : ∃ n, l.length = n + 1 := ⟨l.length - 1, by omega⟩
 rw [hn, firstZ, if_pos (show compAt lim l 0 0 = 0 from rfl)]; rfl
section
variable {l : List Rcd} (h : Chain l) {cp : Option Nat} {u : List Oid} (hu : ∀ x, x ∈ u → x.ok) (hue : setErr u = 0) {cu : Option Nat} {x y z : Bool}
include h hu hue
theorem zero_all : Z1g [.list l.length cp (rcdsC l), .agg (inC u cu x y z)] =
  some (.tup [.v (.int .i64 (wantZ l Rcd.r (c0 l.length x y z).1)), .v (.int .i64 (wantZ l Rcd.i (c0 l.length x y z).2.1)), .v (.int .i64 (wantZ l Rcd.y (c0 l.length x y z).2.2)), .v (.int .i64 0)]) := by
 have h1 := Zin (Rcd.does l) h.chk cp hu cu x y z
 rw [if_pos (h.all hue)] at h1
 refine h1.trans ?_
 have := Z1dn (l := l) (c0 l.length x y z) l.length 0 ((l.length : Int) + 1) ((l.length : Int) + 1) ((l.length : Int) + 1) (by omega)
 rw [List.drop_zero] at this
 have e : stAt l (c0 l.length x y z) 0 = c0 l.length x y z := rfl
 rw [e] at this
 rw [this, Zxl _ _ _ _ (by omega), Zxl _ _ _ _ (by omega), Zxl _ _ _ _ (by omega)]
 rfl
end
theorem t4 {a b c d : D} : [a, b, c, d].length = 4 := rfl
section
variable {l : List Rcd} (h : Chain l) {cp : Option Nat} {u : List Oid} (hu : ∀ x, x ∈ u → x.ok) (hue : setErr u = 0) {cu : Option Nat} {x y z : Bool}
include h hu hue
theorem Z1cp {m Z17t : Nat} {Z14x : Option Nat} {Z17u : List D} {Z14y Z17v : Int} {n : Nat} (a b d : Int)
  (h0 : n % 3 = 0 → wantZ l Rcd.r (c0 l.length x y z).1 = 1 ∧ wantZ l Rcd.i (c0 l.length x y z).2.1 = b ∧ wantZ l Rcd.y (c0 l.length x y z).2.2 = d)
  (h1 : n % 3 = 1 → wantZ l Rcd.r (c0 l.length x y z).1 = a ∧ wantZ l Rcd.i (c0 l.length x y z).2.1 = 1 ∧ wantZ l Rcd.y (c0 l.length x y z).2.2 = d)
  (h2 : n % 3 = 2 → wantZ l Rcd.r (c0 l.length x y z).1 = a ∧ wantZ l Rcd.i (c0 l.length x y z).2.1 = b ∧ wantZ l Rcd.y (c0 l.length x y z).2.2 = 1) :
  Z3g m (n : Int) l.length cp (rcdsC l) Z17t Z14x Z17u Z14y Z17v (inC u cu x y z) a b d = some (.v (.bool true)) := by
 rw [Zmh, show Int.tmod (n : Int) (3 : Int) = ((n % 3 : Nat) : Int) from Zhf _ 3]
 have hlt : n % 3 < 3 := Nat.mod_lt _ (by omega)
 generalize n % 3 = j at hlt h0 h1 h2 ⊢
 refine st_if (by omega) ?_
 simp only [Int.toNat_natCast]
 refine st_if (by simp; omega) ?_
 refine Z5 (zero_all h hu hue) ?_
 refine Z5 (rdT_v _) ?_
 refine st_if t4 ?_
 refine Z5 (rdI_v _ _) ?_
 refine Z5 (rdI_v _ _) ?_
 refine Z5 (rdI_v _ _) ?_
 refine Z5 (rdI_v _ _) ?_
 refine st_cT rfl ?_
 have fin : (Z1n []).bind (fun d43 => (rdB (some d43)).bind fun b44 => some (D.v (.bool b44))) = some (D.v (.bool true)) := Z5 Zx5 (Z5 (rdB_v _) rfl)
 match j, hlt with
 | 0, _ =>
  obtain ⟨e1, e2, e3⟩ := h0 rfl
  refine Z5 (rdI_v _ _) ?_
  refine st_cT (i_eq e1) ?_
  refine Z5 (rdI_v _ _) ?_
  refine st_cT (i_eq e2) ?_
  refine Z5 (rdI_v _ _) ?_
  exact st_cT (i_eq e3) fin
 | 1, _ =>
  obtain ⟨e1, e2, e3⟩ := h1 rfl
  refine Z5 (rdI_v _ _) ?_
  refine st_cT (i_eq e1) ?_
  refine Z5 (rdI_v _ _) ?_
  refine st_cT (i_eq e2) ?_
  refine Z5 (rdI_v _ _) ?_
  exact st_cT (i_eq e3) fin
 | 2, _ =>
  obtain ⟨e1, e2, e3⟩ := h2 rfl
  refine Z5 (rdI_v _ _) ?_
  refine st_cT (i_eq e1) ?_
  refine Z5 (rdI_v _ _) ?_
  refine st_cT (i_eq e2) ?_
  refine Z5 (rdI_v _ _) ?_
  exact st_cT (i_eq e3) fin
theorem Z1nh {m Zvf : Nat} {Zvg : Option Nat} {Zvh : List D} {Zvi Zvj : Int} {n : Nat} :
  Z7z m (n : Int) l.length cp (rcdsC l) Zvf Zvg Zvh Zvi Zvj (inC u cu x y z) (wantZ l Rcd.r (c0 l.length x y z).1) (wantZ l Rcd.i (c0 l.length x y z).2.1) (wantZ l Rcd.y (c0 l.length x y z).2.2) = some (.v (.bool true)) := by
 rw [Zmi]
 have e3 : Int.tmod (n : Int) (3 : Int) = ((n % 3 : Nat) : Int) := Zhf _ 3
 have hlt : n % 3 < 3 := Nat.mod_lt _ (by omega)
 have hp := h.pos
 by_cases h0 : n % 3 = 0
 ·refine st_cT (i_eq (by omega)) ?_
  exact Z1cp h hu hue (x := true) _ _ _ (fun _ => ⟨Z105 (by omega) _, rfl, rfl⟩) (fun e => by omega) (fun e => by omega)
 ·refine st_cF (i_ne (by omega)) ?_
  by_cases h1 : n % 3 = 1
  ·refine st_cT (i_eq (by omega)) ?_
   exact Z1cp h hu hue (y := true) _ _ _ (fun e => by omega) (fun _ => ⟨rfl, Z105 (by omega) _, rfl⟩) (fun e => by omega)
  ·refine st_cF (i_ne (by omega)) ?_
   refine st_cT (i_eq (by omega)) ?_
   exact Z1cp h hu hue (z := true) _ _ _ (fun e => by omega) (fun e => by omega) (fun _ => ⟨rfl, rfl, Z105 (by omega) _⟩)
theorem zero_5 {m : Nat} {Z6o : Nat} {Z2l : Option Nat} {Z2k : List D} {Z3o Z3y : Int} {n : Nat} : ∀ (c k : Nat) (a b d : Int), k < c → k ≤ l.length →
  bwZ (compAt Rcd.r l (c0 l.length x y z).1) k a = wantZ l Rcd.r (c0 l.length x y z).1 → bwZ (compAt Rcd.i l (c0 l.length x y z).2.1) k b = wantZ l Rcd.i (c0 l.length x y z).2.1 → bwZ (compAt Rcd.y l (c0 l.length x y z).2.2) k d = wantZ l Rcd.y (c0 l.length x y z).2.2 →
  Z65 m c (n : Int) l.length cp (rcdsC l) (wantZ l Rcd.r (c0 l.length x y z).1) (wantZ l Rcd.i (c0 l.length x y z).2.1) (wantZ l Rcd.y (c0 l.length x y z).2.2) 0 (k : Int) Z6o Z2l Z2k Z3o Z3y (inC u cu x y z) a b d = some (.v (.bool true))
 | 0, k, a, b, d, hc, hk, _, _, _ => by omega
 | c + 1, k, a, b, d, hc, hk, ha, hb, hd => by
  have hle := h.le
  rw [Zpi]
  match k with
  | 0 =>
   simp only [bwZ] at ha hb hd
   refine st_cF (decide_eq_false (by omega)) ?_
   refine st_cF rfl ?_
   refine st_cF (i_bnf ha.symm) ?_
   refine st_cF (i_bnf hb.symm) ?_
   refine st_cF (i_bnf hd.symm) ?_
   rw [ha, hb, hd]
   exact Z1nh h hu hue
  | k + 1 =>
   simp only [bwZ] at ha hb hd
   refine st_cT (decide_eq_true (by omega)) ?_
   refine Z5 (Zko h cp u cu x y z (by omega)) ?_
   refine Z5 (rdA_v _) ?_
   refine st_if rfl ?_
   rw [Z14r]
   have e1 : IntKind.wrap .i64 (((k + 1 : Nat) : Int) - (1 : Int)) = (k : Int) := by rw [Zil (by omega) (by omega)]; omega
   have nx : ∀ a b d : Int, bwZ (compAt Rcd.r l (c0 l.length x y z).1) k a = wantZ l Rcd.r (c0 l.length x y z).1 → bwZ (compAt Rcd.i l (c0 l.length x y z).2.1) k b = wantZ l Rcd.i (c0 l.length x y z).2.1 → bwZ (compAt Rcd.y l (c0 l.length x y z).2.2) k d = wantZ l Rcd.y (c0 l.length x y z).2.2 → Z5o m c (n : Int) l.length cp (rcdsC l) (wantZ l Rcd.r (c0 l.length x y z).1) (wantZ l Rcd.i (c0 l.length x y z).2.1) (wantZ l Rcd.y (c0 l.length x y z).2.2) 0 ((k + 1 : Nat) : Int) Z6o Z2l Z2k Z3o Z3y (inC u cu x y z) a b d = some (.v (.bool true)) := fun a b d ha hb hd => by
    rw [Zo8, e1]
    exact zero_5 c k a b d (by omega) (by omega) ha hb hd
   refine Z5 (rdI_v _ _) ?_
   rw [Zds, Zds, Z4n, Z4n, Z4n, Z4n]
   generalize compAt Rcd.r l (c0 l.length x y z).1 k = q1 at ha ⊢
   generalize compAt Rcd.i l (c0 l.length x y z).2.1 k = q2 at hb ⊢
   generalize compAt Rcd.y l (c0 l.length x y z).2.2 k = q3 at hd ⊢
   by_cases c1 : q1 = 0
   ·rw [if_pos c1] at ha
    refine st_cT (i_eq c1) ?_
    refine Z5 (rdI_v _ _) ?_
    by_cases c2 : q2 = 0
    ·rw [if_pos c2] at hb
     refine st_cT (i_eq c2) ?_
     refine Z5 (rdI_v _ _) ?_
     by_cases c3 : q3 = 0
     ·rw [if_pos c3] at hd
      exact st_cT (i_eq c3) (nx _ _ _ ha hb hd)
     ·rw [if_neg c3] at hd
      exact st_cF (i_ne c3) (nx _ _ _ ha hb hd)
    ·rw [if_neg c2] at hb
     refine st_cF (i_ne c2) ?_
     refine Z5 (rdI_v _ _) ?_
     by_cases c3 : q3 = 0
     ·rw [if_pos c3] at hd
      exact st_cT (i_eq c3) (nx _ _ _ ha hb hd)
     ·rw [if_neg c3] at hd
      exact st_cF (i_ne c3) (nx _ _ _ ha hb hd)
   ·rw [if_neg c1] at ha
    refine st_cF (i_ne c1) ?_
    refine Z5 (rdI_v _ _) ?_
    by_cases c2 : q2 = 0
    ·rw [if_pos c2] at hb
     refine st_cT (i_eq c2) ?_
     refine Z5 (rdI_v _ _) ?_
     by_cases c3 : q3 = 0
     ·rw [if_pos c3] at hd
      exact st_cT (i_eq c3) (nx _ _ _ ha hb hd)
     ·rw [if_neg c3] at hd
      exact st_cF (i_ne c3) (nx _ _ _ ha hb hd)
    ·rw [if_neg c2] at hb
     refine st_cF (i_ne c2) ?_
     refine Z5 (rdI_v _ _) ?_
     by_cases c3 : q3 = 0
     ·rw [if_pos c3] at hd
      exact st_cT (i_eq c3) (nx _ _ _ ha hb hd)
     ·rw [if_neg c3] at hd
      exact st_cF (i_ne c3) (nx _ _ _ ha hb hd)
end
theorem Z12g {x : Ci} (hx : x.ok) (n : Nat) : Z15 [.agg x.cells, .v (.int .u8 (n : Int))] = some (.v (.bool true)) := by
 show Z7f M x.l.length x.lc (risC x.l) (x.u : Int) (x.f : Int) (n : Int) = _
 unfold Z7f
 have h := x.chain_ok
 have hle := h.le
 refine Z5 (Z18p hx) ?_
 refine Z5 (rdT_v _) ?_
 refine st_if t2 ?_
 refine Z5 (rdL_v _ _ _) ?_
 refine Z5 (rdA_v _) ?_
 refine st_if Z1co ?_
 refine Z5 (zero_all h x.ini_ok x.ini_good) ?_
 refine Z5 (rdT_v _) ?_
 refine st_if t4 ?_
 refine Z5 (rdI_v _ _) ?_
 refine Z5 (rdI_v _ _) ?_
 refine Z5 (rdI_v _ _) ?_
 refine Z5 (rdI_v _ _) ?_
 dsimp only
 rw [Zil (by omega) (by omega)]
 have e : ∀ lim v, bwZ (compAt lim x.chain v) x.chain.length ((x.chain.length : Int) + 1) = wantZ x.chain lim v := fun lim v => Z1bq _ _ _
 exact zero_5 h x.ini_ok x.ini_good M x.chain.length _ _ _ (by unfold M; omega) (by omega) (e _ _) (e _ _) (e _ _)
end Go.Ev