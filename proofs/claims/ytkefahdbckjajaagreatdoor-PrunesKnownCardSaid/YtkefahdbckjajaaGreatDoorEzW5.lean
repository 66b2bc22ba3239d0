/-
 The statement about prunings: what is known.
-/
import Derived.Test.YtkefahdbckjajaaGreatDoorEzW4
import Derived.Test.YtkefahdbckjajaaGreatDoorEzGg
set_option linter.unusedSimpArgs false
set_option linter.unusedVariables false
set_option maxRecDepth 100000
namespace Go.Ev
open Go
theorem rk_all {A : Nat → Bool} : ∀ {n : Nat}, (∀ i, i < n → A i = true) → rk A n = n
 | 0, _ => rfl
 | n + 1, h => by rw [rk, rk_all fun i hi => h i (by omega), if_pos (h n (by omega))]
def pthN (i : Nat) : Cd := ⟨⟨(i : Int) - 1, anyO, [], []⟩, some 0, some 0⟩
def pth (n : Nat) : List Cd := (List.range n).map pthN
def widO (i : Nat) : Oid := ⟨3, [1, 2, i, 0, 0, 0, 0, 0, 0, 0, 0, 0, 0, 0, 0, 0]⟩
def widN (p : Int) (i : Nat) : Cd := ⟨⟨p, widO i, [], []⟩, some 0, some 0⟩
def wid0 (n : Nat) : List Cd := (List.range n).map (widN 0)
def wid (n : Nat) : List Cd := (List.range n).map fun i => widN (if i = 0 then -1 else 0) i
theorem Z1gi (n : Nat) : (pth n).length = n := by simp [pth]
theorem Z18z (n : Nat) : (wid0 n).length = n := by simp [wid0]
theorem Z1gj (n : Nat) : (wid n).length = n := by simp [wid]
theorem Z1kq (n : Nat) : pth (n + 1) = pth n ++ [pthN n] := by simp [pth, List.range_succ]
theorem Z1nd (n : Nat) : wid0 (n + 1) = wid0 n ++ [widN 0 n] := by simp [wid0, List.range_succ]
theorem Z1ne {i : Nat} (h : i < 1000) : (widO i).ok := ⟨by show 3 < 256; decide, rfl, fun x hx => by
 simp only [widO, List.mem_cons, List.not_mem_nil, or_false] at hx
 omega⟩
theorem Z1jl {n : Nat} {x : Cd} (h : x ∈ pth n) : ∃ i, i < n ∧ x = pthN i := by
 obtain ⟨i, hi, rfl⟩ := List.mem_map.1 h
 exact ⟨i, List.mem_range.1 hi, rfl⟩
theorem Z1jm {n : Nat} {x : Cd} (h : x ∈ wid n) : ∃ i, i < n ∧ x = widN (if i = 0 then -1 else 0) i := by
 obtain ⟨i, hi, rfl⟩ := List.mem_map.1 h
 exact ⟨i, List.mem_range.1 hi, rfl⟩
theorem pth_b {n : Nat} (hn : n < 1000) : CdsB (pth n) := ⟨fun x hx => by
 obtain ⟨i, hi, rfl⟩ := Z1jl hx
 exact ⟨anyO_ok, fun o ho => nomatch ho⟩, by rw [Z1gi]; omega, fun x hx => by
 obtain ⟨i, hi, rfl⟩ := Z1jl hx
 show 0 < 1000000000; decide, fun x hx => by
 obtain ⟨i, hi, rfl⟩ := Z1jl hx
 show 0 < 1000000000; decide⟩
theorem wid_b {n : Nat} (hn : n < 1000) : CdsB (wid n) := ⟨fun x hx => by
 obtain ⟨i, hi, rfl⟩ := Z1jm hx
 exact ⟨Z1ne (by omega), fun o ho => nomatch ho⟩, by rw [Z1gj]; omega, fun x hx => by
 obtain ⟨i, hi, rfl⟩ := Z1jm hx
 show 0 < 1000000000; decide, fun x hx => by
 obtain ⟨i, hi, rfl⟩ := Z1jm hx
 show 0 < 1000000000; decide⟩
theorem Z1q4 {n : Nat} (hn : n < 1000) : CdsOk (wid0 n) := fun x hx => by
 obtain ⟨i, hi, rfl⟩ := List.mem_map.1 hx
 exact ⟨Z1ne (by have := List.mem_range.1 hi; omega), fun o ho => nomatch ho⟩
theorem Z1q5 {n : Nat} (hn : 0 < n) : (wid0 n).set 0 ((wid0 n)[0]'(by rw [Z18z]; exact hn)|>.setPar (-1)) = wid n := by
 apply List.ext_getElem?
 intro i
 by_cases h0 : i = 0
 ·subst h0
  rw [List.getElem?_set_self (by rw [Z18z]; exact hn)]
  simp [wid0, wid, hn, widN, Cd.setPar]
 ·rw [List.getElem?_set_ne (by omega)]
  by_cases hi : i < n
  ·simp [wid0, wid, hi, h0]
  ·rw [List.getElem?_eq_none (by rw [Z18z]; omega), List.getElem?_eq_none (by rw [Z1gj]; omega)]
theorem Z1gk {n i : Nat} (h : i < n) : (nds (pth n))[i]? = some ⟨(i : Int) - 1, anyO, [], []⟩ := by simp [nds, pth, h, pthN]
theorem Z1gl {n i : Nat} (h : i < n) : (nds (wid n))[i]? = some ⟨if i = 0 then -1 else 0, widO i, [], []⟩ := by simp [nds, wid, h, widN]
theorem Zks (n : Nat) : (nds (pth n)).length = n := by rw [Zy, Z1gi]
theorem Zkt (n : Nat) : (nds (wid n)).length = n := by rw [Zy, Z1gj]
theorem Z1gm {n i : Nat} (h : i < (nds (pth n)).length) : (nds (pth n))[i] = ⟨(i : Int) - 1, anyO, [], []⟩ := by
 have := Z1gk (n := n) (i := i) (by rw [Zks] at h; exact h)
 rw [List.getElem?_eq_getElem h] at this
 exact Option.some.inj this
theorem Z1gn {n i : Nat} (h : i < (nds (wid n)).length) : (nds (wid n))[i] = ⟨if i = 0 then -1 else 0, widO i, [], []⟩ := by
 have := Z1gl (n := n) (i := i) (by rw [Zkt] at h; exact h)
 rw [List.getElem?_eq_getElem h] at this
 exact Option.some.inj this
theorem Z14v (n : Nat) : Shape (nds (pth n)) := ⟨fun x hx => by
 have h := (List.getElem?_eq_some_iff.1 hx).1
 rw [Zks] at h
 rw [Z1gk h] at hx; cases hx; rfl, fun i x h0 hx => by
 have h := (List.getElem?_eq_some_iff.1 hx).1
 rw [Zks] at h
 rw [Z1gk h] at hx; cases hx
 dsimp only; omega⟩
theorem Z14w (n : Nat) : Shape (nds (wid n)) := ⟨fun x hx => by
 have h := (List.getElem?_eq_some_iff.1 hx).1
 rw [Zkt] at h
 rw [Z1gl h] at hx; cases hx; rfl, fun i x h0 hx => by
 have h := (List.getElem?_eq_some_iff.1 hx).1
 rw [Zkt] at h
 rw [Z1gl h] at hx; cases hx
 dsimp only; rw [if_neg (by omega)]; omega⟩
theorem Z1go {n i : Nat} (h : i < n) : parN (nds (pth n)) i = i - 1 := by
 unfold parN; rw [Z1gk h]; dsimp only; omega
theorem Z1gp {n i : Nat} (h : i < n) : parN (nds (wid n)) i = 0 := by
 unfold parN; rw [Z1gl h]; dsimp only; split <;> rfl
theorem Z1br {n : Nat} : ∀ {i : Nat}, i < n → dep (nds (pth n)) i = i
 | 0, _ => rfl
 | i + 1, h => by
  rw [Zgc (Z14v n) (by rw [Zks]; exact h) (by omega), Z1go h, Nat.add_sub_cancel, Z1br (i := i) (by omega)]
theorem Z1gq {n i : Nat} (h : i < n) : dep (nds (wid n)) i = if i = 0 then 0 else 1 := by
 by_cases h0 : i = 0
 ·subst h0; rfl
 ·rw [Zgc (Z14w n) (by rw [Zkt]; exact h) (by omega), Z1gp h, if_neg h0]; rfl
theorem Z1ih {n : Nat} (hn : n ≤ 65) : Valid (nds (pth n)) := by
 refine ⟨by rw [Zks]; omega, Z14v n, fun i h h0 => ?_, fun i h => ?_, fun x hx => ?_⟩
 ·rw [Z1gm, Z1gm]; left; dsimp only; omega
 ·rw [Zks] at h; rw [Z1br h]; omega
 ·obtain ⟨i, hi, rfl⟩ := List.getElem_of_mem hx
  rw [Z1gm]
  exact Zv7.2 ⟨anyO_good, rfl, by show 0 ≤ 8; decide⟩
theorem Z1nf {i : Nat} : (widO i).good = true := by
 simp [Oid.good, widO]
theorem Z1p4 (i : Nat) : (widO i).cmp (widO (i + 1)) < 0 := by
 simp [Oid.cmp, Oid.arcs, widO, cmpL]
theorem Z1ng {n : Nat} (hn : n ≤ 1000) : Valid (nds (wid n)) := by
 refine ⟨by rw [Zkt]; omega, Z14w n, fun i h h0 => ?_, fun i h => ?_, fun x hx => ?_⟩
 ·rw [Z1gn, Z1gn]; right
  dsimp only
  rw [if_neg (by omega), if_neg (by omega)]
  exact ⟨rfl, Z1p4 i⟩
 ·rw [Zkt] at h; rw [Z1gq h]; split <;> omega
 ·obtain ⟨i, hi, rfl⟩ := List.getElem_of_mem hx
  rw [Z1gn]
  exact Zv7.2 ⟨Z1nf, rfl, by show 0 ≤ 8; decide⟩
theorem Z1jn {l : List Cd} (hb : CdsB l) (hv : Valid (nds l)) {d : Int} (h : ¬ (d < 0 ∨ 64 < d)) : planE (nds l) d = 0 := Zpj ((Z1ai hb.ok.nds).2 hv) h
theorem pth_stays : ∀ {k i : Nat}, i + k = 64 → stays (nds (pth 65)) 64 i = true
 | 0, i, h => (Z85 (Z14v 65) (by rw [Zks]; omega)).2 (.inl (by rw [Z1br (by omega)]; omega))
 | k + 1, i, h => (Z85 (Z14v 65) (by rw [Zks]; omega)).2 (.inr ⟨i + 1, by rw [Zks]; omega, by omega, pth_stays (k := k) (by omega), by rw [Z1go (by omega)]; omega⟩)
theorem Z1nh {n : Nat} (hn : 1 < n) {i : Nat} (hi : i < n) : stays (nds (wid n)) 1 i = true := by
 have one : ∀ j, j < n → 0 < j → stays (nds (wid n)) 1 j = true := fun j hj h0 => (Z85 (Z14w n) (by rw [Zkt]; exact hj)).2 (.inl (by rw [Z1gq hj, if_neg (by omega)]; omega))
 by_cases h0 : i = 0
 ·subst h0
  exact (Z85 (Z14w n) (by rw [Zkt]; exact hi)).2 (.inr ⟨1, by rw [Zkt]; exact hn, by omega, one 1 hn (by omega), by rw [Z1gp hn]⟩)
 ·exact one i hi (by omega)
theorem Z1lr {l : List Cd} (h : Shape (nds l)) {d : Nat} (hd : ∀ i, i < l.length → dep (nds l) i ≠ d) : rk (stays (nds l) d) l.length = 0 := by
 have := (Z1al h (d := d)).2 (by rw [Zy]; exact hd)
 unfold prune at this
 rw [Z5e, Zy] at this
 exact this
theorem pth_cl : clI (nds (pth 64)) tt 64 64 = [63] := by
 unfold clI
 rw [List.filter_congr (q := fun i => decide (i = 63)) fun i hi => ?_]
 ·decide +kernel
 ·have hi := List.mem_range.1 hi
  unfold chl
  rw [Z1br hi, decide_eq_true hi]
  show (true && true && !kid (nds (pth 64)) tt i) = _
  by_cases h : i = 63
  ·have : kid (nds (pth 64)) tt i = false := by
    cases hk : kid (nds (pth 64)) tt i with
    | false => rfl
    | true =>
     obtain ⟨k, h1, h2, _, h4⟩ := Zk6.1 hk
     rw [Zks] at h1
     rw [Z1go h1] at h4
     omega
   rw [this, decide_eq_true h]; rfl
  ·have : kid (nds (pth 64)) tt i = true := Zk6.2 ⟨i + 1, by rw [Zks]; omega, by omega, rfl, by rw [Z1go (by omega)]; omega⟩
   rw [this, decide_eq_false h]; rfl
theorem wid_cl : (clI (nds (wid 301)) tt 2 301).length = 300 := by
 unfold clI
 rw [List.length_map, List.filter_congr (q := fun i => decide (0 < i)) fun i hi => ?_]
 ·decide +kernel
 ·have hi := List.mem_range.1 hi
  unfold chl
  rw [Z1gq hi, decide_eq_true (by split <;> omega)]
  show (true && true && !kid (nds (wid 301)) tt i) = _
  by_cases h : i = 0
  ·have : kid (nds (wid 301)) tt i = true := Zk6.2 ⟨1, by rw [Zkt]; omega, by omega, rfl, by rw [Z1gp (by omega)]; omega⟩
   rw [this, decide_eq_false (by omega)]; rfl
  ·have : kid (nds (wid 301)) tt i = false := by
    cases hk : kid (nds (wid 301)) tt i with
    | false => rfl
    | true =>
     obtain ⟨k, h1, h2, _, h4⟩ := Zk6.1 hk
     rw [Zkt] at h1
     rw [Z1gp h1] at h4
     omega
   rw [this, decide_eq_true (by omega)]; rfl
theorem kPrune {l : List Cd} (hb : CdsB l) (hv : Valid (nds l)) (cp : Option Nat) {d : Nat} (hd : d ≤ 64) (ha : ∀ i, i < l.length → stays (nds l) d i = true) :
  ∃ r, Zp [.agg [.list l.length cp (cdsC l)], .v (.int .i64 (d : Int))] = some (.tup [.agg [.list l.length (some l.length) r], .v (.int .i64 0)]) := by
 refine ⟨cdsC (leftC l (stays (nds l) d)), (Zu3 hb cp d).trans ?_⟩
 rw [Z1jn hb hv (by omega), if_neg (by decide), Int.toNat_natCast]
 unfold delD
 rw [Zqx, rk_all ha]
theorem kBy {l : List Cd} (hb : CdsB l) (hv : Valid (nds l)) (cp : Option Nat) {d : Nat} (hd : d ≤ 64) (hn : ∀ i, i < l.length → dep (nds l) i ≠ d) {cs : List Int} (hcs : cs.length < 1000000000) (ac : Option Nat) :
  ∃ c r, Zw [.agg [.list l.length cp (cdsC l)], .v (.int .i64 (d : Int)), .list cs.length ac (ints cs)] = some (.tup [.agg [.list 0 c r], .v (.int .i64 (l.length : Int)), .v (.int .i64 0)]) := by
 have hB := hb.len
 have h0 := Z1lr hv.shape hn
 obtain ⟨h1, _, h3⟩ := Z1bp hv.shape d cs (f := M + 1) (by unfold M; omega)
 have hl : (leftC l (pby (nds l) d (chN cs) (M + 1) tt 0).1).length = 0 := by rw [h1, Zqx, h0]
 refine ⟨some 0, cdsC (leftC l (pby (nds l) d (chN cs) (M + 1) tt 0).1), (Z12d hb cp d hcs ac).trans ?_⟩
 rw [Z1jn hb hv (by omega), if_neg (by decide), Int.toNat_natCast]
 unfold byD
 rw [hl, show (pby (nds l) d (chN cs) (M + 1) tt 0).2 = l.length by omega]
theorem Z1e0 {l : List Cd} (hb : CdsB l) (hv : Valid (nds l)) (cp : Option Nat) {d : Nat} (hd : d ≤ 64) : Zk [.agg [.list l.length cp (cdsC l)], .v (.int .i64 (d : Int))] = some (.tup [.list (clI (nds l) tt d l.length).length (some (clI (nds l) tt d l.length).length) (ints (clI (nds l) tt d l.length)), .v (.int .i64 0)]) :=
 (Zfo hb cp _).trans (by rw [Z1jn hb hv (by omega), if_neg (by decide), Int.toNat_natCast])
def u8N (x : Int) : Nat := (IntKind.wrap .u8 x).toNat
theorem Z1gr (x : Int) : (u8N x : Int) = IntKind.wrap .u8 x := by unfold u8N; rw [Z1ix]; omega
theorem u8N_lt (x : Int) : u8N x < 256 := by unfold u8N; rw [Z1ix]; omega
def rowsK (k n : Int) : List T4 := [⟨0, 6, 64, 0⟩, ⟨0, u8N k, 1, 0⟩, ⟨u8N (IntKind.wrap .i64 (Int.tdiv k 5)), u8N n, 2, 0⟩, ⟨u8N (IntKind.wrap .i64 (Int.tdiv k 11)), 6, 64, 0⟩,
 ⟨u8N (IntKind.wrap .i64 (Int.tdiv k 13)), u8N (IntKind.wrap .i64 (Int.tdiv k 17)), 3, 0⟩, ⟨u8N n, u8N (IntKind.wrap .i64 (Int.tdiv k 2)), 4, 0⟩, ⟨u8N (IntKind.wrap .i64 (Int.tdiv k 3)), 2, 4, 0⟩]
theorem Z1gs (k n : Int) : ∀ t, t ∈ rowsK k n → t.ok := fun t ht => by
 simp only [rowsK, List.mem_cons, List.not_mem_nil, or_false] at ht
 rcases ht with rfl | rfl | rfl | rfl | rfl | rfl | rfl <;> exact ⟨by first | exact u8N_lt _ | (dsimp only; decide), by first | exact u8N_lt _ | (dsimp only; decide), by dsimp only; decide, by dsimp only; decide⟩
theorem Z1p5 (k n : Int) : D.list 7 (some 7) [(D.v (.int .u8 (0 : Int))), (D.v (.int .u8 (6 : Int))), (D.v (.int .u8 (64 : Int))), (D.v (.int .u8 (0 : Int))), (D.v (.int .u8 (0 : Int))), (D.v (.int .u8 (IntKind.wrap .u8 k))), (D.v (.int .u8 (1 : Int))), (D.v (.int .u8 (0 : Int))), (D.v (.int .u8 (IntKind.wrap .u8 (IntKind.wrap .i64 (Int.tdiv k (5 : Int)))))), (D.v (.int .u8 (IntKind.wrap .u8 n))), (D.v (.int .u8 (2 : Int))), (D.v (.int .u8 (0 : Int))), (D.v (.int .u8 (IntKind.wrap .u8 (IntKind.wrap .i64 (Int.tdiv k (11 : Int)))))), (D.v (.int .u8 (6 : Int))), (D.v (.int .u8 (64 : Int))), (D.v (.int .u8 (0 : Int))), (D.v (.int .u8 (IntKind.wrap .u8 (IntKind.wrap .i64 (Int.tdiv k (13 : Int)))))), (D.v (.int .u8 (IntKind.wrap .u8 (IntKind.wrap .i64 (Int.tdiv k (17 : Int)))))), (D.v (.int .u8 (3 : Int))), (D.v (.int .u8 (0 : Int))), (D.v (.int .u8 (IntKind.wrap .u8 n))), (D.v (.int .u8 (IntKind.wrap .u8 (IntKind.wrap .i64 (Int.tdiv k (2 : Int)))))), (D.v (.int .u8 (4 : Int))), (D.v (.int .u8 (0 : Int))), (D.v (.int .u8 (IntKind.wrap .u8 (IntKind.wrap .i64 (Int.tdiv k (3 : Int)))))), (D.v (.int .u8 (2 : Int))), (D.v (.int .u8 (4 : Int))), (D.v (.int .u8 (0 : Int)))] = .list (rowsK k n).length (some 7) (t4C (rowsK k n)) := by
 simp only [rowsK, t4C, T4.cells, List.map, List.flatten, List.cons_append, List.nil_append, Z1gr]
 rfl
theorem Z1e1 {m : Nat} : ∀ (f : Nat) (k : Int) (n : Nat), 60 - n < f → n ≤ 60 → 0 ≤ k → k < 100003 → Z8e Z1l Z2u Z2a Z15 Zk Zp Zw Z1f Z4z Z2k m f k (n : Int) = some (.v (.bool true))
 | 0, k, n, hf, hn, h0, h1 => by omega
 | f + 1, k, n, hf, hn, h0, h1 => by
  rw [Zue]
  by_cases hlt : n < 60
  ·refine st_cT (decide_eq_true (by omega)) ?_
   rw [Z1p5, ← Z1gr (Int.tmod (n : Int) 5), ← Z1gr k]
   refine Z0 (Z12e (Z1gs k n) (some 7) (u8N_lt k)) ?_
   refine Z0 (rdB_v _) ?_
   refine st_cF rfl ?_
   refine Z0 (Z1gh (Z1gs k n) (some 7) _ [k, IntKind.wrap .i64 (0 - k), (n : Int)] (some 3)) ?_
   refine Z0 (rdB_v _) ?_
   refine st_cF rfl ?_
   refine Z0 (Z1bq (Z1gs k n) (some 7) _ (u8N_lt k)) ?_
   refine Z0 (rdB_v _) ?_
   refine st_cF rfl ?_
   rw [Zt3, Z77 (x := k * 31) (by omega) (by omega), Z77 (by omega) (by omega), Zu (by omega)]
   exact Z1e1 f _ (n + 1) (by omega) (by omega) (Int.tmod_nonneg _ (by omega)) (Int.tmod_lt_of_pos _ (by decide))
  ·refine st_cF (decide_eq_false (by omega)) ?_
   refine Z0 Zu8 ?_
   refine Z0 (rdB_v _) ?_
   rfl
theorem fits_k {n b : Nat} (h : n < 1000) (hb : b ≤ 200) : fitsRow n b := by
 have : n * b ≤ 1000 * 200 := Nat.mul_le_mul (by omega) hb
 constructor <;> omega
theorem Z1ni {m : Nat} (hm : 61 < m) {a : List D} {b : Nat} {c e f h : List D} {g : Nat} {x8 : List D} : Zbb Z1l Z2u Z2a Z15 Zk Zp Zw Z1f Z4z Z2k m a b c 301 (301 * 20) (cdsC (wid 301)) f g h x8 = some (.v (.bool true)) := by
 have hb := wid_b (n := 301) (by decide)
 have hv := Z1ng (n := 301) (by decide)
 have hl := Z1gj 301
 obtain ⟨r, e1⟩ := kPrune hb hv none (d := 1) (by decide) fun i hi => Z1nh (by decide) (by rw [hl] at hi; exact hi)
 obtain ⟨c2, r2, e2⟩ := kBy hb hv none (d := 2) (by decide) (fun i hi => by rw [hl] at hi; rw [Z1gq hi]; split <;> decide) (cs := [-1, 300, 5]) (by decide) (some 3)
 have e3 := Z1e0 hb hv none (d := 2) (by decide)
 rw [hl] at e1 e2 e3
 rw [wid_cl] at e3
 rw [Zt5, Z5k (by rw [cdsC_len hb.ok, hl])]
 refine st_if (by decide) ?_
 refine Z0 e1 ?_
 refine Z0 (rdT_v _) ?_
 refine st_if (len2 _ _) ?_
 refine Z0 (gA0 _ _) ?_
 refine Z0 (gI1 _ _ _ _) ?_
 refine st_if (by decide) ?_
 refine st_if (len1 _) ?_
 refine Z0 e2 ?_
 refine Z0 (rdT_v _) ?_
 refine st_if (len3 _ _ _) ?_
 refine Z0 (gA0 _ _) ?_
 refine Z0 (gI1 _ _ _ _) ?_
 refine Z0 (gI2 _ _ _ _ _) ?_
 refine st_if (len1 _) ?_
 refine Z0 e3 ?_
 refine Z0 (rdT_v _) ?_
 refine st_if (len2 _ _) ?_
 refine Z0 (gL0 _ _ _ _) ?_
 refine Z0 (gI1 _ _ _ _) ?_
 refine st_cF (i_bnf rfl) ?_
 refine st_cF (i_bnf rfl) ?_
 refine st_cF (i_bnf rfl) ?_
 refine Z0 (Zsj _ _ _) ?_
 refine Z0 (rdI_v _ _) ?_
 refine st_cF (i_bnf rfl) ?_
 refine Z0 (Zsj _ _ _) ?_
 refine Z0 (rdI_v _ _) ?_
 refine st_cF (i_bnf rfl) ?_
 refine st_cF (i_bnf rfl) ?_
 refine st_cF (i_bnf rfl) ?_
 rw [Zt4]
 exact Z1e1 m 1 0 (by omega) (by omega) (by decide) (by decide)
theorem Z1nj {m : Nat} (hm : 61 < m) {a : List D} : ∀ (f i : Nat), 301 - i < f → i ≤ 301 → Z90 Z1l Z2u Z2a Z15 Zk Zp Zw Z1f Z4z Z2k m f (i : Int) a 65 i (65 * 20) (cdsC (pth 65)) (i * 20) (cdsC (wid0 i)) = some (.v (.bool true))
 | 0, i, hf, hi => by omega
 | f + 1, i, hf, hi => by
  rw [Zvn]
  by_cases hlt : i < 301
  ·refine st_cT (decide_eq_true (by omega)) ?_
   refine st_if ⟨rfl, rfl, fits_k (by omega) (by decide), rfl⟩ ?_
   have ih := Z1nj hm (a := a) f (i + 1) (by omega) (by omega)
   rw [Z1nd, Z92, Zva] at ih
   rw [Zu (by omega), Z1hy (n := i) (by omega)]
   exact ih
  ·obtain rfl : i = 301 := by omega
   have hb := pth_b (n := 65) (by decide)
   have hv := Z1ih (n := 65) (by decide)
   have hl := Z1gi 65
   have hb4 := pth_b (n := 64) (by decide)
   have hv4 := Z1ih (n := 64) (by decide)
   have hl4 := Z1gi 64
   obtain ⟨r, e1⟩ := kPrune hb hv none (d := 64) (by decide) fun i hi => pth_stays (k := 64 - i) (by rw [hl] at hi; omega)
   obtain ⟨c2, r2, e2⟩ := kBy hb4 hv4 none (d := 64) (by decide) (fun i hi => by rw [hl4] at hi; rw [Z1br hi]; omega) (cs := [9223372036854775807, -9223372036854775808]) (by decide) (some 2)
   have e3 := Z1e0 hb4 hv4 none (d := 64) (by decide)
   rw [hl] at e1
   rw [hl4] at e2 e3
   rw [pth_cl] at e3
   have ht : (List.drop 0 (cdsC (pth 65))).take 1280 = cdsC (pth 64) := by
    rw [List.drop_zero, show pth 65 = pth 64 ++ [pthN 64] from Z1kq 64, Z92]
    exact List.take_left' (by rw [cdsC_len hb4.ok, hl4])
   have hw : (cdsC (wid0 301)).set 0 (.v (.int .i64 (-1))) = cdsC (wid 301) := by
    rw [← Z1q5 (n := 301) (by decide)]
    exact Z170 (Z1q4 (by decide)) (i := 0) (by rw [Z18z]; decide) (-1)
   refine st_cF (decide_eq_false (by decide)) ?_
   rw [Z5k (by rw [cdsC_len hb.ok, hl]), ht, hw]
   refine st_if (by decide) ?_
   refine st_if (by decide) ?_
   refine st_if (by decide) ?_
   refine Z0 e1 ?_
   refine Z0 (rdT_v _) ?_
   refine st_if (len2 _ _) ?_
   refine Z0 (gA0 _ _) ?_
   refine Z0 (gI1 _ _ _ _) ?_
   refine st_if (by decide) ?_
   refine st_if (len1 _) ?_
   refine st_if (by decide) ?_
   refine Z0 e2 ?_
   refine Z0 (rdT_v _) ?_
   refine st_if (len3 _ _ _) ?_
   refine Z0 (gA0 _ _) ?_
   refine Z0 (gI1 _ _ _ _) ?_
   refine Z0 (gI2 _ _ _ _ _) ?_
   refine st_if (len1 _) ?_
   refine Z0 e3 ?_
   refine Z0 (rdT_v _) ?_
   refine st_if (len2 _ _) ?_
   refine Z0 (gL0 _ _ _ _) ?_
   refine Z0 (gI1 _ _ _ _) ?_
   refine st_cF (i_bnf rfl) ?_
   refine st_cF (i_bnf rfl) ?_
   refine st_cF (i_bnf rfl) ?_
   refine Z0 (Zsj _ _ _) ?_
   refine Z0 (rdI_v _ _) ?_
   refine st_cF (i_bnf rfl) ?_
   refine Z0 (Zsj _ _ _) ?_
   refine Z0 (rdI_v _ _) ?_
   refine st_cF (i_bnf rfl) ?_
   refine st_cF (i_bnf rfl) ?_
   refine Z0 (Zzl (a := [63]) (b := [63]) (by decide) 1 (some 1)) ?_
   refine Z0 (rdB_v _) ?_
   refine st_cF rfl ?_
   exact Z1ni hm (e := [])
theorem Z1nk {m : Nat} (hm : 302 < m) : ∀ (f i : Nat), 65 - i < f → i ≤ 65 → Z8z Z1l Z2u Z2a Z15 Zk Zp Zw Z1f Z4z Z2k m f (i : Int) anyO.cells i (i * 20) (cdsC (pth i)) = some (.v (.bool true))
 | 0, i, hf, hi => by omega
 | f + 1, i, hf, hi => by
  rw [Zvo]
  by_cases hlt : i < 65
  ·refine st_cT (decide_eq_true (by omega)) ?_
   refine st_if (Oid.cells_len anyO_ok) ?_
   refine st_if rfl ?_
   refine st_if ⟨rfl, rfl, fits_k (by omega) (by decide), rfl⟩ ?_
   have ih := Z1nk hm f (i + 1) (by omega) (by omega)
   rw [Z1kq, Z92, Zva] at ih
   rw [Zu (by omega), Z77 (x := (i : Int) - 1) (by omega) (by omega)]
   exact ih
  ·obtain rfl : i = 65 := by omega
   refine st_cF (decide_eq_false (by decide)) ?_
   exact Z1nj (by omega) m 0 (by omega) (by omega)
theorem Z1bs : Zgj [] = some (.v (.bool true)) := by
 show Zbc Z1l Z2u Z2a Z15 Zk Zp Zw Z1f Z4z Z2k M = _
 unfold Zbc
 refine Z0 Z1pm ?_
 refine Z0 (Z9p _) ?_
 refine st_if (Oid.cells_len anyO_ok) ?_
 exact Z1nk (by unfold M; omega) M 0 (by unfold M; omega) (by omega)
end Go.Ev