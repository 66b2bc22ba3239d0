/-
 Chains as plain data.
-/
import Derived.Test.YthakkigkdhaihaaGreatDoorEzR2
import Derived.Test.YthakkigkdhaihaaGreatDoorEzL3
set_option linter.unusedSimpArgs false
set_option linter.unusedVariables false
set_option maxRecDepth 100000
namespace Go.Ev
open Go
structure Ci where
 l : List Ri
 lc : Option Nat
 u : Nat
 f : Nat
structure Ci.ok (x : Ci) : Prop where
 l : ∀ r, r ∈ x.l → r.ok
 ll : x.l.length ≤ 9223372036854775807
 u : x.u < 256
 f : x.f < 256
def risC (l : List Ri) : List D := (l.map Ri.cells).flatten
theorem Ri.cells_len (x : Ri) : x.cells.length = 6 := rfl
theorem Z1dj (l : List Ri) : (risC l).length = l.length * 6 := rows_len fun x _ => x.cells_len
theorem Z1k9 {l : List Ri} {i : Nat} (hi : i < l.length) : ((risC l).drop (i * 6)).take 6 = l[i].cells := row_get (fun x _ => x.cells_len) hi
def Ci.cells (x : Ci) : List D := [.list x.l.length x.lc (risC x.l), .v (.int .u8 (x.u : Int)), .v (.int .u8 (x.f : Int))]
def rcdsC (l : List Rcd) : List D := (l.map Rcd.cells).flatten
theorem Rcd.cells_len (q : Rcd) : q.cells.length = 8 := rfl
theorem Zt9 (l : List Rcd) : (rcdsC l).length = l.length * 8 := rows_len fun q _ => q.cells_len
theorem Z1bl {l : List Rcd} {i : Nat} (hi : i < l.length) : ((rcdsC l).drop (i * 8)).take 8 = l[i].cells := row_get (fun q _ => q.cells_len) hi
theorem Z10i (a b : List Rcd) : rcdsC (a ++ b) = rcdsC a ++ rcdsC b := by simp [rcdsC]
theorem Z14i (a : Rcd) : rcdsC [a] = a.cells := by simp [rcdsC]
def ri0 : Ri := ⟨0, [], some 0, [], some 0, 0, 0, 0⟩
theorem ri0_ok : ri0.ok := ⟨by decide, (fun k hk => nomatch hk), (fun k hk => nomatch hk), by decide, by decide, by decide, by decide, by decide⟩
theorem ri0_cells : ri0.cells = [.v (.int .u8 (0 : Int)), .list 0 (some 0) [], .list 0 (some 0) [], .v (.int .u8 (0 : Int)), .v (.int .u8 (0 : Int)), .v (.int .u8 (0 : Int))] := rfl
def Ci.chain (x : Ci) : List Rcd := if x.l.length = 0 then [ri0.rcd] else (x.l.take 5).map Ri.rcd
def Ci.ini (x : Ci) : Ini := setOf x.u
theorem Z1ka (u i : Nat) (hi : i < 8) : (Int.tmod (Int.fdiv (u : Int) (2 ^ (min (Int.toNat (i : Int)) (IntKind.bits .u8)))) (2 : Int) == (1 : Int)) = decide (u / 2 ^ i % 2 = 1) := by
 have e : min (Int.toNat (i : Int)) (IntKind.bits .u8) = i := by simp [IntKind.bits]; omega
 rw [e]
 have e2 : Int.fdiv (u : Int) (2 ^ i) = ((u / 2 ^ i : Nat) : Int) := by
  rw [Int.fdiv_eq_ediv_of_nonneg _ (by exact_mod_cast Nat.zero_le _)]
  push_cast
  rfl
 rw [e2, show (2 : Int) = ((2 : Nat) : Int) from rfl, Zhf]
 generalize u / 2 ^ i % 2 = q
 by_cases h : q = 1
 ·subst h; rfl
 ·rw [decide_eq_false h]; exact i_ne (by omega)
theorem Z1bm {m : Nat} {Zg7 : Nat} {Zk9 : Option Nat} {Zhu : List D} {Zo2 : Int} {Zr8 Zng Zvc Zhi Zi1 Zg6 : Bool} {u : Nat} (hu : u < 256) {rs : List Rcd} : ∀ (c k i : Nat) (s : Ini), k < c → k + i = 7 → (∀ x, x ∈ s.1 → x.ok) → s.1.length ≤ i →
  Zhn m c rs.length (i : Int) Zg7 Zk9 Zhu (u : Int) Zo2 Zr8 Zng Zvc (rs.length * 8) (rcdsC rs) s.1.length s.2 (oidsC s.1) Zhi Zi1 Zg6 =
  some (.tup [.list rs.length none (rcdsC rs), .agg [.list (Zfk u k i s).1.length (Zfk u k i s).2 (oidsC (Zfk u k i s).1), .v (.bool Zhi), .v (.bool Zi1), .v (.bool Zg6)]])
 | 0, k, i, s, hc, hk, hs, hl => by omega
 | c + 1, k, i, s, hc, hk, hs, hl => by
  rw [Zzy]
  match k with
  | 0 =>
   refine st_cF (decide_eq_false (by omega)) ?_
   refine st_if (by omega) ?_
   rw [Zgf (Zt9 rs)]; rfl
  | k + 1 =>
   refine st_cT (decide_eq_true (by omega)) ?_
   refine st_ifn (by omega) ?_
   rw [Z1ka u i (by omega)]
   have next : ∀ s' : Ini, (∀ x, x ∈ s'.1 → x.ok) → s'.1.length ≤ i + 1 → Zey m c rs.length (i : Int) Zg7 Zk9 Zhu (u : Int) Zo2 Zr8 Zng Zvc (rs.length * 8) (rcdsC rs) s'.1.length s'.2 (oidsC s'.1) Zhi Zi1 Zg6 =
     some (.tup [.list rs.length none (rcdsC rs), .agg [.list (Zfk u k (i + 1) s').1.length (Zfk u k (i + 1) s').2 (oidsC (Zfk u k (i + 1) s').1), .v (.bool Zhi), .v (.bool Zi1), .v (.bool Zg6)]]) := fun s' h1 h2 => by
    rw [Zxf, Z40 (by omega)]
    exact Z1bm hu c k (i + 1) s' (by omega) (by omega) h1 h2
   simp only [Zfk, iniStep]
   by_cases hb : u / 2 ^ i % 2 = 1
   ·refine st_cT (decide_eq_true hb) ?_
    rw [Zpx (by omega), if_pos hb]
    refine Z5 (Ztm i) ?_
    refine Z5 (rdA_v _) ?_
    refine Z5 (Z1nf hs (Zim i) (by omega) s.2) ?_
    refine Z5 (rdL_v _ _ _) ?_
    have := Zv3 (polO i) s.1 false
    exact next (putO s.1 (polO i), none) (Z1gu hs (Zim i)) (by simp at this ⊢; unfold putO; omega)
   ·refine st_cF (decide_eq_false hb) ?_
    rw [if_neg hb]
    exact next s hs (by omega)
def Ci.x (x : Ci) : Bool := x.f % 2 == 1
def Ci.y (x : Ci) : Bool := x.f / 2 % 2 == 1
def Ci.z (x : Ci) : Bool := x.f / 4 % 2 == 1
def Ci.out (x : Ci) : D := .tup [.list x.chain.length none (rcdsC x.chain), .agg (inC x.ini.1 x.ini.2 x.x x.y x.z)]
theorem bit_u8 (f d : Nat) (hf : f < 256) (hd : 0 < d) : (Int.tmod (IntKind.wrap .u8 (Int.tdiv (f : Int) ((d : Nat) : Int))) (2 : Int) == (1 : Int)) = (f / d % 2 == 1) := by
 rw [Z18g, Zpx (Nat.lt_of_le_of_lt (Nat.div_le_self _ _) hf), show (2 : Int) = ((2 : Nat) : Int) from rfl, Zhf]
 have : f / d % 2 < 2 := Nat.mod_lt _ (by omega)
 generalize f / d % 2 = j at this
 match j, this with
 | 0, _ | 1, _ => rfl
theorem cof_8 {x : Ci} (h : x.ok) {m : Nat} (hm : 8 < m) {Zme : Nat} {Zoa : Option Nat} {Zox : List D} {b1 b2 b3 : Bool} {rs : List Rcd} :
  Zhm m rs.length Zme Zoa Zox (x.u : Int) (x.f : Int) b1 b2 b3 (rs.length * 8) (rcdsC rs) = some (.tup [.list rs.length none (rcdsC rs), .agg (inC x.ini.1 x.ini.2 x.x x.y x.z)]) := by
 rw [Zzz]
 have e1 := bit_u8 x.f 1 h.f (by omega)
 have e2 := bit_u8 x.f 2 h.f (by omega)
 have e4 := bit_u8 x.f 4 h.f (by omega)
 have e0 : (Int.tmod (x.f : Int) (2 : Int) == (1 : Int)) = x.x := by
  rw [show (2 : Int) = ((2 : Nat) : Int) from rfl, Zhf]
  unfold Ci.x
  have : x.f % 2 < 2 := Nat.mod_lt _ (by omega)
  generalize x.f % 2 = j at this
  match j, this with
  | 0, _ | 1, _ => rfl
 rw [show (4 : Int) = ((4 : Nat) : Int) from rfl, e4, e0, show Int.tdiv (x.f : Int) (2 : Int) = Int.tdiv (x.f : Int) ((2 : Nat) : Int) from rfl, e2]
 exact Z1bm h.u m 7 0 ([], some 0) (by omega) (by omega) (fun x hx => nomatch hx) (by simp)
theorem Z1dk {x : Ci} (h : x.ok) {m : Nat} (hm : 8 < m) {b1 b2 b3 : Bool} : ∀ (c i : Nat), x.l.length - i < c → i ≤ min x.l.length 5 →
  Zj3 m c ((x.l.take i).map Ri.rcd).length (i : Int) x.l.length x.lc (risC x.l) (x.u : Int) (x.f : Int) b1 b2 b3 (((x.l.take i).map Ri.rcd).length * 8) (rcdsC ((x.l.take i).map Ri.rcd)) = some x.out
 | 0, i, hc, hi => by omega
 | c + 1, i, hc, hi => by
  have hll := h.ll
  have hlen : ((x.l.take i).map Ri.rcd).length = i := by simp; omega
  have hr := Z1dj x.l
  rw [Z12e]
  have j6 : i = min x.l.length 5 → Zhl m ((x.l.take i).map Ri.rcd).length x.l.length x.lc (risC x.l) (x.u : Int) (x.f : Int) b1 b2 b3 (((x.l.take i).map Ri.rcd).length * 8) (rcdsC ((x.l.take i).map Ri.rcd)) = some x.out := fun hi => by
   rw [Z100]
   unfold Ci.out Ci.chain
   by_cases h0 : x.l.length = 0
   ·rw [if_pos h0]
    have : i = 0 := by omega
    subst this
    refine st_cT (i_eq (by omega)) ?_
    rw [← ri0_cells]
    refine Z5 (Z1dg ri0_ok) ?_
    refine Z5 (rdA_v _) ?_
    refine st_if ri0.rcd.cells_len ?_
    refine st_if ⟨rfl, by first | rfl | trivial, by constructor <;> (rw [hlen]; omega), ri0.rcd.cells_len⟩ ?_
    have := cof_8 h hm (rs := [ri0.rcd]) (Zme := x.l.length) (Zoa := x.lc) (Zox := risC x.l) (b1 := b1) (b2 := b2) (b3 := b3)
    rw [Z14i] at this
    exact this
   ·rw [if_neg h0]
    refine st_cF (i_ne (by omega)) ?_
    have e : x.l.take i = x.l.take 5 := by
     rw [hi]
     rcases Nat.le_total x.l.length 5 with hh | hh
     ·rw [Nat.min_eq_left hh, List.take_length, List.take_of_length_le hh]
     ·rw [Nat.min_eq_right hh]
    rw [e]
    exact cof_8 h hm
  by_cases hlt : i < x.l.length
  ·refine st_cT (decide_eq_true (by omega)) ?_
   by_cases h5 : i < 5
   ·refine st_cT (decide_eq_true (by omega)) ?_
    rw [Zzx]
    simp only [Int.toNat_natCast]
    rw [Z1k9 hlt]
    refine st_if (by omega) ?_
    refine st_if (by omega) ?_
    refine Z5 (Z1dg (h.l _ (List.getElem_mem hlt))) ?_
    refine Z5 (rdA_v _) ?_
    refine st_if (Rcd.cells_len _) ?_
    refine st_if ⟨rfl, by first | rfl | trivial, by constructor <;> (rw [hlen]; omega), Rcd.cells_len _⟩ ?_
    have e : (x.l.take (i + 1)).map Ri.rcd = (x.l.take i).map Ri.rcd ++ [x.l[i].rcd] := by
     rw [List.take_add_one, List.getElem?_eq_getElem hlt, List.map_append]; rfl
    have := Z1dk h hm (b1 := b1) (b2 := b2) (b3 := b3) c (i + 1) (by omega) (by omega)
    rw [e, List.length_append, List.length_singleton, Z10i, Z14i] at this
    rw [Z40 (by omega)]
    exact this
   ·refine st_cF (decide_eq_false (by omega)) ?_
    exact j6 (by omega)
  ·refine st_cF (decide_eq_false (by omega)) ?_
   exact j6 (by omega)
theorem Z18p {x : Ci} (h : x.ok) : Z5m [.agg x.cells] = some x.out := by
 show Znr M x.l.length x.lc (risC x.l) (x.u : Int) (x.f : Int) = _
 unfold Znr
 have := h.ll
 exact Z1dk h (m := M) (by unfold M; omega) M 0 (by unfold M; omega) (by omega)
theorem Ci.chain_len (x : Ci) : 1 ≤ x.chain.length ∧ x.chain.length ≤ 5 := by
 unfold Ci.chain
 split
 ·simp
 ·simp; omega
theorem Ci.chain_one (x : Ci) : ∀ q, q ∈ x.chain → ∃ r : Ri, q = r.rcd := by
 unfold Ci.chain
 intro q hq
 split at hq
 ·simp at hq; exact ⟨_, hq⟩
 ·obtain ⟨r, _, rfl⟩ := List.mem_map.1 hq; exact ⟨r, rfl⟩
theorem Ci.ini_ok (x : Ci) : ∀ o, o ∈ x.ini.1 → o.ok := Go.Ev.ini_ok 7 0 x.u _ (fun x hx => nomatch hx)
theorem Ci.ini_good (x : Ci) : setErr x.ini.1 = 0 := (Z1e6 x.u).1
end Go.Ev