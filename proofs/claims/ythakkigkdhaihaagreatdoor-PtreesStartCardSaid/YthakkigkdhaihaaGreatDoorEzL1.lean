/-
 Object identifiers: what the functions about one, and about two, return.
-/
import Derived.Test.YthakkigkdhaihaaGreatDoorEzL0
import Derived.Test.YthakkigkdhaihaaGreatDoorEzG1
import Derived.Test.YthakkigkdhaihaaGreatDoorEzO1
set_option linter.unusedSimpArgs false
set_option linter.unusedVariables false
namespace Go.Ev
open Go
theorem Z1k2 {l : List Nat} {k : Nat} (h : k < l.length) : l.drop k = l.getD k 0 :: l.drop (k + 1) := by
 rw [List.drop_eq_getElem_cons h, List.getD_eq_getElem?_getD, List.getElem?_eq_getElem h]; rfl
theorem Oid.get {o : Oid} (h : o.ok) {k : Nat} (hk : k < 16) : rdI .u32 o.cells[1 + k]? = some ((o.a.getD k 0 : Nat) : Int) := by
 rw [show 1 + k = k + 1 by omega, Oid.cells, List.getElem?_cons_succ, Z17o (by rw [h.len]; exact hk), List.getD_eq_getElem?_getD, List.getElem?_eq_getElem (by rw [h.len]; exact hk)]
 rfl
theorem Oid.get0 (o : Oid) : rdI .u8 o.cells[0]? = some (o.n : Int) := by simp [Oid.cells, rdI]
theorem Oid.get1 {o : Oid} (h : o.ok) : rdI .u32 o.cells[1]? = some ((o.a.getD 0 0 : Nat) : Int) := Oid.get h (k := 0) (by omega)
theorem Oid.get2 {o : Oid} (h : o.ok) : rdI .u32 o.cells[2]? = some ((o.a.getD 1 0 : Nat) : Int) := Oid.get h (k := 1) (by omega)
def zs (l : List Nat) (k : Nat) : Bool := (l.drop k).all fun x => decide (x = 0)
theorem Z1k3 {l : List Nat} {k : Nat} (h : k < l.length) : zs l k = (decide (l.getD k 0 = 0) && zs l (k + 1)) := by
 unfold zs; rw [Z1k2 h, List.all_cons]
theorem zs_end {l : List Nat} {k : Nat} (h : l.length ≤ k) : zs l k = true := by unfold zs; rw [List.drop_eq_nil_of_le h]; rfl
theorem Z1gg (m : Nat) {o : Oid} (h : o.ok) (hn : o.n ≤ 16) : ∀ (c i : Nat), 16 - o.n - i < c → i ≤ 16 - o.n →
  Znr m c (1 + o.n) (16 - o.n) (((16 - o.n) : Nat) : Int) (i : Int) o.cells = some (.v (.int .i64 (cond (zs o.a (o.n + i)) 0 1)))
 | 0, i, hc, hi => by omega
 | c + 1, i, hc, hi => by
  rw [Z19a]
  by_cases hlt : i < 16 - o.n
  ·rw [decide_eq_true (by omega), cond_true, if_pos (by omega)]
   simp only [Int.toNat_natCast, Nat.mul_one]
   rw [show 1 + o.n + i = 1 + (o.n + i) by omega, Oid.get h (by omega), Option.bind_some, Z1k3 (by rw [h.len]; omega)]
   by_cases hz : o.a.getD (o.n + i) 0 = 0
   ·rw [hz]
    have e1 : IntKind.wrap .i64 ((i : Int) + 1) = ((i + 1 : Nat) : Int) := Zy7 (by omega) (by omega)
    rw [e1, Z1gg m h hn c (i + 1) (by omega) (by omega)]
    simp [Nat.add_assoc]
   ·have e2 : (((o.a.getD (o.n + i) 0 : Nat) : Int) != 0) = true := by rw [bne_iff_ne]; omega
    rw [e2, decide_eq_false hz]
    rfl
  ·rw [decide_eq_false (by omega), cond_false, zs_end (by rw [h.len]; omega)]
   rfl
theorem Z1dc {o : Oid} (h : o.ok) : Zj1 [.agg o.cells] = some (.v (.int .i64 o.err)) := by
 show Zt1 M o.cells = _
 unfold Zt1
 have h5 : o.n ≤ 16 → Zj0 M o.cells = some (.v (.int .i64 (cond (zs o.a o.n) 0 1))) := fun hn => by
  rw [Z17f, Oid.get0, Option.bind_some, if_pos (by omega)]
  simp only [Int.toNat_natCast, Nat.mul_one]
  have := Z1gg M h hn M 0 (by unfold M; omega) (by omega)
  simpa using this
 rw [if_pos (Oid.cells_len h), Oid.get0, Option.bind_some, Oid.get1 h]
 simp only [Bool.cond_decide, Option.bind_some]
 unfold Oid.err Oid.good
 by_cases h1 : o.n < 2
 ·rw [if_pos (by omega), decide_eq_false (show ¬ 2 ≤ o.n by omega)]; rfl
 rw [if_neg (by omega), decide_eq_true (show 2 ≤ o.n by omega)]
 by_cases h2 : 16 < o.n
 ·rw [if_pos (by omega), decide_eq_false (show ¬ o.n ≤ 16 by omega)]; rfl
 rw [if_neg (by omega), decide_eq_true (show o.n ≤ 16 by omega)]
 rw [show ((o.a.drop o.n).all fun x => decide (x = 0)) = zs o.a o.n from rfl]
 by_cases h3 : 2 < o.a.getD 0 0
 ·rw [if_pos (by omega), decide_eq_false (show ¬ o.a.getD 0 0 < 2 by omega), decide_eq_false (show ¬ o.a.getD 0 0 = 2 by omega)]; simp
 rw [if_neg (by omega), Z17g, Oid.get1 h, Oid.get2 h]
 simp only [Bool.cond_decide, Option.bind_some, h5 (by omega)]
 by_cases h4 : o.a.getD 0 0 < 2
 ·rw [if_pos (by omega), decide_eq_true h4, decide_eq_false (show ¬ o.a.getD 0 0 = 2 by omega)]
  by_cases h6 : o.a.getD 1 0 < 40
  ·rw [if_neg (by omega), if_neg (by omega), decide_eq_true h6]
   cases zs o.a o.n <;> rfl
  ·rw [if_pos (by omega), decide_eq_false h6]; simp
 ·rw [if_neg (by omega), decide_eq_false h4, decide_eq_true (show o.a.getD 0 0 = 2 by omega)]
  by_cases h6 : o.a.getD 1 0 ≤ 4294967215
  ·rw [if_neg (by omega), decide_eq_true h6]
   cases zs o.a o.n <;> rfl
  ·rw [if_pos (by omega), decide_eq_false h6]; simp
theorem Z1e5 (m : Nat) {o : Oid} (h : o.ok) : ∀ (c i : Nat), 16 - i < c → i ≤ 16 →
  Zj4 m c (i : Int) o.cells = some (.v (.int .i64 (cond (zs o.a i && (decide (o.a.getD 0 0 < 2) && decide (o.a.getD 1 0 < 40) || decide (o.a.getD 0 0 = 2) && decide (o.a.getD 1 0 ≤ 4294967215))) 0 1)))
 | 0, i, hc, hi => by omega
 | c + 1, i, hc, hi => by
  rw [Z17l]
  by_cases hlt : i < 16
  ·rw [decide_eq_true (by omega), cond_true, if_pos (by omega)]
   simp only [Int.toNat_natCast, Nat.mul_one]
   rw [Oid.get h hlt, Option.bind_some, Z1k3 (by rw [h.len]; omega)]
   by_cases hz : o.a.getD i 0 = 0
   ·rw [hz]
    have e1 : IntKind.wrap .i64 ((i : Int) + 1) = ((i + 1 : Nat) : Int) := Zy7 (by omega) (by omega)
    rw [e1, Z1e5 m h c (i + 1) (by omega) (by omega)]
    simp
   ·have e2 : (((o.a.getD i 0 : Nat) : Int) != 0) = true := by rw [bne_iff_ne]; omega
    rw [e2, decide_eq_false hz]
    rfl
  ·rw [decide_eq_false (by omega), cond_false, zs_end (by rw [h.len]; omega), Oid.get1 h, Oid.get2 h]
   simp only [Bool.cond_decide, Option.bind_some, Bool.true_and]
   generalize o.a.getD 0 0 = x
   generalize o.a.getD 1 0 = y
   by_cases h4 : x < 2
   ·rw [if_pos (by omega), decide_eq_true h4, decide_eq_false (show ¬ x = 2 by omega), show (((x : Nat) : Int) == 2) = false from by rw [beq_eq_false_iff_ne]; omega]
    by_cases h6 : y < 40
    ·rw [if_pos (by omega), decide_eq_true h6]; rfl
    ·rw [if_neg (by omega), decide_eq_false h6]; rfl
   ·rw [if_neg (by omega), decide_eq_false h4]
    by_cases h5 : x = 2
    ·subst h5
     by_cases h6 : y ≤ 4294967215
     ·simp only [show (((2 : Nat) : Int) == 2) = true from rfl, cond_true]
      rw [if_pos (by omega), decide_eq_true h6]; rfl
     ·simp only [show (((2 : Nat) : Int) == 2) = true from rfl, cond_true]
      rw [if_neg (by omega), decide_eq_false h6]; rfl
    ·rw [show (((x : Nat) : Int) == 2) = false from by rw [beq_eq_false_iff_ne]; omega, decide_eq_false h5]; rfl
theorem Z1br {o : Oid} (h : o.ok) : Zed [.agg o.cells] = some (.v (.int .i64 o.err)) := by
 show Zqe M o.cells = _
 unfold Zqe
 rw [if_pos (Oid.cells_len h), Oid.get0]
 simp only [Bool.cond_decide, Option.bind_some]
 unfold Oid.err Oid.good
 by_cases h1 : o.n < 2
 ·rw [if_pos (by omega), decide_eq_false (show ¬ 2 ≤ o.n by omega)]; rfl
 rw [if_neg (by omega), decide_eq_true (show 2 ≤ o.n by omega)]
 by_cases h2 : 16 < o.n
 ·rw [if_pos (by omega), decide_eq_false (show ¬ o.n ≤ 16 by omega)]; rfl
 rw [if_neg (by omega), decide_eq_true (show o.n ≤ 16 by omega), Z15m, Oid.get0, Option.bind_some, Z13s (by omega), Z1e5 M h M o.n (by unfold M; omega) (by omega)]
 rw [show ((o.a.drop o.n).all fun x => decide (x = 0)) = zs o.a o.n from rfl, Bool.true_and, Bool.true_and]
 generalize (zs o.a o.n && _) = b
 cases b <;> rfl
theorem Z1k4 (x y : Int) : Z4i [.v (.int .u32 x), .v (.int .u32 y)] = some (.v (.int .i64 (if x < y then -1 else if y < x then 1 else 0))) := by
 show Z6y M x y = _
 unfold Z6y
 simp only [bne_self_eq_false, cond_false, Bool.cond_decide, gt_iff_lt]
 split
 ·rfl
 ·split <;> rfl
theorem Z14b (l : List Nat) : cmpL l [] = if l.length = 0 then 0 else 1 := by cases l <;> rfl
theorem Z15q (l : List Nat) : cmpL [] l = if l.length = 0 then 0 else -1 := by cases l <;> rfl
theorem Z1e6 (m : Nat) (l1 l2 : List Nat) (c1 c2 : Option Nat) : ∀ (c i : Nat), l1.length - i < c → i ≤ l1.length → i ≤ l2.length → l1.length < 1000000 → l2.length < 1000000 →
  Z2c m c l1.length c1 (n32 l1) l2.length c2 (n32 l2) (l1.length : Int) (i : Int) = some (.v (.int .i64 (cmpL (l1.drop i) (l2.drop i))))
 | 0, i, hc, hi, hj, hb, hb2 => by omega
 | c + 1, i, hc, hi, hj, hb, hb2 => by
  rw [Zhm]
  by_cases h1 : i < l1.length
  ·rw [decide_eq_true (by omega), cond_true, if_pos (by omega)]
   simp only [Int.toNat_natCast, Nat.mul_one]
   rw [Z17o h1, Option.bind_some]
   by_cases h2 : i < l2.length
   ·rw [decide_eq_false (by omega), cond_false, if_pos (by omega), Z17o h2, Option.bind_some, Z1k4, Option.bind_some, rdI_v, Option.bind_some, List.drop_eq_getElem_cons h1, List.drop_eq_getElem_cons h2]
    simp only [cmpL]
    have e1 : IntKind.wrap .i64 ((i : Int) + 1) = ((i + 1 : Nat) : Int) := Zy7 (by omega) (by omega)
    by_cases h3 : l1[i] < l2[i]
    ·rw [if_pos (by omega), if_pos h3]; rfl
    ·rw [if_neg (by omega), if_neg h3]
     by_cases h4 : l2[i] < l1[i]
     ·rw [if_pos (by omega), if_pos h4]; rfl
     ·rw [if_neg (by omega), if_neg h4, e1, Z1e6 m l1 l2 c1 c2 c (i + 1) (by omega) (by omega) (by omega) hb hb2]; rfl
   ·rw [decide_eq_true (by omega), cond_true, List.drop_eq_nil_of_le (show l2.length ≤ i by omega), Z14b, if_neg (by simp; omega)]
  ·rw [decide_eq_false (by omega), cond_false, List.drop_eq_nil_of_le (show l1.length ≤ i by omega), Z15q]
   by_cases h2 : i < l2.length
   ·rw [decide_eq_true (by omega), if_neg (by simp; omega)]; rfl
   ·rw [decide_eq_false (by omega), if_pos (by simp; omega)]; rfl
theorem Z1k5 (l1 l2 : List Nat) (c1 c2 : Option Nat) (h1 : l1.length < 1000000) (h2 : l2.length < 1000000) : Z1q [.list l1.length c1 (n32 l1), .list l2.length c2 (n32 l2)] = some (.v (.int .i64 (cmpL l1 l2))) := by
 have := Z1e6 M l1 l2 c1 c2 M 0 (by unfold M; omega) (by omega) (by omega) h1 h2
 rw [List.drop_zero, List.drop_zero] at this
 exact this
theorem mm16 (n : Nat) : mm true (n : Int) 16 = ((min n 16 : Nat) : Int) := by
 unfold mm
 rw [if_pos rfl]
 by_cases h : 16 < n
 ·rw [if_pos (by omega)]; omega
 ·rw [if_neg (by omega)]; omega
theorem Oid.arcs_len {o : Oid} (h : o.ok) : o.arcs.length = min o.n 16 := by unfold Oid.arcs; rw [List.length_take, h.len]; omega
theorem Zyv {o p : Oid} (h : o.ok) (hp : p.ok) : Zao [.agg o.cells, .agg p.cells] = some (.v (.int .i64 (o.cmp p))) := by
 show Znt M o.cells p.cells = _
 unfold Znt
 have cut : ∀ {q : Oid}, q.ok → cutL 17 q.cells 1 (min q.n 16) = n32 q.arcs := fun {q} hq => by
  rw [Z1lm (Oid.cells_len hq)]
  simp only [Oid.cells, List.drop_succ_cons, List.drop_zero, Z1kw]
  rfl
 have ho := h.n
 have hpn := hp.n
 rw [if_pos (Oid.cells_len h), if_pos (Oid.cells_len hp), Oid.get0, Option.bind_some, Z13s (by omega), mm16, if_pos (by omega), Oid.get0, Option.bind_some, Z13s (by omega), mm16, if_pos (by omega)]
 simp only [Int.toNat_natCast, Nat.mul_one, Nat.sub_zero]
 rw [if_pos (by omega), if_pos (by omega), cut h, cut hp]
 have := Z1k5 o.arcs p.arcs (some 16) (some 16) (by rw [Oid.arcs_len h]; omega) (by rw [Oid.arcs_len hp]; omega)
 rw [Oid.arcs_len h, Oid.arcs_len hp] at this
 rw [this, Option.bind_some, rdI_v, Option.bind_some]
 rfl
theorem Z15r (m : Nat) {o p : Oid} (h : o.ok) (hp : p.ok) : ∀ (c i : Nat), 16 - i < c → i ≤ min o.n 16 → i ≤ min p.n 16 →
  Zbz m c ((min o.n 16 : Nat) : Int) ((min p.n 16 : Nat) : Int) (i : Int) o.cells p.cells = some (.v (.int .i64 (cmpL (o.arcs.drop i) (p.arcs.drop i))))
 | 0, i, hc, hi, hj => by omega
 | c + 1, i, hc, hi, hj => by
  have l1 := Oid.arcs_len h
  have l2 := Oid.arcs_len hp
  have g : ∀ {q : Oid}, q.ok → ∀ (hi : i < q.arcs.length), q.a.getD i 0 = q.arcs[i] := fun {q} hq hi => by
   have := Oid.arcs_len hq
   have hl := hq.len
   simp only [Oid.arcs, List.getElem_take]
   rw [List.getD_eq_getElem?_getD, List.getElem?_eq_getElem (by omega)]; rfl
  rw [Z14o, Z13u]
  by_cases h1 : i < min o.n 16
  ·rw [decide_eq_true (by omega), cond_true]
   by_cases h2 : i < min p.n 16
   ·rw [decide_eq_true (by omega), cond_true, Z13t, if_pos (by omega)]
    simp only [Int.toNat_natCast, Nat.mul_one]
    rw [Oid.get h (by omega), Oid.get hp (by omega)]
    simp only [Option.bind_some]
    have e1 : IntKind.wrap .i64 ((i : Int) + 1) = ((i + 1 : Nat) : Int) := Zy7 (by omega) (by omega)
    have e2 : o.arcs.drop i = o.arcs[i] :: o.arcs.drop (i + 1) := List.drop_eq_getElem_cons (by omega)
    have e3 : p.arcs.drop i = p.arcs[i] :: p.arcs.drop (i + 1) := List.drop_eq_getElem_cons (by omega)
    rw [e1, Z15r m h hp c (i + 1) (by omega) (by omega) (by omega), e2, e3]
    simp only [cmpL]
    rw [g h (by omega), g hp (by omega)]
    simp only [Bool.cond_decide, gt_iff_lt, Int.ofNat_lt]
    simp only [if_pos (show (0 : Int) ≤ (i : Int) ∧ (i : Int) < 16 by omega)]
    split
    ·rfl
    ·split <;> rfl
   ·rw [decide_eq_false (by omega), cond_false, show p.arcs.drop i = [] from List.drop_eq_nil_of_le (by omega), Z14b, if_neg (by simp; omega), decide_eq_false (by omega), decide_eq_true (by omega)]
    rfl
  ·rw [decide_eq_false (by omega), cond_false, show o.arcs.drop i = [] from List.drop_eq_nil_of_le (by omega), Z15q]
   by_cases h2 : i < min p.n 16
   ·rw [decide_eq_true (by omega), if_neg (by simp; omega)]; rfl
   ·rw [decide_eq_false (by omega), decide_eq_false (by omega), if_pos (by simp; omega)]; rfl
theorem Z17p {o p : Oid} (h : o.ok) (hp : p.ok) : Z8j [.agg o.cells, .agg p.cells] = some (.v (.int .i64 (o.cmp p))) := by
 show Zj6 M o.cells p.cells = _
 unfold Zj6
 have ho := h.n
 have hpn := hp.n
 rw [if_pos (Oid.cells_len h), if_pos (Oid.cells_len hp), Oid.get0, Option.bind_some, Oid.get0, Option.bind_some, Z13s (by omega), Z13s (by omega), mm16, mm16]
 have := Z15r M h hp M 0 (by unfold M; omega) (by omega) (by omega)
 rw [List.drop_zero, List.drop_zero] at this
 exact this
end Go.Ev