/-
 Policies and mappings of a record: what is wrong with one.
-/
import Derived.Test.YthakkigkdhaihaaGreatDoorEzL5
set_option linter.unusedSimpArgs false
set_option linter.unusedVariables false
set_option maxRecDepth 100000
namespace Go.Ev
open Go
theorem Zz7 (s hp : Bool) (pn : Nat) (pc : Option Nat) (p : List D) (hm : Bool) (mn : Nat) (mc : Option Nat) (mp : List D) (r i y : Int) :
  Z9f [.agg (recC s hp pn pc p hm mn mc mp r i y)] = some (.v (.int .i64 (
   if 0 < pn ∧ hp = false ∨ 0 < mn ∧ hm = false ∨ r < -1 ∨ i < -1 ∨ y < -1 then 1
   else if 2147483647 < r ∨ 2147483647 < i ∨ 2147483647 < y ∨ 64 < pn ∨ 64 < mn then 3
   else if hp = true ∧ pn = 0 ∨ hm = true ∧ mn = 0 then 17 else 0))) := by
 show Zh2 Z33 Z34 M s hp pn pc p hm mn mc mp r i y = _
 have loopN : ∀ x1 x2 x3 : Int, Z5k M 3 (some 3) [.v (.int .i64 x1), .v (.int .i64 x2), .v (.int .i64 x3)] = some (.v (.int .i64 (mm true (mm true x1 x2) x3))) := fun x1 x2 x3 => by
  have key : ∀ m c : Nat, 3 ≤ c → Z63 m c 3 (some 3) [.v (.int .i64 x1), .v (.int .i64 x2), .v (.int .i64 x3)] x1 1 = some (.v (.int .i64 (mm true (mm true x1 x2) x3))) := fun m c hc => by
   obtain ⟨c, rfl⟩ : ∃ k, c = k + 1 + 1 + 1 := ⟨c - 3, by omega⟩
   rw [Z7p, show decide ((1 : Int) < ((3 : Nat) : Int)) = true from rfl, cond_true, if_pos (by decide), show [D.v (.int .i64 x1), .v (.int .i64 x2), .v (.int .i64 x3)][Int.toNat 1 * 1]? = some (.v (.int .i64 x2)) from rfl, rdI_v, Option.bind_some, show IntKind.wrap .i64 ((1 : Int) + 1) = 2 from by decide]
   rw [Z7p, show decide ((2 : Int) < ((3 : Nat) : Int)) = true from rfl, cond_true, if_pos (by decide), show [D.v (.int .i64 x1), .v (.int .i64 x2), .v (.int .i64 x3)][Int.toNat 2 * 1]? = some (.v (.int .i64 x3)) from rfl, rdI_v, Option.bind_some, show IntKind.wrap .i64 ((2 : Int) + 1) = 3 from by decide]
   rw [Z7p, show decide ((3 : Int) < ((3 : Nat) : Int)) = false from rfl, cond_false]
  unfold Z5k
  rw [show decide (((3 : Nat) : Int) < (1 : Int)) = false from rfl, cond_false, Zo0, if_pos (by decide), show [D.v (.int .i64 x1), .v (.int .i64 x2), .v (.int .i64 x3)][0]? = some (.v (.int .i64 x1)) from rfl, rdI_v, Option.bind_some]
  exact key M M (by unfold M; omega)
 have loopX : ∀ x1 x2 x3 : Int, Z5l M 3 (some 3) [.v (.int .i64 x1), .v (.int .i64 x2), .v (.int .i64 x3)] = some (.v (.int .i64 (mm false (mm false x1 x2) x3))) := fun x1 x2 x3 => by
  have key : ∀ m c : Nat, 3 ≤ c → Z64 m c 3 (some 3) [.v (.int .i64 x1), .v (.int .i64 x2), .v (.int .i64 x3)] x1 1 = some (.v (.int .i64 (mm false (mm false x1 x2) x3))) := fun m c hc => by
   obtain ⟨c, rfl⟩ : ∃ k, c = k + 1 + 1 + 1 := ⟨c - 3, by omega⟩
   rw [Z7q, show decide ((1 : Int) < ((3 : Nat) : Int)) = true from rfl, cond_true, if_pos (by decide), show [D.v (.int .i64 x1), .v (.int .i64 x2), .v (.int .i64 x3)][Int.toNat 1 * 1]? = some (.v (.int .i64 x2)) from rfl, rdI_v, Option.bind_some, show IntKind.wrap .i64 ((1 : Int) + 1) = 2 from by decide]
   rw [Z7q, show decide ((2 : Int) < ((3 : Nat) : Int)) = true from rfl, cond_true, if_pos (by decide), show [D.v (.int .i64 x1), .v (.int .i64 x2), .v (.int .i64 x3)][Int.toNat 2 * 1]? = some (.v (.int .i64 x3)) from rfl, rdI_v, Option.bind_some, show IntKind.wrap .i64 ((2 : Int) + 1) = 3 from by decide]
   rw [Z7q, show decide ((3 : Int) < ((3 : Nat) : Int)) = false from rfl, cond_false]
  unfold Z5l
  rw [show decide (((3 : Nat) : Int) < (1 : Int)) = false from rfl, cond_false, Zo1, if_pos (by decide), show [D.v (.int .i64 x1), .v (.int .i64 x2), .v (.int .i64 x3)][0]? = some (.v (.int .i64 x1)) from rfl, rdI_v, Option.bind_some]
  exact key M M (by unfold M; omega)
 unfold Zh2
 rw [Ztr, Ztq]
 rw [show ∀ xs, Z33 [.list 3 (some 3) xs] = Z5k M 3 (some 3) xs from fun _ => rfl, show ∀ xs, Z34 [.list 3 (some 3) xs] = Z5l M 3 (some 3) xs from fun _ => rfl, loopN, loopX]
 simp only [Option.bind_some, rdI_v]
 have e1 : decide (mm true (mm true r i) y < -1) = decide (r < -1 ∨ i < -1 ∨ y < -1) := by
  congr 1; unfold mm; simp only [if_pos]; apply propext; split <;> split <;> omega
 have e2 : decide (mm false (mm false r i) y > 2147483647) = decide (2147483647 < r ∨ 2147483647 < i ∨ 2147483647 < y) := by
  congr 1; unfold mm; simp only [Bool.false_eq_true, if_false]; apply propext; split <;> split <;> omega
 rw [e1, e2]
 have z : ∀ n : Nat, ((n : Int) == 0) = decide (n = 0) := fun n => by
  by_cases h : n = 0
  ·subst h; rfl
  ·rw [decide_eq_false h, beq_eq_false_iff_ne]; omega
 rw [z, z]
 have g0 : ∀ n : Nat, decide ((n : Int) > 0) = decide (0 < n) := fun n => by congr 1; apply propext; omega
 have g64 : ∀ n : Nat, decide ((n : Int) > 64) = decide (64 < n) := fun n => by congr 1; apply propext; omega
 rw [g0, g0, g64, g64]
 cases hp <;> cases hm <;> simp only [Bool.cond_decide, cond_true, cond_false, Bool.not_true, Bool.not_false, reduceCtorEq, and_false, false_or, or_false, and_true, true_and, false_and]
 all_goals
  repeat' split
  all_goals first
   | rfl
   | omega
   | contradiction
theorem Z16g {m : Nat} {n : Nat} {qs : List D} (h : QOk n qs) (cp : Option Nat) : ∀ (c k : Nat), n - k < c → k ≤ n →
  Z8v m c n cp qs (n : Int) (k : Int) = some (.v (.int .i64 0))
 | 0, k, hc, hk => by omega
 | c + 1, k, hc, hk => by
  have := h.len
  have := h.le
  rw [Zsu]
  by_cases hlt : k < n
  ·simp only [Int.toNat_natCast]
   rw [Z40 (by omega), Z16g h cp c (k + 1) (by omega) (by omega)]
   have hl := h.at_len hlt
   repeat (first | with_reducible refine Z5 (h.chk hlt) ?_ | with_reducible refine st_if (hl) ?_ | with_reducible refine st_if (by omega) ?_ | with_reducible refine Z5 (rdI_v _ _) ?_ | with_reducible refine Z5 (rdB_v _) ?_ | (with_reducible refine Z5 (rdL_v _ _ _) ?_; try dsimp only) | with_reducible refine Z5 (rdA_v _) ?_ | with_reducible refine Z5 (rdT_v _) ?_ | with_reducible refine st_cT (decide_eq_true (by omega)) ?_ | with_reducible refine st_cF (decide_eq_false (by omega)) ?_ | with_reducible refine st_cT (i_eq (by omega)) ?_ | with_reducible refine st_cF (i_ne (by omega)) ?_ | with_reducible refine st_cT (i_bne (by omega)) ?_ | with_reducible refine st_cF (i_bnf (by omega)) ?_ | with_reducible refine st_ifn (by omega) ?_ | ((with_reducible refine st_cT ?_ ?_); exact rfl) | ((with_reducible refine st_cF ?_ ?_); exact rfl))
   rfl
  ·repeat (first | with_reducible refine st_if (by omega) ?_ | with_reducible refine Z5 (rdI_v _ _) ?_ | with_reducible refine Z5 (rdB_v _) ?_ | (with_reducible refine Z5 (rdL_v _ _ _) ?_; try dsimp only) | with_reducible refine Z5 (rdA_v _) ?_ | with_reducible refine Z5 (rdT_v _) ?_ | with_reducible refine st_cT (decide_eq_true (by omega)) ?_ | with_reducible refine st_cF (decide_eq_false (by omega)) ?_ | with_reducible refine st_cT (i_eq (by omega)) ?_ | with_reducible refine st_cF (i_ne (by omega)) ?_ | with_reducible refine st_cT (i_bne (by omega)) ?_ | with_reducible refine st_cF (i_bnf (by omega)) ?_ | with_reducible refine st_ifn (by omega) ?_ | ((with_reducible refine st_cT ?_ ?_); exact rfl) | ((with_reducible refine st_cF ?_ ?_); exact rfl))
   rfl
theorem Z1b2 {m : Nat} (hm : 8 < m) {l : List Pol} (h : ∀ p, p ∈ l → p.id.ok) {q : Pol} (hq : q.id.ok) (h0 : QOk q.qn q.qs) {i : Nat} (hi : i ≤ l.length) (hb : l.length < 1000000) (cp : Option Nat) : ∀ (c k : Nat), i - k < c → k ≤ i →
  Za8 m c i cp ((polsC l).take (i * 18)) (i : Int) (k : Int) q.cells = some (.v (.int .i64 (cond (Zcp ((l.take i).map Pol.id) q.id k) 14 0)))
 | 0, k, hc, hk => by omega
 | c + 1, k, hc, hk => by
  have ht : (polsC l).take (i * 18) = polsC (l.take i) := row_take fun x hx => Pol.cells_len (h x hx)
  have hh : ∀ p, p ∈ l.take i → p.id.ok := fun p hp => h p (List.mem_of_mem_take hp)
  have hl : (l.take i).length = i := by simp; omega
  have hlen := Zx6 hh
  rw [Zts]
  by_cases hlt : k < i
  ·have e1 : IntKind.wrap .i64 ((k : Int) + 1) = ((k + 1 : Nat) : Int) := Zbu (by omega) (by omega)
   have hk' : k < (l.take i).length := by omega
   have hok := hh _ (List.getElem_mem hk')
   rw [decide_eq_true (by omega), cond_true, if_pos (by omega), ht, e1]
   simp only [Int.toNat_natCast]
   rw [if_pos (by omega), Zx7 hh hk', if_pos (Pol.cells_len hok), List.drop_zero, List.drop_zero, Pol.cells_id hok, Pol.cells_id hq]
   have e2 := oid_eq hok hq
   unfold k17 at e2
   rw [e2, Option.bind_some, ← ht, Z1b2 hm h hq h0 hi hb cp c (k + 1) (by omega) (by omega), Znl (k := k) (by simpa using hk'), List.getElem_map]
   cases decide ((l.take i)[k].id = q.id) <;> rfl
  ·rw [Zqc (by simp; omega)]
   have hle := h0.le
   repeat (first | (with_reducible refine Z5 (Z1gs (Pol.cells_q hq)) ?_; try dsimp only) | with_reducible refine st_if (by omega) ?_ | with_reducible refine Z5 (rdI_v _ _) ?_ | with_reducible refine Z5 (rdB_v _) ?_ | (with_reducible refine Z5 (rdL_v _ _ _) ?_; try dsimp only) | with_reducible refine Z5 (rdA_v _) ?_ | with_reducible refine Z5 (rdT_v _) ?_ | with_reducible refine st_cT (decide_eq_true (by omega)) ?_ | with_reducible refine st_cF (decide_eq_false (by omega)) ?_ | with_reducible refine st_cT (i_eq (by omega)) ?_ | with_reducible refine st_cF (i_ne (by omega)) ?_ | with_reducible refine st_cT (i_bne (by omega)) ?_ | with_reducible refine st_cF (i_bnf (by omega)) ?_ | with_reducible refine st_ifn (by omega) ?_ | ((with_reducible refine st_cT ?_ ?_); exact rfl) | ((with_reducible refine st_cF ?_ ?_); exact rfl))
   exact Z16g h0 _ m 0 (by omega) (by omega)
theorem Z1gv {l : List Pol} {i : Nat} (hi : i < l.length) : polErr l i = if l[i].id.good = false then 1 else cond (Zcp ((l.take i).map Pol.id) l[i].id 0) 14 0 := by
 unfold polErr
 rw [List.getElem?_eq_getElem hi, Znm]
 simp only
 cases ((l.take i).map Pol.id).contains l[i].id <;> rfl
theorem Zx8 {l : List Pol} (h : ∀ p, p ∈ l → p.id.ok) (h0 : ∀ p, p ∈ l → QOk p.qn p.qs) (hb : l.length < 1000000) (cp : Option Nat) {i : Nat} (hi : i < l.length) :
  Z7r [.list l.length cp (polsC l), .v (.int .i64 (i : Int))] = some (.v (.int .i64 (polErr l i))) := by
 show Zeq M l.length cp (polsC l) (i : Int) = _
 have hl := Zx6 h
 have hok := h _ (List.getElem_mem hi)
 unfold Zeq
 rw [if_pos (by omega)]
 simp only [Int.toNat_natCast, Nat.sub_zero, List.drop_zero]
 rw [if_pos (by omega), Zx7 h hi, if_pos (Pol.cells_len hok), Pol.cells_id hok, Zix hok, Option.bind_some, rdI_v, Option.bind_some, Oid.err_bne, Z1gv hi]
 cases hg : l[i].id.good with
 | false => rw [Oid.err_bad hg]; rfl
 | true =>
  rw [if_neg (show ¬ (true = false) by simp), Bool.not_true, cond_false, if_pos (by omega)]
  exact Z1b2 (by unfold M; omega) h hok (h0 _ (List.getElem_mem hi)) (by omega) hb _ M 0 (by unfold M; omega) (by omega)
end Go.Ev