/-
 CountersKnown.
-/
import Derived.Test.YthakkigkdhaihaaGreatDoorEzR7
import Derived.Test.YthakkigkdhaihaaGreatDoorEzGk
set_option linter.unusedSimpArgs false
set_option linter.unusedVariables false
set_option maxRecDepth 100000
namespace Go.Ev
open Go
section
variable {α : Type} {f : α → List D} {nx : α → C3 → C3} {wr : α → C3 → Int} {l : List α}
theorem Z14v (m : Nat) (h : Does f nx wr l) (hb : l.length ≤ 64) (cp : Option Nat) (un : Nat) (uc : Option Nat) (u : List D) (x y z : Bool) : ∀ (c k : Nat) (dn : List C3) (q : C3), l.length - k < c → k ≤ l.length → dn.length = k →
  Z2s m c l.length cp ((l.map f).flatten) (l.length : Int) (k : Int) un uc u x y z (l.length * 3) ((dn.map ctr3).flatten ++ (List.replicate (l.length - k) z3).flatten) l.length (ctr3 q) =
   some (.tup [.list l.length (some l.length) (((dn ++ states nx q (l.drop k)).map ctr3).flatten), .v (.int .i64 0)])
 | 0, k, dn, q, hc, hk, hd => by omega
 | c + 1, k, dn, q, hc, hk, hd => by
  have hl := rows_len (f := f) h.len
  rw [Zct, Zrh]
  by_cases hlt : k < l.length
  ·have e1 : IntKind.wrap .i64 ((k : Int) + 1) = ((k + 1 : Nat) : Int) := Zbu (by omega) (by omega)
   have hm := List.getElem_mem hlt
   have hi : 0 ≤ (k : Int) ∧ (k : Int) < (l.length : Int) := by omega
   have hl8 : k * 8 + 8 ≤ ((l.map f).flatten).length := by omega
   have h3 : (ctr3 q).length = 3 := rfl
   have hk3 : 0 + k * 3 + 3 ≤ l.length * 3 := by omega
   have hput : putL (l.length * 3) ((dn.map ctr3).flatten ++ (List.replicate (l.length - k) z3).flatten) (0 + k * 3) 3 (ctr3 q) = ((dn ++ [q]).map ctr3).flatten ++ (List.replicate (l.length - (k + 1)) z3).flatten := by
    have hrep : (List.replicate (l.length - k) z3).flatten = z3 ++ (List.replicate (l.length - (k + 1)) z3).flatten := by
     rw [show l.length - k = (l.length - (k + 1)) + 1 by omega, List.replicate_succ, List.flatten_cons]
    have hgen : ((dn.map ctr3).flatten ++ (List.replicate (l.length - k) z3).flatten).take (k * 3) ++ (ctr3 q ++ ((dn.map ctr3).flatten ++ (List.replicate (l.length - k) z3).flatten).drop (k * 3 + 3)) = ((dn ++ [q]).map ctr3).flatten ++ (List.replicate (l.length - (k + 1)) z3).flatten := by
     have hdl : ((dn.map ctr3).flatten).length = k * 3 := by rw [Zxh, hd]
     rw [List.take_left' hdl, ← List.drop_drop, List.drop_left' hdl, hrep, show ∀ xs : List D, (z3 ++ xs).drop 3 = xs from fun _ => rfl]
     simp
    unfold putL
    split
    ·rename_i h0
     have hk0 : k = 0 := by omega
     have hn1 : l.length = 1 := by omega
     subst hk0
     have hdn : dn = [] := List.eq_nil_of_length_eq_zero hd
     subst hdn
     rw [hn1]; simp
    ·rw [Nat.zero_add]; exact hgen
   rw [decide_eq_true (by omega), cond_true, e1]
   simp only [Int.toNat_natCast, if_pos hi, if_pos hl8]
   rw [row_get h.len hlt, if_pos (h.len _ hm)]
   simp only [if_pos h3, if_pos hk3]
   rw [h.nx _ hm, Option.bind_some, rdA_v, Option.bind_some, if_pos (show (ctr3 (nx l[k] q)).length = 3 from rfl), hput, Z14v m h hb cp un uc u x y z c (k + 1) (dn ++ [q]) _ (by omega) (by omega) (by simp [hd]), List.drop_eq_getElem_cons hlt, states]
   simp
  ·have hkl : k = l.length := by omega
   have hcut : cutL (l.length * 3) ((dn.map ctr3).flatten) 0 (l.length * 3) = (dn.map ctr3).flatten := Zgf (by rw [Zxh, hd, hkl])
   rw [decide_eq_false (by omega), cond_false, List.drop_eq_nil_of_le (by omega), if_pos (by omega), show l.length - k = 0 by omega, List.replicate_zero, List.flatten_nil, List.append_nil, hcut, states, List.append_nil]
theorem ctr3_leaf : ∀ l : List C3, ((l.map ctr3).flatten).all leaf1 = true
 | [] => rfl
 | c :: l => by
  simp only [List.map_cons, List.flatten_cons, List.all_append, ctr3_leaf l, Bool.and_true]
  rfl
theorem Z16s {g : α → Int} (h : Does f nx wr l) (hg : ∀ x, x ∈ l → Z22 [.agg (f x)] = some (.v (.int .i64 (g x)))) (cp : Option Nat) {u : List Oid} (hu : ∀ x, x ∈ u → x.ok) (cu : Option Nat) (x y z : Bool) (h0 : allErr g l u = 0) :
  Z5e [.list l.length cp ((l.map f).flatten), .agg (inC u cu x y z)] =
   some (.tup [.list l.length (some l.length) (((states nx (cond x 0 (l.length + 1 : Int), cond y 0 (l.length + 1 : Int), cond z 0 (l.length + 1 : Int)) l).map ctr3).flatten), .v (.int .i64 0)]) := by
 have hb := Ztn h0
 have hF : Z80 M l.length cp ((l.map f).flatten) u.length cu (oidsC u) x y z = some (.tup [.list l.length (some l.length) (((states nx (cond x 0 (l.length + 1 : Int), cond y 0 (l.length + 1 : Int), cond z 0 (l.length + 1 : Int)) l).map ctr3).flatten), .v (.int .i64 0)]) := by
  unfold Z80
  rw [Zac h.len hg cp hu, Option.bind_some, rdI_v, Option.bind_some]
  have hw : IntKind.wrap .i64 ((l.length : Int) + 1) = (l.length + 1 : Int) := Zkt (by omega) (by omega)
  rw [h0, show ((0 : Int) != 0) = false from rfl, cond_false]
  simp only [Int.toNat_natCast]
  rw [if_pos ⟨by omega, by omega, by constructor <;> omega⟩, Zab, Option.bind_some, rdA_v, Option.bind_some, hw]
  have := Z14v M h hb.2 cp u.length cu (oidsC u) x y z M 0 [] (cond x 0 (l.length + 1 : Int), cond y 0 (l.length + 1 : Int), cond z 0 (l.length + 1 : Int)) (by unfold M; omega) (by omega) rfl
  exact this
 show (match Z80 M l.length cp ((l.map f).flatten) u.length cu (oidsC u) x y z with
  | some d => if leafs d = true then some d else none
  | none => none) = _
 rw [hF]
 refine if_pos ?_
 have h1 : (l.length != 0) = true := by rw [bne_iff_ne]; omega
 simp only [leafs, leafs1, List.all_cons, List.all_nil, ctr3_leaf, h1, Bool.true_or, Bool.and_true]
end
def e0 : Rcd := ⟨false, false, [], some 0, false, [], some 0, -1, -1, -1⟩
def known1 : List Rcd := List.replicate 64 e0
def known2 (k : Nat) : List Rcd := (List.range 64).map fun i => if i = 9 then { e0 with r := 5, i := 2147483647, y := 60 } else if 10 ≤ i ∧ i < k then { e0 with s := true } else e0
theorem e0_good : e0.good := ⟨⟨fun p h => (nomatch h), fun p h => (nomatch h), fun p h => (nomatch h)⟩, by kernel_rfl⟩
theorem known1_chain : Chain known1 := ⟨by simp [known1], by simp [known1], fun q hq => by rw [List.eq_of_mem_replicate hq]; exact e0_good⟩
theorem Z1br (k : Nat) : Chain (known2 k) := ⟨by simp [known2], by simp [known2], fun q hq => by
 obtain ⟨i, _, rfl⟩ := List.mem_map.1 hq
 split
 ·exact ⟨⟨fun p h => (nomatch h), fun p h => (nomatch h), fun p h => (nomatch h)⟩, by kernel_rfl⟩
 ·split
  ·exact ⟨⟨fun p h => (nomatch h), fun p h => (nomatch h), fun p h => (nomatch h)⟩, by kernel_rfl⟩
  ·exact e0_good⟩
theorem Z1ed : Z1u [] = some (.agg e0.cells) := by kernel_rfl
theorem known2_set : ∀ k, 10 ≤ k → k < 20 → List.set (rcdsC (known2 k)) (0 + k * 8 + 0) (.v (.bool true)) = rcdsC (known2 (k + 1)) := by
 intro k h1 h2
 obtain rfl | rfl | rfl | rfl | rfl | rfl | rfl | rfl | rfl | rfl : k = 10 ∨ k = 11 ∨ k = 12 ∨ k = 13 ∨ k = 14 ∨ k = 15 ∨ k = 16 ∨ k = 17 ∨ k = 18 ∨ k = 19 := by omega
 all_goals kernel_rfl
theorem u8_of (x : Int) : ∃ n : Nat, n < 256 ∧ IntKind.wrap .u8 x = (n : Int) := by
 rw [Z1ez]
 exact ⟨(x % 256).toNat, by omega, by omega⟩
section
variable (M0 : Nat)
theorem Z1dq {y n : Int} (hy : 0 ≤ y ∧ y < 100003) (hn : 0 ≤ n ∧ n < 60) (m n0 : Nat)
  (hr : Z6v Z1u Z18 Z1g Z1m Z1h Zz Z15 Z1n m n0 y n = some (.v (.bool true))) : ∀ (c k : Nat) (rs : List Ri), (∀ r, r ∈ rs → r.ok) → rs.length = k → k ≤ 5 → 5 - k < c →
  Z5h Z1u Z18 Z1g Z1m Z1h Zz Z15 Z1n m n0 c y n (k : Int) k (IntKind.wrap .u8 n) (k * 6) (risC rs) = some (.v (.bool true))
 | 0, k, rs, hok, hl, hk, hc => by omega
 | c + 1, k, rs, hok, hl, hk, hc => by
  rw [Zmj]
  by_cases hlt : k < 5
  ·have e1 : IntKind.wrap .i64 ((k : Int) + 1) = ((k + 1 : Nat) : Int) := Z40 (by omega)
   have e2 : IntKind.wrap .i64 ((k : Int) + 2) = ((k + 2 : Nat) : Int) := Zbu (by omega) (by omega)
   have e3 : IntKind.wrap .i64 ((k : Int) + 3) = ((k + 3 : Nat) : Int) := Zbu (by omega) (by omega)
   rw [e1, e2, e3]
   refine st_cT (decide_eq_true (by omega)) ?_
   refine st_ifn (by omega) ?_
   refine st_ifn (by omega) ?_
   refine st_ifn (by omega) ?_
   refine st_ifn (by omega) ?_
   refine st_if ⟨rfl, rfl, by constructor <;> omega, rfl⟩ ?_
   obtain ⟨q0, h0, w0⟩ := u8_of (Int.fdiv y (2 ^ (min (Int.toNat (k : Int)) (IntKind.bits .i64))))
   obtain ⟨q1, h1, w1⟩ := u8_of (Int.fdiv y (2 ^ (min (Int.toNat ((k + 1 : Nat) : Int)) (IntKind.bits .i64))))
   obtain ⟨q2, h2, w2⟩ := u8_of (Int.fdiv y (2 ^ (min (Int.toNat ((k + 2 : Nat) : Int)) (IntKind.bits .i64))))
   obtain ⟨q3, h3, w3⟩ := u8_of (Int.fdiv y (2 ^ (min (Int.toNat ((k + 3 : Nat) : Int)) (IntKind.bits .i64))))
   rw [w0, w1, w2, w3]
   have := Z1dq hy hn m n0 hr c (k + 1) (rs ++ [⟨q0, [], some 0, [], some 0, q1, q2, q3⟩]) (fun r hr => by
    rcases List.mem_append.1 hr with hr | hr
    ·exact hok r hr
    ·rw [List.mem_singleton.1 hr]
     exact ⟨h0, fun k hk => (nomatch hk), fun k hk => (nomatch hk), h1, h2, h3, by simp, by simp⟩) (by simp [hl]) (by omega) (by omega)
   rw [← this]
   simp [risC, Ri.cells, n8]
  ·have hk5 : k = 5 := by omega
   subst hk5
   obtain ⟨qf, hf, wf⟩ := u8_of n
   obtain ⟨qy, hqy, wy⟩ := u8_of y
   rw [wf, wy]
   have hcut : cutL (5 * 6) (risC rs) 0 (5 * 6) = risC rs := Zgf (by rw [Z1dj, hl])
   have hx : (⟨rs, none, 0, qf⟩ : Ci).ok := ⟨hok, by rw [hl]; omega, Nat.zero_lt_succ _, hf⟩
   have hcells : (⟨rs, none, 0, qf⟩ : Ci).cells = [.list 5 none (risC rs), .v (.int .u8 0), .v (.int .u8 (qf : Int))] := by simp [Ci.cells, hl]
   refine st_cF (decide_eq_false (by omega)) ?_
   rw [hcut, ← hcells]
   refine st_if (by omega) ?_
   refine Z5 (Z14q hx) ?_
   refine Z5 (rdB_v _) ?_
   refine st_cF rfl ?_
   refine st_if (by omega) ?_
   refine Z5 (Z106 hx) ?_
   refine Z5 (rdB_v _) ?_
   refine st_cF rfl ?_
   refine st_if (by omega) ?_
   refine Z5 (Z12g hx qy) ?_
   refine Z5 (rdB_v _) ?_
   refine st_cF rfl ?_
   exact hr
theorem Z1dr (m : Nat) (hm : 5 < m) : ∀ (c : Nat) (y n : Int), 0 ≤ y ∧ y < 100003 → 0 ≤ n ∧ n ≤ 60 → (60 - n).toNat < c →
  Z5g Z1u Z18 Z1g Z1m Z1h Zz Z15 Z1n m c y n = some (.v (.bool true))
 | 0, y, n, hy, hn, hc => by omega
 | c + 1, y, n, hy, hn, hc => by
  rw [Zmk]
  by_cases hlt : n < 60
  ·refine st_cT (decide_eq_true hlt) ?_
   refine Z1dq hy ⟨hn.1, hlt⟩ m c ?_ m 0 [] (fun r hr => (nomatch hr)) rfl (by omega) (by omega)
   rw [Zm5]
   have e1 : IntKind.wrap .i64 (y * 31) = y * 31 := Zkt (by omega) (by omega)
   have e2 : IntKind.wrap .i64 (y * 31 + 11) = y * 31 + 11 := Zkt (by omega) (by omega)
   have e3 : IntKind.wrap .i64 (n + 1) = n + 1 := Zkt (by omega) (by omega)
   rw [e1, e2, e3]
   have e4 : Int.tmod (y * 31 + 11) 100003 = (y * 31 + 11) % 100003 := Int.tmod_eq_emod_of_nonneg (by omega)
   rw [e4]
   exact Z1dr m hm c _ _ (by omega) (by omega) (by omega)
  ·refine st_cF (decide_eq_false hlt) ?_
   exact Z5 Zx5 (Z5 (rdB_v _) rfl)
theorem known_j22 : Z6u Z1u Z18 Z1g Z1m Z1h Zz Z15 Z1n M = some (.v (.bool true)) := by
 rw [Zm6]
 exact Z1dr M (by unfold M; omega) M 1 0 (by omega) (by omega) (by unfold M; omega)
theorem Z1ds (l : List Rcd) : (l.map Rcd.cells).flatten = rcdsC l := rfl
theorem Z16t (k : Nat) : (known2 k).length = 64 := by simp [known2]
theorem known_15 : ∀ (c k : Nat), 10 ≤ k → k ≤ 20 → 20 - k < c →
  Z5f Z1u Z18 Z1g Z1m Z1h Zz Z15 Z1n M c 64 (k : Int) 512 (rcdsC (known2 k)) = some (.v (.bool true))
 | 0, k, h1, h2, hc => by omega
 | c + 1, k, h1, h2, hc => by
  rw [Zml]
  by_cases hlt : k < 20
  ·have e1 : IntKind.wrap .i64 ((k : Int) + 1) = ((k + 1 : Nat) : Int) := Z40 (by omega)
   rw [e1]
   refine st_cT (decide_eq_true (by omega)) ?_
   refine st_if (by omega) ?_
   rw [Int.toNat_natCast]
   refine st_if ⟨rfl, by omega⟩ ?_
   rw [known2_set k h1 hlt]
   exact known_15 c (k + 1) (by omega) (by omega) (by omega)
  ·have hk : k = 20 := by omega
   subst hk
   have hcut : cutL 512 (rcdsC (known2 20)) 0 (64 * 8) = rcdsC (known2 20) := Zgf (by rw [Zt9, Z16t])
   have hch := Z1br 20
   have h0 : setErr [] = 0 := by kernel_rfl
   have hA := Z16s (Rcd.does (known2 20)) hch.chk none (u := []) (fun x hx => (nomatch hx)) (some 0) false false false (hch.all h0)
   have hZ := Zin (Rcd.does (known2 20)) hch.chk none (u := []) (fun x hx => (nomatch hx)) (some 0) false false false
   rw [if_pos (hch.all h0)] at hZ
   rw [Z1ds, Z16t] at hA hZ
   have hZ' := hZ.trans (congrArg (fun z => some (D.tup z)) (show _ = [D.v (.int .i64 26), .v (.int .i64 65), .v (.int .i64 65), .v (.int .i64 0)] by kernel_rfl))
   clear hZ
   obtain ⟨S, hS, hA'⟩ : ∃ S, S = (((states Rcd.nx (cond false 0 (((64 : Nat) : Int) + 1), cond false 0 (((64 : Nat) : Int) + 1), cond false 0 (((64 : Nat) : Int) + 1)) (known2 20)).map ctr3).flatten) ∧ _ = some (D.tup [.list 64 (some 64) S, .v (.int .i64 0)]) := ⟨_, rfl, hA⟩
   clear hA
   have hlen : S.length = 192 := by rw [hS]; kernel_rfl
   have f10 : (S.drop 30).take 3 = ctrC 5 55 55 := by rw [hS]; kernel_rfl
   have f20 : (S.drop 60).take 3 = ctrC 5 55 55 := by rw [hS]; kernel_rfl
   have f25 : (S.drop 75).take 3 = ctrC 0 50 50 := by rw [hS]; kernel_rfl
   have f24 : (S.drop 72).take 3 = ctrC 1 51 51 := by rw [hS]; kernel_rfl
   clear hS
   refine st_cF (decide_eq_false (by omega)) ?_
   refine st_if (by omega) ?_
   rw [hcut]
   refine Z5 hA' ?_
   refine Z5 rfl ?_
   refine st_if rfl ?_
   refine Z5 (rdL_v _ _ _) ?_
   refine Z5 (rdI_v _ _) ?_
   refine st_if (by omega) ?_
   refine Z5 hZ' ?_
   refine Z5 rfl ?_
   refine st_if rfl ?_
   refine Z5 (rdI_v _ _) ?_
   refine Z5 (rdI_v _ _) ?_
   refine Z5 (rdI_v _ _) ?_
   refine Z5 (rdI_v _ _) ?_
   dsimp only
   refine st_cF rfl ?_
   refine st_cF rfl ?_
   refine st_cF rfl ?_
   refine st_if (by omega) ?_
   refine st_if (by rw [hlen]; omega) ?_
   refine Z5 (Zlz _ _ _) ?_
   refine Z5 (rdA_v _) ?_
   rw [f10]
   refine Z5 (v := true) rfl ?_
   refine st_cF rfl ?_
   refine st_if (by omega) ?_
   refine st_if (by rw [hlen]; omega) ?_
   refine Z5 (Zlz _ _ _) ?_
   refine Z5 (rdA_v _) ?_
   rw [f20]
   refine Z5 (v := true) rfl ?_
   refine st_cF rfl ?_
   refine st_if (by omega) ?_
   refine st_if (by rw [hlen]; omega) ?_
   refine Z5 (Zlz _ _ _) ?_
   refine Z5 (rdA_v _) ?_
   rw [f25]
   refine Z5 (v := true) rfl ?_
   refine st_cF rfl ?_
   refine st_if (by omega) ?_
   refine st_if (by rw [hlen]; omega) ?_
   refine Z5 (Zlz _ _ _) ?_
   refine Z5 (rdA_v _) ?_
   rw [f24]
   refine Z5 (v := true) rfl ?_
   refine st_cF rfl ?_
   refine st_cF rfl ?_
   refine st_cF rfl ?_
   refine st_cF rfl ?_
   exact known_j22
theorem known_j11 : Z6t Z1u Z18 Z1g Z1m Z1h Zz Z15 Z1n M 64 512 (rcdsC known1) = some (.v (.bool true)) := by
 rw [Zm7]
 have e : List.set (List.set (List.set (rcdsC known1) 77 (.v (.int .i64 5))) 78 (.v (.int .i64 2147483647))) 79 (.v (.int .i64 60)) = rcdsC (known2 10) := by kernel_rfl
 refine st_if (by omega) ?_
 refine st_if ⟨rfl, by omega⟩ ?_
 refine st_if (by omega) ?_
 refine st_if ⟨rfl, by omega⟩ ?_
 refine st_if (by omega) ?_
 refine st_if ⟨rfl, by omega⟩ ?_
 rw [e]
 exact known_15 M 10 (by omega) (by omega) (by unfold M; omega)
theorem known_3 : ∀ (c k : Nat), k ≤ 64 → 64 - k < c →
  Z5p Z1u Z18 Z1g Z1m Z1h Zz Z15 Z1n M c k (k : Int) (k * 8) (rcdsC (List.replicate k e0)) = some (.v (.bool true))
 | 0, k, h1, hc => by omega
 | c + 1, k, h1, hc => by
  rw [Zo9]
  by_cases hlt : k < 64
  ·have e1 : IntKind.wrap .i64 ((k : Int) + 1) = ((k + 1 : Nat) : Int) := Z40 (by omega)
   rw [e1]
   refine st_cT (decide_eq_true (by omega)) ?_
   refine Z5 Z1ed ?_
   refine Z5 (rdA_v _) ?_
   refine st_if rfl ?_
   refine st_if ⟨rfl, rfl, by constructor <;> omega, rfl⟩ ?_
   have := known_3 c (k + 1) (by omega) (by omega)
   rw [List.replicate_succ', Z10i, Z14i] at this
   exact this
  ·have hk : k = 64 := by omega
   subst hk
   have hcut : cutL (64 * 8) (rcdsC (List.replicate 64 e0)) 0 (64 * 8) = rcdsC known1 := Zgf (by rw [Zt9]; simp)
   have hch := known1_chain
   have hl : known1.length = 64 := by simp [known1]
   have h0 : setErr [] = 0 := by kernel_rfl
   have hA := Z16s (Rcd.does known1) hch.chk none (u := []) (fun x hx => (nomatch hx)) (some 0) false false false (hch.all h0)
   have hF := Zns (Rcd.does known1) hch.chk none (u := []) (fun x hx => (nomatch hx)) (some 0) false false false
   have hZ := Zin (Rcd.does known1) hch.chk none (u := []) (fun x hx => (nomatch hx)) (some 0) false false true
   rw [if_pos (hch.all h0)] at hZ hF
   rw [Z1ds, hl] at hA hZ hF
   have hZ' := hZ.trans (congrArg (fun z => some (D.tup z)) (show _ = [D.v (.int .i64 65), .v (.int .i64 65), .v (.int .i64 1), .v (.int .i64 0)] by kernel_rfl))
   have hF' := hF.trans (congrArg (fun z => some (D.tup [D.v (.int .i64 z), .v (.int .i64 0)])) (show _ = (1 : Int) by kernel_rfl))
   clear hZ hF
   obtain ⟨S, hS, hA'⟩ : ∃ S, S = (((states Rcd.nx (cond false 0 (((64 : Nat) : Int) + 1), cond false 0 (((64 : Nat) : Int) + 1), cond false 0 (((64 : Nat) : Int) + 1)) known1).map ctr3).flatten) ∧ _ = some (D.tup [.list 64 (some 64) S, .v (.int .i64 0)]) := ⟨_, rfl, hA⟩
   clear hA
   have hlen : S.length = 192 := by rw [hS]; kernel_rfl
   have f0 : (S.drop 0).take 3 = ctrC 65 65 65 := by rw [hS]; kernel_rfl
   have f63 : (S.drop 189).take 3 = ctrC 2 2 2 := by rw [hS]; kernel_rfl
   clear hS
   refine st_cF (decide_eq_false (by omega)) ?_
   refine st_if (by omega) ?_
   rw [hcut]
   refine Z5 hA' ?_
   refine Z5 rfl ?_
   refine st_if rfl ?_
   refine Z5 (rdL_v _ _ _) ?_
   refine Z5 (rdI_v _ _) ?_
   refine st_if (by omega) ?_
   refine Z5 hF' ?_
   refine Z5 rfl ?_
   refine st_if rfl ?_
   refine Z5 (rdI_v _ _) ?_
   refine Z5 (rdI_v _ _) ?_
   refine st_if (by omega) ?_
   refine Z5 hZ' ?_
   refine Z5 rfl ?_
   refine st_if rfl ?_
   refine Z5 (rdI_v _ _) ?_
   refine Z5 (rdI_v _ _) ?_
   refine Z5 (rdI_v _ _) ?_
   refine Z5 (rdI_v _ _) ?_
   dsimp only
   refine st_cF rfl ?_
   refine st_cF rfl ?_
   refine st_cF rfl ?_
   refine st_cF rfl ?_
   refine st_if (by omega) ?_
   refine st_if (by rw [hlen]; omega) ?_
   refine Z5 (Zlz _ _ _) ?_
   refine Z5 (rdA_v _) ?_
   rw [f0]
   refine Z5 (v := true) rfl ?_
   refine st_cF rfl ?_
   refine st_if (by omega) ?_
   refine st_if (by rw [hlen]; omega) ?_
   refine Z5 (Zlz _ _ _) ?_
   refine Z5 (rdA_v _) ?_
   rw [f63]
   refine Z5 (v := true) rfl ?_
   refine st_cF rfl ?_
   refine st_cF rfl ?_
   refine st_cF rfl ?_
   refine st_cF rfl ?_
   refine st_cF rfl ?_
   exact known_j11
theorem Z107 : Za4 [] = some (.v (.bool true)) := known_3 M 0 (by omega) (by unfold M; omega)
end
end Go.Ev