/-
 When two trees are the same, says the program.
-/
import Derived.Test.YtnghcoghbbapgaaGreatDoorEzX4
import Derived.Test.YtnghcoghbbapgaaGreatDoorEzHs
import Derived.Test.YtnghcoghbbapgaaGreatDoorEzU2
set_option linter.unusedSimpArgs false
set_option linter.unusedVariables false
set_option maxRecDepth 100000
namespace Go.Ev
open Go Go.Proofs
theorem Z1y6 {m : Nat} {a b : List Oid} (ha : ∀ x, x ∈ a → x.ok) (hb : ∀ x, x ∈ b → x.ok) (hl : a.length = b.length) (hB : a.length < 1000000000) (ac bc : Option Nat) : ∀ (c k : Nat), a.length - k < c → k ≤ a.length →
  Z41 m c a.length ac (oidsC a) b.length bc (oidsC b) ((a.length : Nat) : Int) (k : Int) = some (.v (.bool (decide (a.drop k = b.drop k))))
 | 0, k, hc, hk => by omega
 | c + 1, k, hc, hk => by
  have hla := Zfm ha
  have hlb := Zfm hb
  rw [Zmf]
  simp only [Int.toNat_natCast]
  by_cases hlt : k < a.length
  ·have hlt2 : k < b.length := by omega
   have ih := Z1y6 (m := m) ha hb hl hB ac bc c (k + 1) (by omega) (by omega)
   have hd := Zqp hlt hlt2
   refine st_cT (decide_eq_true (by omega)) ?_
   refine st_if (by omega) ?_
   refine st_if (by omega) ?_
   refine st_if (by omega) ?_
   refine st_if (by omega) ?_
   rw [Zj3 ha hlt, Zj3 hb hlt2]
   refine Z0 (oid_eq (ha _ (List.getElem_mem hlt)) (hb _ (List.getElem_mem hlt2))) ?_
   by_cases he : a[k] = b[k]
   ·rw [decide_eq_true he]
    refine st_cF rfl ?_
    rw [Z14 (by omega), ih]
    have : decide (a.drop k = b.drop k) = decide (a.drop (k + 1) = b.drop (k + 1)) := by
     rw [decide_eq_decide, hd]; exact ⟨fun q => q.2, fun q => ⟨he, q⟩⟩
    rw [this]
   ·rw [decide_eq_false he]
    refine st_cT rfl ?_
    rw [decide_eq_false (fun q => he (hd.1 q).1)]
  ·obtain rfl : k = a.length := by omega
   refine st_cF (decide_eq_false (by omega)) ?_
   rw [List.drop_length, List.drop_eq_nil_of_le (by omega)]; rfl
theorem Z1z0 {a b : List Oid} (ha : ∀ x, x ∈ a → x.ok) (hb : ∀ x, x ∈ b → x.ok) (hB : a.length < 1000000000) (ac bc : Option Nat) : Z37 [.list a.length ac (oidsC a), .list b.length bc (oidsC b)] = some (.v (.bool (decide (a = b)))) := by
 show Z4p M a.length ac (oidsC a) b.length bc (oidsC b) = _
 unfold Z4p
 by_cases hl : a.length = b.length
 ·refine st_cF (i_bnf (by omega)) ?_
  have := Z1y6 (m := M) ha hb hl hB ac bc M 0 (by unfold M; omega) (by omega)
  rwa [List.drop_zero, List.drop_zero] at this
 ·refine st_cT (i_bne (by omega)) ?_
  rw [decide_eq_false (fun e => hl (by rw [e]))]
theorem ueq_nil : Z3h [.list 0 (some 0) [], .list 0 (some 0) []] = some (.v (.bool true)) := by kernel_rfl
theorem beq_nil : Zja [.list 0 (some 0) [], .list 0 (some 0) []] = some (.v (.bool true)) := by kernel_rfl
theorem qC_0 (b : Bool) : rdI .u8 (qC b)[0]? = some (cond b 1 2) := by cases b <;> rfl
theorem qC_1 (b : Bool) : ∃ s, rdS (qC b)[1]? = some s := by cases b <;> exact ⟨_, rfl⟩
theorem qC_2 (b : Bool) : rdB (qC b)[2]? = some false := by cases b <;> rfl
theorem qC_34 (b : Bool) : cellsEq [.int, .str] (((qC b).drop 3).take 2) (((qC b).drop 3).take 2) = some true := by cases b <;> kernel_rfl
theorem qC_r5 (b : Bool) : rdL (qC b)[5]? = some ⟨0, some 0, []⟩ := by cases b <;> rfl
theorem qC_6 (b : Bool) : rdB (qC b)[6]? = some (cond b false true) := by cases b <;> rfl
theorem qC_78 (b : Bool) : cellsEq [.int, .str] (((qC b).drop 7).take 2) (((qC b).drop 7).take 2) = some true := by cases b <;> kernel_rfl
theorem qC_9 (b : Bool) : cellsEq [.int, .int, .int, .int, .int, .int, .int, .int, .int, .int, .int, .int, .int, .int, .int, .int, .int] (((qC b).drop 9).take 17) (((qC b).drop 9).take 17) = some true := by cases b <;> kernel_rfl
theorem qC_r26 (b : Bool) : rdL (qC b)[26]? = some ⟨0, some 0, []⟩ := by cases b <;> rfl
theorem b_eq (b : Bool) : (b == b) = true := by cases b <;> rfl
theorem Z1y7 {m : Nat} {a b : List Bool} (hl : a.length = b.length) (hB : a.length < 1000000000) (xn yn : Nat) (xc yc ac bc : Option Nat) (xs ys : List D) : ∀ (c k : Nat), a.length - k < c → k ≤ a.length →
  Zk m c xn xc xs yn yc ys b.length bc (qsC b) a.length ac (qsC a) ((a.length : Nat) : Int) (k : Int) = some (.v (.bool (decide (a.drop k = b.drop k))))
 | 0, k, hc, hk => by omega
 | c + 1, k, hc, hk => by
  have hla := Z185 a
  have hlb := Z185 b
  rw [Z2q]
  simp only [Int.toNat_natCast]
  by_cases hlt : k < a.length
  ·have hlt2 : k < b.length := by omega
   have ih := Z1y7 (m := m) hl hB xn yn xc yc ac bc xs ys c (k + 1) (by omega) (by omega)
   have hd := Zqp hlt hlt2
   refine st_cT (decide_eq_true (by omega)) ?_
   rw [Z1cm hlt, Z1cm hlt2]
   refine st_if (by omega) ?_
   refine st_if (by omega) ?_
   refine st_if (qC_len _) ?_
   refine st_if (by omega) ?_
   refine st_if (by omega) ?_
   refine st_if (qC_len _) ?_
   refine st_if (qC_len _) ?_
   refine st_if (qC_len _) ?_
   refine Z0 (qC_0 _) ?_
   refine Z0 (qC_0 _) ?_
   by_cases he : a[k] = b[k]
   ·rw [← he]
    refine st_cT (i_eq rfl) ?_
    obtain ⟨s, hs⟩ := qC_1 a[k]
    refine Z0 hs ?_
    refine Z0 hs ?_
    refine st_cT (beq_self_eq_true _) ?_
    refine Z0 (qC_2 _) ?_
    refine Z0 (qC_2 _) ?_
    refine st_cT rfl ?_
    refine Z0 (qC_34 _) ?_
    refine st_cT rfl ?_
    refine Z0 (qC_r5 _) ?_
    refine Z0 (qC_r5 _) ?_
    refine Z0 ueq_nil ?_
    refine Z0 rfl ?_
    refine st_cT rfl ?_
    refine Z0 (qC_6 _) ?_
    refine Z0 (qC_6 _) ?_
    refine st_cT (b_eq _) ?_
    refine Z0 (qC_78 _) ?_
    refine st_cT rfl ?_
    refine Z0 (qC_9 _) ?_
    refine st_cT rfl ?_
    refine Z0 (qC_r26 _) ?_
    refine Z0 (qC_r26 _) ?_
    refine Z0 beq_nil ?_
    refine Z0 rfl ?_
    refine st_cF rfl ?_
    rw [Z14 (by omega), ih]
    have : decide (a.drop k = b.drop k) = decide (a.drop (k + 1) = b.drop (k + 1)) := by
     rw [decide_eq_decide, hd]; exact ⟨fun q => q.2, fun q => ⟨he, q⟩⟩
    rw [this]
   ·refine st_cF (by
     revert he
     cases a[k] <;> cases b[k] <;> simp) ?_
    rw [decide_eq_false (fun q => he (hd.1 q).1)]
  ·obtain rfl : k = a.length := by omega
   refine st_cF (decide_eq_false (by omega)) ?_
   rw [List.drop_length, List.drop_eq_nil_of_le (by omega)]; rfl
theorem Z1z1 {a b : List Bool} (hB : a.length < 1000000000) (ac bc : Option Nat) : Z8w [.list a.length ac (qsC a), .list b.length bc (qsC b)] = some (.v (.bool (decide (a = b)))) := by
 show Zh9 M a.length ac (qsC a) b.length bc (qsC b) = _
 unfold Zh9
 by_cases hl : a.length = b.length
 ·refine st_cF (i_bnf (by omega)) ?_
  have := Z1y7 (m := M) hl hB a.length b.length ac bc ac bc (qsC a) (qsC b) M 0 (by unfold M; omega) (by omega)
  rwa [List.drop_zero, List.drop_zero] at this
 ·refine st_cT (i_bne (by omega)) ?_
  rw [decide_eq_false (fun e => hl (by rw [e]))]
theorem Z1y8 {m : Nat} {a b : List Cd} (ha : CdsB a) (hb : CdsB b) (hl : a.length = b.length) (xn yn : Nat) (xc yc ac bc : Option Nat) (xs ys : List D) : ∀ (c k : Nat), a.length - k < c → k ≤ a.length →
  Zr m c xn xc xs yn yc ys b.length bc (cdsC b) a.length ac (cdsC a) ((a.length : Nat) : Int) (k : Int) = some (.v (.bool (decide ((nds a).drop k = (nds b).drop k))))
 | 0, k, hc, hk => by omega
 | c + 1, k, hc, hk => by
  have hla := cdsC_len ha.ok
  have hlb := cdsC_len hb.ok
  have hBa := ha.len
  rw [Z3w]
  simp only [Int.toNat_natCast]
  by_cases hlt : k < a.length
  ·have hlt2 : k < b.length := by omega
   have oka := ha.ok _ (List.getElem_mem hlt)
   have okb := hb.ok _ (List.getElem_mem hlt2)
   have cla := Cd.cells_len oka
   have clb := Cd.cells_len okb
   have ih := Z1y8 (m := m) ha hb hl xn yn xc yc ac bc xs ys c (k + 1) (by omega) (by omega)
   have hd := Z1io hlt hlt2
   rw [Nd.eq_iff] at hd
   refine st_cT (decide_eq_true (by omega)) ?_
   rw [Zd8 ha.ok hlt, Zd8 hb.ok hlt2, Cd.pol_at oka, Cd.pol_at okb]
   refine st_if (by omega) ?_
   refine st_if (by omega) ?_
   refine st_if cla ?_
   refine st_if (by omega) ?_
   refine st_if (by omega) ?_
   refine st_if clb ?_
   refine st_if cla ?_
   refine st_if clb ?_
   refine Z0 (Z3g (Cd.at0 _)) ?_
   refine Z0 (Z3g (Cd.at0 _)) ?_
   by_cases h1 : a[k].n.par = b[k].n.par
   ·refine st_cT (i_eq h1) ?_
    refine Z0 (oid_eq oka.pol okb.pol) ?_
    by_cases h2 : a[k].n.pol = b[k].n.pol
    ·rw [decide_eq_true h2]
     refine st_cT rfl ?_
     refine Z0 (Zcx (Cd.at18 oka)) ?_
     refine Z0 (Zcx (Cd.at18 okb)) ?_
     refine Z0 (Z1z0 oka.ex okb.ex (ha.ex _ (List.getElem_mem hlt)) _ _) ?_
     refine Z0 (rdB_v _) ?_
     by_cases h3 : a[k].n.ex = b[k].n.ex
     ·rw [decide_eq_true h3]
      refine st_cT rfl ?_
      refine Z0 (Zcx (Cd.at19 oka)) ?_
      refine Z0 (Zcx (Cd.at19 okb)) ?_
      refine Z0 (Z1z1 (ha.q _ (List.getElem_mem hlt)) _ _) ?_
      refine Z0 (rdB_v _) ?_
      by_cases h4 : a[k].n.q = b[k].n.q
      ·rw [decide_eq_true h4]
       refine st_cF rfl ?_
       rw [Z14 (by omega), ih]
       have : decide ((nds a).drop k = (nds b).drop k) = decide ((nds a).drop (k + 1) = (nds b).drop (k + 1)) := by
        rw [decide_eq_decide, hd]; exact ⟨fun q => q.2, fun q => ⟨⟨h1, h2, h3, h4⟩, q⟩⟩
       rw [this]
      ·rw [decide_eq_false h4]
       refine st_cT rfl ?_
       rw [decide_eq_false (fun q => h4 (hd.1 q).1.2.2.2)]
     ·rw [decide_eq_false h3]
      refine st_cF rfl ?_
      rw [decide_eq_false (fun q => h3 (hd.1 q).1.2.2.1)]
    ·rw [decide_eq_false h2]
     refine st_cF rfl ?_
     rw [decide_eq_false (fun q => h2 (hd.1 q).1.2.1)]
   ·refine st_cF (i_ne h1) ?_
    rw [decide_eq_false (fun q => h1 (hd.1 q).1.1)]
  ·obtain rfl : k = a.length := by omega
   refine st_cF (decide_eq_false (by omega)) ?_
   rw [List.drop_eq_nil_of_le (by rw [Z1r]; omega), List.drop_eq_nil_of_le (by rw [Z1r]; omega)]; rfl
theorem Z20y {a b : List Cd} (ha : CdsB a) (hb : CdsB b) (ac bc : Option Nat) : Z6h [.agg [.list a.length ac (cdsC a)], .agg [.list b.length bc (cdsC b)]] = some (.v (.bool (decide (nds a = nds b)))) := by
 show Zzj M a.length ac (cdsC a) b.length bc (cdsC b) = _
 unfold Zzj
 by_cases hl : a.length = b.length
 ·refine st_cF (i_bnf (by omega)) ?_
  have hB := ha.len
  have := Z1y8 (m := M) ha hb hl a.length b.length ac bc ac bc (cdsC a) (cdsC b) M 0 (by unfold M; omega) (by omega)
  rwa [List.drop_zero, List.drop_zero] at this
 ·refine st_cT (i_bne (by omega)) ?_
  rw [decide_eq_false (fun e => hl (by rw [← Z1r, e, Z1r]))]
end Go.Ev