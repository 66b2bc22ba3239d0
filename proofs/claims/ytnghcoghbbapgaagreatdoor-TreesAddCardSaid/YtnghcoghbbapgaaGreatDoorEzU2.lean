/-
 Lists of policies, of qualifiers, of nodes held against each other.
-/
import Derived.Test.YtnghcoghbbapgaaGreatDoorEzU1
import Derived.Test.YtnghcoghbbapgaaGreatDoorEzGa
set_option linter.unusedSimpArgs false
set_option linter.unusedVariables false
set_option maxRecDepth 100000
namespace Go.Ev
open Go
theorem Zqp {α : Type} {a b : List α} {k : Nat} (ha : k < a.length) (hb : k < b.length) : a.drop k = b.drop k ↔ a[k] = b[k] ∧ a.drop (k + 1) = b.drop (k + 1) := by
 rw [List.drop_eq_getElem_cons ha, List.drop_eq_getElem_cons hb, List.cons.injEq]
theorem Z1xy {m : Nat} {a b : List Oid} (ha : ∀ x, x ∈ a → x.ok) (hb : ∀ x, x ∈ b → x.ok) (hl : a.length = b.length) (hB : a.length < 1000000000) (ac bc : Option Nat) : ∀ (c k : Nat), a.length - k < c → k ≤ a.length →
  Zh6 m c a.length ac (oidsC a) b.length bc (oidsC b) (k : Int) = some (.v (.int .i64 (b01 (decide (a.drop k = b.drop k)))))
 | 0, k, hc, hk => by omega
 | c + 1, k, hc, hk => by
  have hla := Zfm ha
  have hlb := Zfm hb
  rw [Z1cu]
  simp only [Int.toNat_natCast]
  by_cases hlt : k < a.length
  ·have hlt2 : k < b.length := by omega
   have ih := Z1xy (m := m) ha hb hl hB ac bc c (k + 1) (by omega) (by omega)
   have hd := Zqp hlt hlt2
   refine st_cT (decide_eq_true (by omega)) ?_
   refine st_if (by omega) ?_
   refine st_if (by omega) ?_
   refine st_if (by omega) ?_
   refine st_if (by omega) ?_
   rw [Zj3 ha hlt, Zj3 hb hlt2]
   refine Z0 (oid_eq (ha _ (List.getElem_mem hlt)) (hb _ (List.getElem_mem hlt2))) ?_
   by_cases he : a[k] = b[k]
   ·rw [decide_eq_true he]
    refine st_cF rfl ?_
    rw [Z14 (by omega), ih]
    have : decide (a.drop k = b.drop k) = decide (a.drop (k + 1) = b.drop (k + 1)) := by
     rw [decide_eq_decide, hd]; exact ⟨fun q => q.2, fun q => ⟨he, q⟩⟩
    rw [this]
   ·rw [decide_eq_false he]
    refine st_cT rfl ?_
    rw [decide_eq_false (fun q => he (hd.1 q).1)]; rfl
  ·obtain rfl : k = a.length := by omega
   refine st_cF (decide_eq_false (by omega)) ?_
   rw [List.drop_length, List.drop_eq_nil_of_le (by omega)]; rfl
theorem Z1cv {a b : List Oid} (ha : ∀ x, x ∈ a → x.ok) (hb : ∀ x, x ∈ b → x.ok) (hB : a.length < 1000000000) (ac bc : Option Nat) : Z29 [.list a.length ac (oidsC a), .list b.length bc (oidsC b)] = some (.v (.int .i64 (b01 (decide (a = b))))) := by
 show Zoh M a.length ac (oidsC a) b.length bc (oidsC b) = _
 unfold Zoh
 by_cases hl : a.length = b.length
 ·refine st_cF (i_bnf (by omega)) ?_
  have := Z1xy (m := M) ha hb hl hB ac bc M 0 (by unfold M; omega) (by omega)
  rwa [List.drop_zero, List.drop_zero] at this
 ·refine st_cT (i_bne (by omega)) ?_
  rw [decide_eq_false (fun e => hl (by rw [e]))]; rfl
theorem qeq_t : Z6c [.agg (qC true), .agg (qC true)] = some (.v (.bool true)) := by kernel_rfl
theorem qeq_f : Z6c [.agg (qC false), .agg (qC false)] = some (.v (.bool true)) := by kernel_rfl
theorem qeq_tf : Z6c [.agg (qC true), .agg (qC false)] = some (.v (.bool false)) := by kernel_rfl
theorem qeq_ft : Z6c [.agg (qC false), .agg (qC true)] = some (.v (.bool false)) := by kernel_rfl
theorem Z1yy (x y : Bool) : Z6c [.agg (qC x), .agg (qC y)] = some (.v (.bool (decide (x = y)))) := by
 cases x <;> cases y
 ·exact qeq_f
 ·exact qeq_ft
 ·exact qeq_tf
 ·exact qeq_t
theorem Z20o {m : Nat} {a b : List Bool} (hl : a.length = b.length) (hB : a.length < 1000000000) (ac bc : Option Nat) : ∀ (c k : Nat), a.length - k < c → k ≤ a.length →
  Zro m c a.length ac (qsC a) b.length bc (qsC b) (k : Int) = some (.v (.bool (decide (a.drop k = b.drop k))))
 | 0, k, hc, hk => by omega
 | c + 1, k, hc, hk => by
  have hla := Z185 a
  have hlb := Z185 b
  rw [Z1jy]
  simp only [Int.toNat_natCast]
  by_cases hlt : k < a.length
  ·have hlt2 : k < b.length := by omega
   have ih := Z20o (m := m) hl hB ac bc c (k + 1) (by omega) (by omega)
   have hd := Zqp hlt hlt2
   refine st_cT (decide_eq_true (by omega)) ?_
   refine st_if (by omega) ?_
   refine st_if (by omega) ?_
   refine st_if (by omega) ?_
   refine st_if (by omega) ?_
   rw [Z1cm hlt, Z1cm hlt2]
   refine Z0 (Z1yy _ _) ?_
   refine Z0 (rdB_v _) ?_
   by_cases he : a[k] = b[k]
   ·rw [decide_eq_true he]
    refine st_cF rfl ?_
    rw [Z14 (by omega), ih]
    have : decide (a.drop k = b.drop k) = decide (a.drop (k + 1) = b.drop (k + 1)) := by
     rw [decide_eq_decide, hd]; exact ⟨fun q => q.2, fun q => ⟨he, q⟩⟩
    rw [this]
   ·rw [decide_eq_false he]
    refine st_cT rfl ?_
    rw [decide_eq_false (fun q => he (hd.1 q).1)]
  ·obtain rfl : k = a.length := by omega
   refine st_cF (decide_eq_false (by omega)) ?_
   rw [List.drop_length, List.drop_eq_nil_of_le (by omega)]; rfl
theorem Z20p {a b : List Bool} (hB : a.length < 1000000000) (ac bc : Option Nat) : Zoi [.list a.length ac (qsC a), .list b.length bc (qsC b)] = some (.v (.bool (decide (a = b)))) := by
 show Zzb M a.length ac (qsC a) b.length bc (qsC b) = _
 unfold Zzb
 by_cases hl : a.length = b.length
 ·refine st_cF (i_bnf (by omega)) ?_
  have := Z20o (m := M) hl hB ac bc M 0 (by unfold M; omega) (by omega)
  rwa [List.drop_zero, List.drop_zero] at this
 ·refine st_cT (i_bne (by omega)) ?_
  rw [decide_eq_false (fun e => hl (by rw [e]))]
theorem Nd.eq_iff (a b : Nd) : a = b ↔ a.par = b.par ∧ a.pol = b.pol ∧ a.ex = b.ex ∧ a.q = b.q := by
 cases a; cases b; simp
theorem Z1io {a b : List Cd} {k : Nat} (ha : k < a.length) (hb : k < b.length) : (nds a).drop k = (nds b).drop k ↔ a[k].n = b[k].n ∧ (nds a).drop (k + 1) = (nds b).drop (k + 1) := by
 rw [Zqp (by rw [Z1r]; exact ha) (by rw [Z1r]; exact hb), Zbf ha, Zbf hb]
theorem rdL_ex {l : List Cd} (h : CdsOk l) {i : Nat} (hi : i < l.length) : rdL (cdsC l)[i * 20 + 18]? = some ⟨l[i].n.ex.length, l[i].ec, oidsC l[i].n.ex⟩ := Zcx (Z238 h hi)
theorem rdL_q {l : List Cd} (h : CdsOk l) {i : Nat} (hi : i < l.length) : rdL (cdsC l)[i * 20 + 19]? = some ⟨l[i].n.q.length, l[i].qc, qsC l[i].n.q⟩ := Zcx (cdsC_q h hi)
theorem Z20q {m : Nat} {a b : List Cd} (ha : CdsB a) (hb : CdsB b) (hl : a.length = b.length) (ac bc : Option Nat) : ∀ (c k : Nat), a.length - k < c → k ≤ a.length →
  Zrp m c (k : Int) a.length ac (cdsC a) b.length bc (cdsC b) = some (.v (.int .i64 (b01 (decide ((nds a).drop k = (nds b).drop k)))))
 | 0, k, hc, hk => by omega
 | c + 1, k, hc, hk => by
  have hla := cdsC_len ha.ok
  have hlb := cdsC_len hb.ok
  have hBa := ha.len
  rw [Z1jz]
  simp only [Int.toNat_natCast]
  by_cases hlt : k < a.length
  ·have hlt2 : k < b.length := by omega
   have oka := ha.ok _ (List.getElem_mem hlt)
   have okb := hb.ok _ (List.getElem_mem hlt2)
   have ih := Z20q (m := m) ha hb hl ac bc c (k + 1) (by omega) (by omega)
   have hd := Z1io hlt hlt2
   rw [Nd.eq_iff] at hd
   refine st_cT (decide_eq_true (by omega)) ?_
   refine st_if (by omega) ?_
   refine Z0 (Z8u ha.ok hlt) ?_
   refine st_if (by omega) ?_
   refine Z0 (Z8u hb.ok hlt2) ?_
   by_cases h1 : a[k].n.par = b[k].n.par
   ·refine st_cF (i_bnf h1) ?_
    refine st_if (by omega) ?_
    refine st_if (by omega) ?_
    refine st_if (by omega) ?_
    refine st_if (by omega) ?_
    rw [Z143 ha.ok hlt, Z143 hb.ok hlt2]
    refine Z0 (oid_eq oka.pol okb.pol) ?_
    by_cases h2 : a[k].n.pol = b[k].n.pol
    ·rw [decide_eq_true h2]
     refine st_cF rfl ?_
     refine st_if (by omega) ?_
     refine Z0 (rdL_ex ha.ok hlt) ?_
     refine st_if (by omega) ?_
     refine Z0 (rdL_ex hb.ok hlt2) ?_
     refine Z0 (Z1cv oka.ex okb.ex (ha.ex _ (List.getElem_mem hlt)) _ _) ?_
     refine Z0 (rdI_v _ _) ?_
     by_cases h3 : a[k].n.ex = b[k].n.ex
     ·rw [decide_eq_true h3]
      refine st_cF rfl ?_
      refine st_if (by omega) ?_
      refine Z0 (rdL_q ha.ok hlt) ?_
      refine st_if (by omega) ?_
      refine Z0 (rdL_q hb.ok hlt2) ?_
      refine Z0 (Z20p (ha.q _ (List.getElem_mem hlt)) _ _) ?_
      refine Z0 (rdB_v _) ?_
      by_cases h4 : a[k].n.q = b[k].n.q
      ·rw [decide_eq_true h4]
       refine st_cF rfl ?_
       rw [Z1he, Z14 (by omega), ih]
       have : decide ((nds a).drop k = (nds b).drop k) = decide ((nds a).drop (k + 1) = (nds b).drop (k + 1)) := by
        rw [decide_eq_decide, hd]; exact ⟨fun q => q.2, fun q => ⟨⟨h1, h2, h3, h4⟩, q⟩⟩
       rw [this]
      ·rw [decide_eq_false h4]
       refine st_cT rfl ?_
       rw [decide_eq_false (fun q => h4 (hd.1 q).1.2.2.2)]; rfl
     ·rw [decide_eq_false h3]
      refine st_cT rfl ?_
      rw [decide_eq_false (fun q => h3 (hd.1 q).1.2.2.1)]; rfl
    ·rw [decide_eq_false h2]
     refine st_cT rfl ?_
     rw [decide_eq_false (fun q => h2 (hd.1 q).1.2.1)]; rfl
   ·refine st_cT (i_bne h1) ?_
    rw [decide_eq_false (fun q => h1 (hd.1 q).1.1)]; rfl
  ·obtain rfl : k = a.length := by omega
   refine st_cF (decide_eq_false (by omega)) ?_
   rw [List.drop_eq_nil_of_le (by rw [Z1r]; omega), List.drop_eq_nil_of_le (by rw [Z1r]; omega)]; rfl
theorem Z1ve {a b : List Cd} (ha : CdsB a) (hb : CdsB b) (ac bc : Option Nat) : Z52 [.agg [.list a.length ac (cdsC a)], .agg [.list b.length bc (cdsC b)]] = some (.v (.int .i64 (b01 (decide (nds a = nds b))))) := by
 show Zzc M a.length ac (cdsC a) b.length bc (cdsC b) = _
 unfold Zzc
 by_cases hl : a.length = b.length
 ·refine st_cF (i_bnf (by omega)) ?_
  have hB := ha.len
  have := Z20q (m := M) ha hb hl ac bc M 0 (by unfold M; omega) (by omega)
  rwa [List.drop_zero, List.drop_zero] at this
 ·refine st_cT (i_bne (by omega)) ?_
  rw [decide_eq_false (fun e => hl (by rw [← Z1r, e, Z1r]))]; rfl
theorem Z1l0 {a b : List Cd} (ha : CdsB a) (hb : CdsB b) (ac : Nat) (bc : Option Nat) : Z2s [.agg [.list a.length (some ac) (cdsC a)], .agg [.list b.length bc (cdsC b)]] = some (.v (.bool (decide (nds a = nds b) && decide (ac = a.length)))) := by
 show Zze M a.length (some ac) (cdsC a) b.length bc (cdsC b) = _
 unfold Zze
 refine Z0 (Z1ve ha hb _ _) ?_
 refine Z0 (rdI_v _ _) ?_
 by_cases h : nds a = nds b
 ·rw [decide_eq_true h]
  refine st_cT rfl ?_
  show some (D.v (.bool (((ac : Nat) : Int) == ((a.length : Nat) : Int)))) = _
  by_cases h2 : ac = a.length
  ·rw [i_eq (by omega), decide_eq_true h2]; rfl
  ·rw [i_ne (by omega), decide_eq_false h2]; rfl
 ·rw [decide_eq_false h]
  refine st_cF rfl ?_
  rfl
end Go.Ev