/-
 Lists of policies, of qualifiers, of nodes held against each other.
-/
import Derived.Test.YtkefahdbckjajaaGreatDoorEzU1
import Derived.Test.YtkefahdbckjajaaGreatDoorEzGa
set_option linter.unusedSimpArgs false
set_option linter.unusedVariables false
set_option maxRecDepth 100000
namespace Go.Ev
open Go
theorem Zvl {α : Type} {a b : List α} {k : Nat} (ha : k < a.length) (hb : k < b.length) : a.drop k = b.drop k ↔ a[k] = b[k] ∧ a.drop (k + 1) = b.drop (k + 1) := by
 rw [List.drop_eq_getElem_cons ha, List.drop_eq_getElem_cons hb, List.cons.injEq]
theorem Z1kh {m : Nat} {a b : List Oid} (ha : ∀ x, x ∈ a → x.ok) (hb : ∀ x, x ∈ b → x.ok) (hl : a.length = b.length) (hB : a.length < 1000000000) (ac bc : Option Nat) : ∀ (c k : Nat), a.length - k < c → k ≤ a.length →
  Zfp m c a.length ac (oidsC a) b.length bc (oidsC b) (k : Int) = some (.v (.int .i64 (b01 (decide (a.drop k = b.drop k)))))
 | 0, k, hc, hk => by omega
 | c + 1, k, hc, hk => by
  have hla := Znl ha
  have hlb := Znl hb
  rw [Z12a]
  simp only [Int.toNat_natCast]
  by_cases hlt : k < a.length
  ·have hlt2 : k < b.length := by omega
   have ih := Z1kh (m := m) ha hb hl hB ac bc c (k + 1) (by omega) (by omega)
   have hd := Zvl hlt hlt2
   refine st_cT (decide_eq_true (by omega)) ?_
   refine st_if (by omega) ?_
   refine st_if (by omega) ?_
   refine st_if (by omega) ?_
   refine st_if (by omega) ?_
   rw [Zqj ha hlt, Zqj hb hlt2]
   refine Z0 (oid_eq (ha _ (List.getElem_mem hlt)) (hb _ (List.getElem_mem hlt2))) ?_
   by_cases he : a[k] = b[k]
   ·rw [decide_eq_true he]
    refine st_cF rfl ?_
    rw [Zu (by omega), ih]
    have : decide (a.drop k = b.drop k) = decide (a.drop (k + 1) = b.drop (k + 1)) := by
     rw [decide_eq_decide, hd]; exact ⟨fun q => q.2, fun q => ⟨he, q⟩⟩
    rw [this]
   ·rw [decide_eq_false he]
    refine st_cT rfl ?_
    rw [decide_eq_false (fun q => he (hd.1 q).1)]; rfl
  ·obtain rfl : k = a.length := by omega
   refine st_cF (decide_eq_false (by omega)) ?_
   rw [List.drop_length, List.drop_eq_nil_of_le (by omega)]; rfl
theorem Z1bn {a b : List Oid} (ha : ∀ x, x ∈ a → x.ok) (hb : ∀ x, x ∈ b → x.ok) (hB : a.length < 1000000000) (ac bc : Option Nat) : Z7m [.list a.length ac (oidsC a), .list b.length bc (oidsC b)] = some (.v (.int .i64 (b01 (decide (a = b))))) := by
 show Zkm M a.length ac (oidsC a) b.length bc (oidsC b) = _
 unfold Zkm
 by_cases hl : a.length = b.length
 ·refine st_cF (i_bnf (by omega)) ?_
  have := Z1kh (m := M) ha hb hl hB ac bc M 0 (by unfold M; omega) (by omega)
  rwa [List.drop_zero, List.drop_zero] at this
 ·refine st_cT (i_bne (by omega)) ?_
  rw [decide_eq_false (fun e => hl (by rw [e]))]; rfl
theorem qeq_t : Z6u [.agg (qC true), .agg (qC true)] = some (.v (.bool true)) := by kernel_rfl
theorem qeq_f : Z6u [.agg (qC false), .agg (qC false)] = some (.v (.bool true)) := by kernel_rfl
theorem qeq_tf : Z6u [.agg (qC true), .agg (qC false)] = some (.v (.bool false)) := by kernel_rfl
theorem qeq_ft : Z6u [.agg (qC false), .agg (qC true)] = some (.v (.bool false)) := by kernel_rfl
theorem Z1lo (x y : Bool) : Z6u [.agg (qC x), .agg (qC y)] = some (.v (.bool (decide (x = y)))) := by
 cases x <;> cases y
 ·exact qeq_f
 ·exact qeq_ft
 ·exact qeq_tf
 ·exact qeq_t
theorem Z1n4 {m : Nat} {a b : List Bool} (hl : a.length = b.length) (hB : a.length < 1000000000) (ac bc : Option Nat) : ∀ (c k : Nat), a.length - k < c → k ≤ a.length →
  Zmi m c a.length ac (qsC a) b.length bc (qsC b) (k : Int) = some (.v (.bool (decide (a.drop k = b.drop k))))
 | 0, k, hc, hk => by omega
 | c + 1, k, hc, hk => by
  have hla := Z161 a
  have hlb := Z161 b
  rw [Z18g]
  simp only [Int.toNat_natCast]
  by_cases hlt : k < a.length
  ·have hlt2 : k < b.length := by omega
   have ih := Z1n4 (m := m) hl hB ac bc c (k + 1) (by omega) (by omega)
   have hd := Zvl hlt hlt2
   refine st_cT (decide_eq_true (by omega)) ?_
   refine st_if (by omega) ?_
   refine st_if (by omega) ?_
   refine st_if (by omega) ?_
   refine st_if (by omega) ?_
   rw [Z1ao hlt, Z1ao hlt2]
   refine Z0 (Z1lo _ _) ?_
   refine Z0 (rdB_v _) ?_
   by_cases he : a[k] = b[k]
   ·rw [decide_eq_true he]
    refine st_cF rfl ?_
    rw [Zu (by omega), ih]
    have : decide (a.drop k = b.drop k) = decide (a.drop (k + 1) = b.drop (k + 1)) := by
     rw [decide_eq_decide, hd]; exact ⟨fun q => q.2, fun q => ⟨he, q⟩⟩
    rw [this]
   ·rw [decide_eq_false he]
    refine st_cT rfl ?_
    rw [decide_eq_false (fun q => he (hd.1 q).1)]
  ·obtain rfl : k = a.length := by omega
   refine st_cF (decide_eq_false (by omega)) ?_
   rw [List.drop_length, List.drop_eq_nil_of_le (by omega)]; rfl
theorem Z1n5 {a b : List Bool} (hB : a.length < 1000000000) (ac bc : Option Nat) : Zkn [.list a.length ac (qsC a), .list b.length bc (qsC b)] = some (.v (.bool (decide (a = b)))) := by
 show Zsc M a.length ac (qsC a) b.length bc (qsC b) = _
 unfold Zsc
 by_cases hl : a.length = b.length
 ·refine st_cF (i_bnf (by omega)) ?_
  have := Z1n4 (m := M) hl hB ac bc M 0 (by unfold M; omega) (by omega)
  rwa [List.drop_zero, List.drop_zero] at this
 ·refine st_cT (i_bne (by omega)) ?_
  rw [decide_eq_false (fun e => hl (by rw [e]))]
theorem Nd.eq_iff (a b : Nd) : a = b ↔ a.par = b.par ∧ a.pol = b.pol ∧ a.ex = b.ex ∧ a.q = b.q := by
 cases a; cases b; simp
theorem Z1ic {a b : List Cd} {k : Nat} (ha : k < a.length) (hb : k < b.length) : (nds a).drop k = (nds b).drop k ↔ a[k].n = b[k].n ∧ (nds a).drop (k + 1) = (nds b).drop (k + 1) := by
 rw [Zvl (by rw [Zy]; exact ha) (by rw [Zy]; exact hb), Z6g ha, Z6g hb]
theorem rdL_ex {l : List Cd} (h : CdsOk l) {i : Nat} (hi : i < l.length) : rdL (cdsC l)[i * 20 + 18]? = some ⟨l[i].n.ex.length, l[i].ec, oidsC l[i].n.ex⟩ := Zqp (Z1pj h hi)
theorem rdL_q {l : List Cd} (h : CdsOk l) {i : Nat} (hi : i < l.length) : rdL (cdsC l)[i * 20 + 19]? = some ⟨l[i].n.q.length, l[i].qc, qsC l[i].n.q⟩ := Zqp (cdsC_q h hi)
theorem Z1n6 {m : Nat} {a b : List Cd} (ha : CdsB a) (hb : CdsB b) (hl : a.length = b.length) (ac bc : Option Nat) : ∀ (c k : Nat), a.length - k < c → k ≤ a.length →
  Zmj m c (k : Int) a.length ac (cdsC a) b.length bc (cdsC b) = some (.v (.int .i64 (b01 (decide ((nds a).drop k = (nds b).drop k)))))
 | 0, k, hc, hk => by omega
 | c + 1, k, hc, hk => by
  have hla := cdsC_len ha.ok
  have hlb := cdsC_len hb.ok
  have hBa := ha.len
  rw [Z18h]
  simp only [Int.toNat_natCast]
  by_cases hlt : k < a.length
  ·have hlt2 : k < b.length := by omega
   have oka := ha.ok _ (List.getElem_mem hlt)
   have okb := hb.ok _ (List.getElem_mem hlt2)
   have ih := Z1n6 (m := m) ha hb hl ac bc c (k + 1) (by omega) (by omega)
   have hd := Z1ic hlt hlt2
   rw [Nd.eq_iff] at hd
   refine st_cT (decide_eq_true (by omega)) ?_
   refine st_if (by omega) ?_
   refine Z0 (Z6l ha.ok hlt) ?_
   refine st_if (by omega) ?_
   refine Z0 (Z6l hb.ok hlt2) ?_
   by_cases h1 : a[k].n.par = b[k].n.par
   ·refine st_cF (i_bnf h1) ?_
    refine st_if (by omega) ?_
    refine st_if (by omega) ?_
    refine st_if (by omega) ?_
    refine st_if (by omega) ?_
    rw [Zzg ha.ok hlt, Zzg hb.ok hlt2]
    refine Z0 (oid_eq oka.pol okb.pol) ?_
    by_cases h2 : a[k].n.pol = b[k].n.pol
    ·rw [decide_eq_true h2]
     refine st_cF rfl ?_
     refine st_if (by omega) ?_
     refine Z0 (rdL_ex ha.ok hlt) ?_
     refine st_if (by omega) ?_
     refine Z0 (rdL_ex hb.ok hlt2) ?_
     refine Z0 (Z1bn oka.ex okb.ex (ha.ex _ (List.getElem_mem hlt)) _ _) ?_
     refine Z0 (rdI_v _ _) ?_
     by_cases h3 : a[k].n.ex = b[k].n.ex
     ·rw [decide_eq_true h3]
      refine st_cF rfl ?_
      refine st_if (by omega) ?_
      refine Z0 (rdL_q ha.ok hlt) ?_
      refine st_if (by omega) ?_
      refine Z0 (rdL_q hb.ok hlt2) ?_
      refine Z0 (Z1n5 (ha.q _ (List.getElem_mem hlt)) _ _) ?_
      refine Z0 (rdB_v _) ?_
      by_cases h4 : a[k].n.q = b[k].n.q
      ·rw [decide_eq_true h4]
       refine st_cF rfl ?_
       rw [Z16h, Zu (by omega), ih]
       have : decide ((nds a).drop k = (nds b).drop k) = decide ((nds a).drop (k + 1) = (nds b).drop (k + 1)) := by
        rw [decide_eq_decide, hd]; exact ⟨fun q => q.2, fun q => ⟨⟨h1, h2, h3, h4⟩, q⟩⟩
       rw [this]
      ·rw [decide_eq_false h4]
       refine st_cT rfl ?_
       rw [decide_eq_false (fun q => h4 (hd.1 q).1.2.2.2)]; rfl
     ·rw [decide_eq_false h3]
      refine st_cT rfl ?_
      rw [decide_eq_false (fun q => h3 (hd.1 q).1.2.2.1)]; rfl
    ·rw [decide_eq_false h2]
     refine st_cT rfl ?_
     rw [decide_eq_false (fun q => h2 (hd.1 q).1.2.1)]; rfl
   ·refine st_cT (i_bne h1) ?_
    rw [decide_eq_false (fun q => h1 (hd.1 q).1.1)]; rfl
  ·obtain rfl : k = a.length := by omega
   refine st_cF (decide_eq_false (by omega)) ?_
   rw [List.drop_eq_nil_of_le (by rw [Zy]; omega), List.drop_eq_nil_of_le (by rw [Zy]; omega)]; rfl
theorem Z14q {a b : List Cd} (ha : CdsB a) (hb : CdsB b) (ac bc : Option Nat) : Z38 [.agg [.list a.length ac (cdsC a)], .agg [.list b.length bc (cdsC b)]] = some (.v (.int .i64 (b01 (decide (nds a = nds b))))) := by
 show Zsd M a.length ac (cdsC a) b.length bc (cdsC b) = _
 unfold Zsd
 by_cases hl : a.length = b.length
 ·refine st_cF (i_bnf (by omega)) ?_
  have hB := ha.len
  have := Z1n6 (m := M) ha hb hl ac bc M 0 (by unfold M; omega) (by omega)
  rwa [List.drop_zero, List.drop_zero] at this
 ·refine st_cT (i_bne (by omega)) ?_
  rw [decide_eq_false (fun e => hl (by rw [← Zy, e, Zy]))]; rfl
theorem Z1ki {a b : List Cd} (ha : CdsB a) (hb : CdsB b) (ac : Nat) (bc : Option Nat) : Z49 [.agg [.list a.length (some ac) (cdsC a)], .agg [.list b.length bc (cdsC b)]] = some (.v (.bool (decide (nds a = nds b) && decide (ac = a.length)))) := by
 show Zsi M a.length (some ac) (cdsC a) b.length bc (cdsC b) = _
 unfold Zsi
 refine Z0 (Z14q ha hb _ _) ?_
 refine Z0 (rdI_v _ _) ?_
 by_cases h : nds a = nds b
 ·rw [decide_eq_true h]
  refine st_cT rfl ?_
  show some (D.v (.bool (((ac : Nat) : Int) == ((a.length : Nat) : Int)))) = _
  by_cases h2 : ac = a.length
  ·rw [i_eq (by omega), decide_eq_true h2]; rfl
  ·rw [i_ne (by omega), decide_eq_false h2]; rfl
 ·rw [decide_eq_false h]
  refine st_cF rfl ?_
  rfl
theorem Z1id {m : Nat} {a b : List Int} (hl : a.length = b.length) (hB : a.length < 1000000000) (ac bc : Option Nat) : ∀ (c k : Nat), a.length - k < c → k ≤ a.length →
  Zmk m c a.length ac (ints a) b.length bc (ints b) (k : Int) = some (.v (.bool (decide (a.drop k = b.drop k))))
 | 0, k, hc, hk => by omega
 | c + 1, k, hc, hk => by
  rw [Z18l]
  simp only [Int.toNat_natCast, Nat.mul_one]
  by_cases hlt : k < a.length
  ·have hlt2 : k < b.length := by omega
   have ih := Z1id (m := m) hl hB ac bc c (k + 1) (by omega) (by omega)
   have hd := Zvl hlt hlt2
   have hga : a.getD k 0 = a[k] := by simp [hlt]
   have hgb : b.getD k 0 = b[k] := by simp [hlt2]
   refine st_cT (decide_eq_true (by omega)) ?_
   refine st_if (by omega) ?_
   refine Z0 ((Zk5 hlt).trans (by rw [hga])) ?_
   refine st_if (by omega) ?_
   refine Z0 ((Zk5 hlt2).trans (by rw [hgb])) ?_
   by_cases he : a[k] = b[k]
   ·refine st_cF (i_bnf he) ?_
    rw [Zu (by omega), ih]
    have : decide (a.drop k = b.drop k) = decide (a.drop (k + 1) = b.drop (k + 1)) := by
     rw [decide_eq_decide, hd]; exact ⟨fun q => q.2, fun q => ⟨he, q⟩⟩
    rw [this]
   ·refine st_cT (i_bne he) ?_
    rw [decide_eq_false (fun q => he (hd.1 q).1)]
  ·obtain rfl : k = a.length := by omega
   refine st_cF (decide_eq_false (by omega)) ?_
   rw [List.drop_length, List.drop_eq_nil_of_le (by omega)]; rfl
theorem Zzl {a b : List Int} (hB : a.length < 1000000000) (ac : Nat) (bc : Option Nat) : Z1f [.list a.length (some ac) (ints a), .list b.length bc (ints b)] = some (.v (.bool (decide (ac = a.length) && decide (a = b)))) := by
 show Zsh M a.length (some ac) (ints a) b.length bc (ints b) = _
 unfold Zsh
 by_cases hl : a.length = b.length
 ·refine st_cF (i_bnf (by omega)) ?_
  show cond (((ac : Nat) : Int) != ((a.length : Nat) : Int)) _ _ = _
  by_cases hc : ac = a.length
  ·refine st_cF (i_bnf (by omega)) ?_
   rw [Z16l, decide_eq_true hc, Bool.true_and]
   have := Z1id (m := M) hl hB (some ac) bc M 0 (by unfold M; omega) (by omega)
   rwa [List.drop_zero, List.drop_zero] at this
  ·refine st_cT (i_bne (by omega)) ?_
   rw [decide_eq_false hc]; rfl
 ·refine st_cT (i_bne (by omega)) ?_
  rw [decide_eq_false (fun e => hl (by rw [e]) : ¬ a = b), Bool.and_false]
end Go.Ev