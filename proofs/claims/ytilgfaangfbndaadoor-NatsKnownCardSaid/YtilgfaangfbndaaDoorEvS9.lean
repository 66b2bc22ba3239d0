/-
  The law ScalarsErrors in plain form: true of all bytes and all elements.
-/
import Derived.Test.YtilgfaangfbndaaDoorEvS8
import Derived.Test.YtilgfaangfbndaaDoorEvG5d
set_option linter.unusedSimpArgs false
set_option linter.unusedVariables false
set_option maxRecDepth 100000
namespace Go.Ev
open Go

/-- An element as data. -/
def elemD (cl : Int) (co : Bool) (nu : Int) (b : List Nat) (cb : Option Nat) (s : Nat) (cs : Option Nat) (ss : List D) : List D :=
  [.v (.int .u8 cl), .v (.bool co), .v (.int .u32 nu), .list b.length cb (nb b), .list s cs ss]
def tagIs (cl : Int) (co : Bool) (nu tag : Int) : Bool := cl == 0 && (co == false && (nu == tag && true))
def wrongE (cl : Int) (co : Bool) (nu : Int) (s : Nat) (tag : Int) : Int := cond (tagIs cl co nu tag) (cond (decide (0 < s)) 1 0) 9
theorem tag_eq (cl : Int) (co : Bool) (nu tag : Int) : cellsEq [.int, .bool, .int] [(D.v (.int .u8 cl)), (D.v (.bool co)), (D.v (.int .u32 nu))] [(D.v (.int .u8 (0 : Int))), (D.v (.bool false)), (D.v (.int .u32 tag))] = some (tagIs cl co nu tag) := by
  simp [cellsEq, scalarEq, tagIs]

theorem wrong_cases (cl : Int) (co : Bool) (nu : Int) (s : Nat) (tag : Int) : (tagIs cl co nu tag = false ∧ wrongE cl co nu s tag = 9) ∨ (tagIs cl co nu tag = true ∧ 0 < s ∧ wrongE cl co nu s tag = 1) ∨ (tagIs cl co nu tag = true ∧ s = 0 ∧ wrongE cl co nu s tag = 0) := by
  unfold wrongE
  by_cases ht : tagIs cl co nu tag = true
  · by_cases h : 0 < s
    · exact .inr (.inl ⟨ht, h, by simp [ht, h]⟩)
    · exact .inr (.inr ⟨ht, by omega, by simp [ht, h]⟩)
  · have : tagIs cl co nu tag = false := by simpa using ht
    exact .inl ⟨this, by simp [this]⟩

section
variable {cl : Int} {co : Bool} {nu : Int} {b : List Nat} {cb : Option Nat} {s : Nat} {cs : Option Nat} {ss : List D}

theorem sp44_eq (tag : Int) : sp44 [.agg (elemD cl co nu b cb s cs ss), .v (.int .u32 tag)] = some (.v (.int .i64 (wrongE cl co nu s tag))) := by
  rcases wrong_cases cl co nu s tag with ⟨ht, hw⟩ | ⟨ht, hs, hw⟩ | ⟨ht, hs, hw⟩
  · simp only [elemD, sp44, F44, tag_eq, Option.bind_some, ht, hw]; rfl
  · have h' : ((s : Nat) : Int) > 0 := by omega
    simp only [elemD, sp44, F44, tag_eq, Option.bind_some, ht, hw, Bool.not_true, cond_false, decide_eq_true h', cond_true]
  · subst hs; simp only [elemD, sp44, F44, tag_eq, Option.bind_some, ht, hw]; rfl

theorem sp35_eq (hb : isBy b) : sp35 [.agg (elemD cl co nu b cb s cs ss)] = some (.tup [.v (.bool (if wrongE cl co nu s 1 = 0 then (getB b).1 else false)), .v (.int .i64 (if wrongE cl co nu s 1 = 0 then (getB b).2 else wrongE cl co nu s 1))]) := by
  rcases wrong_cases cl co nu s 1 with ⟨ht, hw⟩ | ⟨ht, hs, hw⟩ | ⟨ht, hs, hw⟩
  · simp only [elemD, sp35, F35, tag_eq, Option.bind_some, ht, hw]; rfl
  · have h' : ((s : Nat) : Int) > 0 := by omega
    simp only [elemD, sp35, F35, tag_eq, Option.bind_some, ht, hw, Bool.not_true, cond_false, decide_eq_true h', cond_true]; rfl
  · subst hs
    have h' : ¬ (((0 : Nat) : Int) > 0) := by omega
    simp only [elemD, sp35, F35, tag_eq, Option.bind_some, ht, hw, Bool.not_true, cond_false, decide_eq_false h', sp28_eq b hb _ rfl, if_true]
    simp [rdT, rdB, rdI, rdL, rdA]
theorem sp25_all (hb : isBy b) (hl : b.length ≤ 100) : sp25 [.agg (elemD cl co nu b cb s cs ss)] = some (.tup [.v (.int .i64 (if wrongE cl co nu s 2 = 0 then (getI (b.map fun (x : Nat) => (x : Int))).1 else 0)), .v (.int .i64 (if wrongE cl co nu s 2 = 0 then (getI (b.map fun (x : Nat) => (x : Int))).2 else wrongE cl co nu s 2))]) := by
  have h73 := sp73_eq _ (isB_cast hb) (by simpa using hl) b.length (by simp) cb
  rw [← nb_ib] at h73
  rcases wrong_cases cl co nu s 2 with ⟨ht, hw⟩ | ⟨ht, hs, hw⟩ | ⟨ht, hs, hw⟩
  · simp only [elemD, sp25, F25, tag_eq, Option.bind_some, ht, hw]; rfl
  · have h' : ((s : Nat) : Int) > 0 := by omega
    simp only [elemD, sp25, F25, tag_eq, Option.bind_some, ht, hw, Bool.not_true, cond_false, decide_eq_true h', cond_true]; rfl
  · subst hs
    have h' : ¬ (((0 : Nat) : Int) > 0) := by omega
    simp only [elemD, sp25, F25, tag_eq, Option.bind_some, ht, hw, Bool.not_true, cond_false, decide_eq_false h', h73, if_true]
    simp [rdT, rdB, rdI, rdL, rdA]
theorem sp26_all (hb : isBy b) (hl : b.length ≤ 100) : sp26 [.agg (elemD cl co nu b cb s cs ss)] = some (.tup [.v (.int .i64 (if wrongE cl co nu s 10 = 0 then (getI (b.map fun (x : Nat) => (x : Int))).1 else 0)), .v (.int .i64 (if wrongE cl co nu s 10 = 0 then (getI (b.map fun (x : Nat) => (x : Int))).2 else wrongE cl co nu s 10))]) := by
  have h73 := sp73_eq _ (isB_cast hb) (by simpa using hl) b.length (by simp) cb
  rw [← nb_ib] at h73
  rcases wrong_cases cl co nu s 10 with ⟨ht, hw⟩ | ⟨ht, hs, hw⟩ | ⟨ht, hs, hw⟩
  · simp only [elemD, sp26, F26, tag_eq, Option.bind_some, ht, hw]; rfl
  · have h' : ((s : Nat) : Int) > 0 := by omega
    simp only [elemD, sp26, F26, tag_eq, Option.bind_some, ht, hw, Bool.not_true, cond_false, decide_eq_true h', cond_true]; rfl
  · subst hs
    have h' : ¬ (((0 : Nat) : Int) > 0) := by omega
    simp only [elemD, sp26, F26, tag_eq, Option.bind_some, ht, hw, Bool.not_true, cond_false, decide_eq_false h', h73, if_true]
    simp [rdT, rdB, rdI, rdL, rdA]
def natsOf (cl : Int) (co : Bool) (nu : Int) (s : Nat) (b : List Nat) : List Nat × Int := if wrongE cl co nu s 2 = 0 then getN b else ([], wrongE cl co nu s 2)
theorem sp42_all (hb : isBy b) (hl : b.length ≤ 100) : sp42 [.agg (elemD cl co nu b cb s cs ss)] = some (.tup [.list (natsOf cl co nu s b).1.length (some (natsOf cl co nu s b).1.length) (nb (natsOf cl co nu s b).1), .v (.int .i64 (natsOf cl co nu s b).2)]) := by
  have h77 := sp77_eq b hb _ rfl (by omega) cb
  rcases wrong_cases cl co nu s 2 with ⟨ht, hw⟩ | ⟨ht, hs, hw⟩ | ⟨ht, hs, hw⟩
  · simp only [elemD, sp42, F42, tag_eq, Option.bind_some, ht, hw, natsOf]; rfl
  · have h' : ((s : Nat) : Int) > 0 := by omega
    simp only [elemD, sp42, F42, tag_eq, Option.bind_some, ht, hw, natsOf, Bool.not_true, cond_false, decide_eq_true h', cond_true]; rfl
  · subst hs
    have h' : ¬ (((0 : Nat) : Int) > 0) := by omega
    simp only [elemD, sp42, F42, tag_eq, Option.bind_some, ht, hw, natsOf, Bool.not_true, cond_false, decide_eq_false h', h77, if_true]
    simp [rdT, rdB, rdI, rdL, rdA]
def nullE (w : Int) (b : List Nat) : Int := if w = 0 then (if 0 < b.length then 11 else 0) else w
theorem sp80_eq (n : Nat) (c : Option Nat) (l : List D) : sp80 [.list n c l] = some (.tup [.agg [], .v (.int .i64 (if 0 < n then 11 else 0))]) := by
  simp only [sp80, F80]
  by_cases h : 0 < n
  · rw [decide_eq_true (by omega), cond_true, if_pos h]
  · rw [decide_eq_false (by omega), cond_false, if_neg h]
theorem sp38_eq : sp38 [.agg (elemD cl co nu b cb s cs ss)] = some (.v (.int .i64 (nullE (wrongE cl co nu s 5) b))) := by
  rcases wrong_cases cl co nu s 5 with ⟨ht, hw⟩ | ⟨ht, hs, hw⟩ | ⟨ht, hs, hw⟩
  · simp only [elemD, sp38, F38, tag_eq, Option.bind_some, ht, hw, nullE]; rfl
  · have h' : ((s : Nat) : Int) > 0 := by omega
    simp only [elemD, sp38, F38, tag_eq, Option.bind_some, ht, hw, nullE, Bool.not_true, cond_false, decide_eq_true h', cond_true]; rfl
  · subst hs
    have h' : ¬ (((0 : Nat) : Int) > 0) := by omega
    simp only [elemD, sp38, F38, tag_eq, Option.bind_some, ht, hw, nullE, Bool.not_true, cond_false, decide_eq_false h', sp80_eq, if_true]
    simp [rdT, rdB, rdI, rdL, rdA]

theorem err_j31 (x e : Int) : F7_7_j31 M e e x x cl co nu b.length cb (nb b) s cs ss = some (.v (.bool true)) := by
  have h44 := sp44_eq (cl := cl) (co := co) (nu := nu) (b := b) (cb := cb) (s := s) (cs := cs) (ss := ss) 5
  have h38 := sp38_eq (cl := cl) (co := co) (nu := nu) (b := b) (cb := cb) (s := s) (cs := cs) (ss := ss)
  simp only [elemD] at h44 h38
  have j34 : ∀ w, w = nullE (wrongE cl co nu s 5) b → F7_7_j34 M e e x x w cl co nu b.length cb (nb b) s cs ss = some (.v (.bool true)) := fun w hw => by
    rw [F7_7_j34_e, h38, hw]
    simp only [beq_self_eq_true, cond_true, Option.bind_some, rdI64]
    exact lives_plain _
  rw [F7_7_j31_e, h44]
  simp only [Option.bind_some, rdI64]
  by_cases h0 : wrongE cl co nu s 5 = 0
  · rw [h0, show ((0 : Int) == 0) = true from rfl, cond_true]
    by_cases hb : 0 < b.length
    · rw [decide_eq_true (by omega), cond_true]
      exact j34 _ (by simp [nullE, h0, hb])
    · rw [decide_eq_false (by omega), cond_false]
      exact j34 _ (by simp [nullE, h0, hb])
  · rw [show (wrongE cl co nu s 5 == 0) = false by simp [h0], cond_false]
    exact j34 _ (by simp [nullE, h0])

theorem err_j26 (hb : isBy b) (hl : b.length ≤ 80) : F7_7_j26 M cl co nu b.length cb (nb b) s cs ss = some (.v (.bool true)) := by
  have h44 := sp44_eq (cl := cl) (co := co) (nu := nu) (b := b) (cb := cb) (s := s) (cs := cs) (ss := ss) 10
  have h26 := sp26_all (cl := cl) (co := co) (nu := nu) (b := b) (cb := cb) (s := s) (cs := cs) (ss := ss) hb (by omega)
  have h31 := sp31_eq _ (isB_cast hb) (by simp; omega) b.length (by simp) cb
  rw [← nb_ib] at h31
  simp only [elemD] at h44 h26
  rw [F7_7_j26_e, h26, h31, h44]
  simp only [Option.bind_some, rdT, List.length_cons, List.length_nil, List.getElem?_cons_zero, List.getElem?_cons_succ, rdI64, if_true]
  by_cases h0 : wrongE cl co nu s 10 = 0
  · rw [h0, show ((0 : Int) != 0) = false from rfl, cond_false]
    simp only [if_true]
    exact err_j31 _ _
  · rw [show (wrongE cl co nu s 10 != 0) = true by simp [h0], cond_true, if_neg h0, if_neg h0]
    exact err_j31 _ _

theorem err_j23 (hb : isBy b) (hl : b.length ≤ 80) (x e : Int) (c : Option Nat) : F7_7_j23 M e e x x (natsOf cl co nu s b).1.length c (nb (natsOf cl co nu s b).1) (natsOf cl co nu s b).2 cl co nu b.length cb (nb b) s cs ss = some (.v (.bool true)) := by
  have h42 := sp42_all (cl := cl) (co := co) (nu := nu) (b := b) (cb := cb) (s := s) (cs := cs) (ss := ss) hb (by omega)
  simp only [elemD] at h42
  rw [F7_7_j23_e, h42]
  simp only [Option.bind_some, rdT, List.length_cons, List.length_nil, List.getElem?_cons_zero, List.getElem?_cons_succ, rdI64, rdL, if_true, bne_self_eq_false, cond_false]
  rw [sp20_nb _ _ _ rfl rfl]
  simp only [Option.bind_some, rdB, Bool.not_true, cond_false]
  exact err_j26 hb hl

theorem err_j16 (hb : isBy b) (hl : b.length ≤ 80) : F7_7_j16 M cl co nu b.length cb (nb b) s cs ss = some (.v (.bool true)) := by
  have h44 := sp44_eq (cl := cl) (co := co) (nu := nu) (b := b) (cb := cb) (s := s) (cs := cs) (ss := ss) 2
  have h25 := sp25_all (cl := cl) (co := co) (nu := nu) (b := b) (cb := cb) (s := s) (cs := cs) (ss := ss) hb (by omega)
  have h31 := sp31_eq _ (isB_cast hb) (by simp; omega) b.length (by simp) cb
  obtain ⟨c, h32⟩ := sp32_eq b hb _ rfl (by omega) cb
  rw [← nb_ib] at h31
  simp only [elemD] at h44 h25
  rw [F7_7_j16_e, h25, h31, h32, h44]
  simp only [Option.bind_some, rdT, List.length_cons, List.length_nil, List.getElem?_cons_zero, List.getElem?_cons_succ, rdI64, rdL, if_true]
  have h23 := fun x e c => err_j23 (cl := cl) (co := co) (nu := nu) (b := b) (cb := cb) (s := s) (cs := cs) (ss := ss) hb hl x e c
  by_cases h0 : wrongE cl co nu s 2 = 0
  · rw [h0, show ((0 : Int) != 0) = false from rfl, cond_false]
    simp only [if_true]
    simp only [natsOf, h0, if_true] at h23
    exact h23 _ _ _
  · rw [show (wrongE cl co nu s 2 != 0) = true by simp [h0], cond_true, if_neg h0, if_neg h0]
    simp only [natsOf, if_neg h0] at h23
    exact h23 0 _ (some 0)

theorem err_j9 (hb : isBy b) (hl : b.length ≤ 80) : F7_7_j9 M cl co nu b.length cb (nb b) s cs ss = some (.v (.bool true)) := by
  have h44 := sp44_eq (cl := cl) (co := co) (nu := nu) (b := b) (cb := cb) (s := s) (cs := cs) (ss := ss) 1
  have h35 := sp35_eq (cl := cl) (co := co) (nu := nu) (b := b) (cb := cb) (s := s) (cs := cs) (ss := ss) hb
  have h29 := sp29_eq b hb _ rfl cb
  simp only [elemD] at h44 h35
  have j14 : ∀ v e, F7_7_j14 M v e v e cl co nu b.length cb (nb b) s cs ss = some (.v (.bool true)) := fun v e => by
    rw [F7_7_j14_e]
    simp only [beq_self_eq_true, Bool.not_true, cond_false, bne_self_eq_false]
    exact err_j16 hb hl
  rw [F7_7_j9_e, h35, h29, h44]
  simp only [Option.bind_some, rdT, List.length_cons, List.length_nil, List.getElem?_cons_zero, List.getElem?_cons_succ, rdI64, rdB, if_true]
  by_cases h0 : wrongE cl co nu s 1 = 0
  · rw [h0, show ((0 : Int) != 0) = false from rfl, cond_false]
    simp only [if_true]
    exact j14 _ _
  · rw [show (wrongE cl co nu s 1 != 0) = true by simp [h0], cond_true, if_neg h0, if_neg h0]
    exact j14 _ _
end

theorem sp43_eq (l : List Nat) (n : Nat) (hn : n = l.length) (c : Option Nat) : sp43 [.list n c (nb l)] = some (.v (.int .i64 (checkN l))) := sp68_eq l n hn c

theorem sp34_bad (m : List Nat) (n : Nat) (hn : n = m.length) (c : Option Nat) (h : checkN m ≠ 0) : sp34 [.list n c (nb m)] = some (.tup [.list 0 (some 0) [], .v (.int .i64 (checkN m))]) := by
  subst hn
  simp only [sp34, F34]
  rw [sp68_eq m _ rfl]
  simp only [Option.bind_some, rdI64]
  rw [show (checkN m != 0) = true by simp [h], cond_true]

/-- ScalarsErrors. -/
theorem errors_true (l : List Nat) (hl : isBy l) (c : Option Nat) (cl : Int) (co : Bool) (nu : Int) (b : List Nat) (hb : isBy b) (cb : Option Nat) (s : Nat) (cs : Option Nat) (ss : List D) : F7 M l.length c (nb l) cl co nu b.length cb (nb b) s cs ss = some (.v (.bool true)) := by
  simp only [F7]
  by_cases h1 : 80 < l.length
  · rw [decide_eq_true (by omega), cond_true]
    exact lives_plain _
  rw [decide_eq_false (by omega), cond_false]
  by_cases h2 : 80 < b.length
  · rw [decide_eq_true (by omega), cond_true]
    exact lives_plain _
  rw [decide_eq_false (by omega), cond_false]
  have h9 := err_j9 (cl := cl) (co := co) (nu := nu) (b := b) (cb := cb) (s := s) (cs := cs) (ss := ss) hb (by omega)
  rw [F7_7_j3_e, sp43_eq l _ rfl]
  simp only [Option.bind_some, rdI64]
  by_cases h0 : checkN l = 0
  · rw [h0, show ((0 : Int) != 0) = false from rfl, cond_false]
    exact h9
  · have h34 := sp34_bad l _ rfl c h0
    have hne : (checkN l != 0) = true := by simp [h0]
    have h41 : sp41 [.list l.length c (nb l)] = some (.tup [.agg (elem 0 0 (some 0) []), .v (.int .i64 (checkN l))]) := by
      simp only [sp41, F41]
      rw [h34]
      simp only [Option.bind_some, rdT, List.length_cons, List.length_nil, List.getElem?_cons_zero, List.getElem?_cons_succ, rdI64, rdL, if_true]
      rw [hne, cond_true]
      rfl
    have h20 : sp20 [.list 0 (some 0) [], .v (.int .i64 (checkN l)), .list 0 (some 0) [], .v (.int .i64 (checkN l))] = some (.v (.bool true)) := sp20_nb [] 0 0 rfl rfl (some 0) (checkN l)
    rw [hne, cond_true, h34, h41]
    simp only [Option.bind_some, rdT, List.length_cons, List.length_nil, List.getElem?_cons_zero, List.getElem?_cons_succ, rdI64, rdL, rdA, if_true]
    rw [if_pos (by rfl), h20]
    simp only [Option.bind_some, rdB, Bool.not_true, cond_false, bne_self_eq_false]
    exact h9
end Go.Ev
