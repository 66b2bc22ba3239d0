/-
  The operations that only reckon: numbers, bools, strings, comparisons.
-/
import Derived.Test.YtilgfaangfbndaaDoorEvOps
import Derived.Laws.StructEq
import Derived.ChangeKeysEq
set_option linter.unusedSimpArgs false
set_option linter.unusedVariables false
namespace Go.Ev
open Go Go.RowKit
variable {R : Type} {P : Program} {w : World} {ok : Nat → Prop} {E : Env}

theorem RepD.v_inv {u x : Value} (h : RepD w ok u (.v x)) : u = x ∧ leaf x = true := by cases h; exact ⟨rfl, by assumption⟩
theorem Rep.v_inv {u x : Value} (h : Rep E w ok u (.d (.v x))) : u = x ∧ leaf x = true := by cases h with | d h => exact h.v_inv
theorem Rep.ofV {x : Value} (h : leaf x = true) : Rep E w ok x (.d (.v x)) := .d (.v h)

theorem eqGuard_ints {op : BinOp} {t : TypeId} {xo yo : Operand} {k k' : IntKind} {a b : Int} : (eqGuard op t xo yo (.int k a) (.int k' b)).run P w = .ok () w := by
  unfold eqGuard; cases op <;> simp
theorem eqGuard_bools {op : BinOp} {t : TypeId} {xo yo : Operand} {a b : Bool} : (eqGuard op t xo yo (.bool a) (.bool b)).run P w = .ok () w := by
  unfold eqGuard; cases op <;> simp
theorem eqGuard_strs {op : BinOp} {t : TypeId} {xo yo : Operand} {a b : ByteArray} : (eqGuard op t xo yo (.string a) (.string b)).run P w = .ok () w := by
  unfold eqGuard; cases op <;> simp

theorem shiftK_sound {op : BinOp} {k : IntKind} {a b : Int} {g : Value → Option R} {r : R} (h : shiftK op k a b g = some r) {t : TypeId} :
    ∃ v, g v = some r ∧ leaf v = true ∧ ∀ (yk : IntKind) (w : World), (binOp op t (.int k a) (.int yk b)).run P w = .ok v w := by
  unfold shiftK at h
  split at h
  · cases h
  · rename_i hb
    cases op <;> simp only at h <;> try (cases h; done)
    · exact ⟨_, h, rfl, fun yk w => by simp [binOp, Op.shift, hb]⟩
    · exact ⟨_, h, rfl, fun yk w => by simp [binOp, Op.shift, hb]⟩

theorem intD_sound {op : BinOp} {k : IntKind} {a b : Int} {g : Value → Option R} {r : R} (h : intD op k a b g = some r) (h1 : op ≠ .shl) (h2 : op ≠ .shr) {t : TypeId} :
    ∃ v, g v = some r ∧ leaf v = true ∧ ∀ w, (binOp op t (.int k a) (.int k b)).run P w = .ok v w := by
  cases op <;> simp only [intD] at h
  case shl => exact absurd rfl h1
  case shr => exact absurd rfl h2
  case quo =>
    split at h
    · cases h
    · rename_i hb; exact ⟨_, h, rfl, fun w => by simp [binOp, Op.intDiv, hb]⟩
  case rem =>
    split at h
    · cases h
    · rename_i hb; exact ⟨_, h, rfl, fun w => by simp [binOp, Op.intDiv, hb]⟩
  all_goals exact ⟨_, h, rfl, fun w => by simp [binOp, Op.intArith, Op.intBits, Op.intCmp]⟩

theorem strD_sound {op : BinOp} {a b : ByteArray} {g : Value → Option R} {r : R} (h : strD op a b g = some r) {t : TypeId} :
    ∃ v, g v = some r ∧ leaf v = true ∧ ∀ w, (binOp op t (.string a) (.string b)).run P w = .ok v w := by
  cases op <;> simp only [strD] at h
  case add =>
    split at h
    · rename_i hs
      refine ⟨_, h, rfl, fun w => ?_⟩
      have : ¬ ((a.size + b.size : Nat) : Int) > IntKind.i64.max := by
        have : IntKind.i64.max = 9223372036854775807 := by decide
        omega
      simp only [binOp, Op.stringOp]
      rw [if_neg this]; rfl
    · cases h
  all_goals first
    | (cases h; done)
    | exact ⟨_, h, rfl, fun w => by simp [binOp, Op.stringOp]⟩

/-! ### Rows compared -/
def valEq : Kd → Value → Value → Option Bool
  | .int, .int k a, .int k' b => if k = k' then some (a == b) else none
  | .bool, .bool a, .bool b => some (a == b)
  | .str, .string a, .string b => some (a.toList == b.toList)
  | _, _, _ => none
def valsEq : List Kd → List Value → List Value → Option Bool
  | [], [], [] => some true
  | q :: ks, x :: xs, y :: ys => (valEq q x y).bind fun b => (valsEq ks xs ys).bind fun c => some (b && c)
  | _, _, _ => none

theorem valsEq_len : ∀ {ks : List Kd} {xs ys : List Value} {b : Bool}, valsEq ks xs ys = some b → xs.length = ks.length ∧ ys.length = ks.length
  | [], [], [], _, _ => ⟨rfl, rfl⟩
  | q :: ks, x :: xs, y :: ys, b, h => by
    simp only [valsEq] at h
    obtain ⟨_, _, h⟩ := Option.bind_eq_some_iff.1 h
    obtain ⟨_, h, _⟩ := Option.bind_eq_some_iff.1 h
    have := valsEq_len h
    simp [this]
  | [], [], _ :: _, _, h | [], _ :: _, _, _, h | _ :: _, [], _, _, h | _ :: _, _ :: _, [], _, h => by simp [valsEq] at h

theorem valsEq_append : ∀ {k1 k2 : List Kd} {xs ys : List Value} {b : Bool}, valsEq (k1 ++ k2) xs ys = some b →
    ∃ b1 b2, valsEq k1 (xs.take k1.length) (ys.take k1.length) = some b1 ∧ valsEq k2 (xs.drop k1.length) (ys.drop k1.length) = some b2 ∧ b = (b1 && b2)
  | [], k2, xs, ys, b, h => ⟨true, b, by simp [valsEq], by simpa using h, by simp⟩
  | q :: k1, k2, x :: xs, y :: ys, b, h => by
    simp only [List.cons_append, valsEq] at h
    obtain ⟨c, hc, h⟩ := Option.bind_eq_some_iff.1 h
    obtain ⟨d, hd, h⟩ := Option.bind_eq_some_iff.1 h
    cases h
    obtain ⟨b1, b2, h1, h2, rfl⟩ := valsEq_append hd
    exact ⟨c && b1, b2, by simp [valsEq, hc, h1], by simpa using h2, by simp [Bool.and_assoc]⟩
  | _ :: _, _, [], _, _, h => by simp [valsEq] at h
  | _ :: _, _, _ :: _, [], _, h => by simp [valsEq] at h

theorem valsEq_of_cells : ∀ {ks : List Kd} {ds es : List D} {b : Bool} {xs ys : List Value}, cellsEq ks ds es = some b → xs.length = ds.length → ys.length = es.length →
    PW (RepD w ok) xs ds → PW (RepD w ok) ys es → valsEq ks xs ys = some b
  | [], [], [], b, xs, ys, h, hx, hy, _, _ => by
    simp at hx hy; subst hx; subst hy; simpa [cellsEq, valsEq] using h
  | q :: ks, d :: ds, e :: es, b, xs, ys, h, hx, hy, px, py => by
    simp only [cellsEq] at h
    obtain ⟨c, hc, h⟩ := Option.bind_eq_some_iff.1 h
    obtain ⟨b', hd, h⟩ := Option.bind_eq_some_iff.1 h
    cases h
    match xs, ys, hx, hy with
    | x :: xs, y :: ys, hx, hy =>
      have hx0 := px 0 d rfl
      have hy0 := py 0 e rfl
      simp at hx0 hy0
      have := valsEq_of_cells (xs := xs) (ys := ys) hd (by simpa using hx) (by simpa using hy) (fun j a ha => by simpa using px (j + 1) a (by simpa using ha)) (fun j a ha => by simpa using py (j + 1) a (by simpa using ha))
      have hh : valEq q x y = some c := by
        cases q <;> cases d <;> simp only [scalarEq] at hc <;> try (cases hc; done)
        all_goals
          rename_i u
          cases e <;> try (cases u <;> simp at hc; done)
          rename_i u'
          obtain ⟨rfl, _⟩ := hx0.v_inv
          obtain ⟨rfl, _⟩ := hy0.v_inv
          cases x <;> try (simp at hc; done)
          all_goals (cases y <;> first | (simp at hc; done) | simpa [valEq] using hc)
      simp [valsEq, hh, this]
  | [], [], _ :: _, _, _, _, h, _, _, _, _ | [], _ :: _, _, _, _, _, h, _, _, _, _ | _ :: _, [], _, _, _, _, h, _, _, _, _ | _ :: _, _ :: _, [], _, _, _, h, _, _, _, _ => by simp [cellsEq] at h


/-- The value with these cells. -/
def whole (d : TypeDesc) (cs : List Value) : Value := if isRow d then .agg cs.toArray else cs.headD undef

theorem ext_eq {α : Type} (cs : Array α) (off s : Nat) (h : off + s ≤ cs.size) : cs.extract off (off + s) = ((cs.toList.drop off).take s).toArray := by
  apply Array.ext
  · simp; omega
  · intro i h1 h2
    simp

theorem run_part {t : TypeId} {d : TypeDesc} {s : Nat} (hu : P.underlying t = some d) (hi : (P.info? t).map (·.size) = some s) {cs : Array Value} {off : Nat} (h1 : isRow d = false → s = 1) (hfit : off + s ≤ cs.size) (w : World) :
    (part t cs off).run P w = .ok (whole d ((cs.toList.drop off).take s)) w := by
  cases hq : P.info? t with
  | none => rw [hq] at hi; cases hi
  | some i =>
    rw [hq] at hi
    have hs : i.size = s := by simpa using hi
    unfold part whole
    cases hr : isRow d with
    | true =>
      simp only [Sem.run_bind, run_isAgg hu, hr, Result.andThen_ok, if_true, sizeOf, typeInfo]
      simp [hq, hs, ext_eq cs off s hfit]
    | false =>
      have := h1 hr; subst this
      have hlt : off < cs.size := by omega
      simp only [Sem.run_bind, run_isAgg hu, hr, Result.andThen_ok, Bool.false_eq_true, if_false]
      rw [Array.getElem?_eq_getElem hlt]
      simp [List.drop_eq_getElem_cons (show off < cs.toList.length by simpa using hlt)]


theorem valsEq_single {q : Kd} {cx cy : List Value} {b : Bool} (h : valsEq [q] cx cy = some b) : ∃ x y, cx = [x] ∧ cy = [y] ∧ valEq q x y = some b := by
  obtain ⟨h1, h2⟩ := valsEq_len h
  match cx, cy, h1, h2 with
  | [x], [y], _, _ => exact ⟨x, y, rfl, rfl, by simpa [valsEq] using h⟩
theorem valEq_int {x y : Value} {b : Bool} (h : valEq .int x y = some b) : ∃ k i j, x = .int k i ∧ y = .int k j ∧ b = (i == j) := by
  cases x <;> cases y <;> simp [valEq] at h
  obtain ⟨rfl, rfl⟩ := h
  exact ⟨_, _, _, rfl, rfl, rfl⟩
theorem valEq_bool {x y : Value} {b : Bool} (h : valEq .bool x y = some b) : ∃ i j, x = .bool i ∧ y = .bool j ∧ b = (i == j) := by
  cases x <;> cases y <;> simp [valEq] at h
  exact ⟨_, _, rfl, rfl, h.symm⟩
theorem valEq_str {x y : Value} {b : Bool} (h : valEq .str x y = some b) : ∃ i j, x = .string i ∧ y = .string j ∧ b = (i.toList == j.toList) := by
  cases x <;> cases y <;> simp [valEq] at h
  exact ⟨_, _, rfl, rfl, h.symm⟩

theorem valsEq_sub {ks : List Kd} {xs ys : List Value} {b : Bool} (h : valsEq ks xs ys = some b) : xs.length = ks.length ∧ ys.length = ks.length := valsEq_len h

/-- '==' of two values whose cells compare. -/
theorem equalIn_kinds : ∀ (n : Nat) (t : TypeId) (ks : List Kd), kinds P n t = some ks → ∀ (d : Nat), n ≤ d → ∀ (cx cy : List Value) (b : Bool), valsEq ks cx cy = some b → ∀ (desc : TypeDesc), P.underlying t = some desc → ∀ w,
    (isRow desc = false → ks.length = 1) ∧ (Op.equalIn d t (whole desc cx) (whole desc cy)).run P w = .ok b w
  | 0, _, _, h => by simp [kinds] at h
  | n + 1, t, ks, h => by
    intro d hd cx cy b hb desc hu w
    obtain ⟨d, rfl⟩ : ∃ e, d = e + 1 := ⟨d - 1, by omega⟩
    simp only [kinds, hu] at h
    cases desc with
    | int k =>
      simp at h; subst h
      refine ⟨fun _ => rfl, ?_⟩
      obtain ⟨x, y, rfl, rfl, h1⟩ := valsEq_single hb
      obtain ⟨k', i, j, rfl, rfl, rfl⟩ := valEq_int h1
      simpa [whole, isRow] using run_equalIn_int w d t k' k i j hu
    | bool =>
      simp at h; subst h
      refine ⟨fun _ => rfl, ?_⟩
      obtain ⟨x, y, rfl, rfl, h1⟩ := valsEq_single hb
      obtain ⟨i, j, rfl, rfl, rfl⟩ := valEq_bool h1
      simpa [whole, isRow] using run_equalIn_bool' w d t _ _ hu
    | string =>
      simp at h; subst h
      refine ⟨fun _ => rfl, ?_⟩
      obtain ⟨x, y, rfl, rfl, h1⟩ := valsEq_single hb
      obtain ⟨i, j, rfl, rfl, rfl⟩ := valEq_str h1
      simpa [whole, isRow] using run_equalIn_string w d t _ _ hu
    | struct fs =>
      simp only at h
      split at h
      · cases h
      · rename_i hp
        refine ⟨fun hr => by simp [isRow] at hr, ?_⟩
        have hf : P.fieldsOf t = fs := by simp [Program.fieldsOf, hu]
        have := run_equalIn_struct (P := P) w d t cx.toArray cy.toArray (by rw [hf]; exact hu) (by simpa using hp)
        simp only [whole, isRow, if_true]
        rw [this, hf]
        obtain ⟨hlx, hly⟩ := valsEq_len hb
        -- field by field
        have go : ∀ (l : List Field) (off : Nat) (ks' : List Kd) (b : Bool), kindsF (kinds P n) (fun t => (P.info? t).map (·.size)) off l = some ks' → off + ks'.length ≤ cx.length → off + ks'.length ≤ cy.length →
            valsEq ks' ((cx.drop off).take ks'.length) ((cy.drop off).take ks'.length) = some b → (Op.eqFields d cx.toArray cy.toArray l).run P w = .ok b w := by
          intro l
          induction l with
          | nil => intro off ks' b hk _ _ hb; simp [kindsF] at hk; subst hk; simp [valsEq] at hb; subst hb; simp [Op.eqFields]
          | cons f l ih =>
            intro off ks' b hk h1 h2 hb
            simp only [kindsF] at hk
            split at hk
            · cases hk
            · rename_i hname
              split at hk
              · rename_i hoff
                obtain ⟨a, ha, hk1⟩ := Option.bind_eq_some_iff.1 hk
                split at hk1
                · rename_i hsz
                  obtain ⟨rest, hrest, hk2⟩ := Option.bind_eq_some_iff.1 hk1
                  cases hk2
                  obtain ⟨b1, b2, hb1, hb2, rfl⟩ := valsEq_append hb
                  simp only [List.length_append] at h1 h2 hb1 hb2
                  rw [List.take_take, List.take_take, Nat.min_eq_left (by omega)] at hb1
                  rw [List.drop_take, List.drop_take, List.drop_drop, List.drop_drop, Nat.add_sub_cancel_left] at hb2
                  cases hfu : P.underlying f.type with
                  | none => cases n with
                    | zero => simp [kinds] at ha
                    | succ n => simp [kinds, hfu] at ha
                  | some fd =>
                    obtain ⟨hr1, he⟩ := equalIn_kinds n f.type a ha d (by omega) _ _ b1 hb1 fd hfu w
                    have px := run_part (P := P) (cs := cx.toArray) (off := off) hfu hsz hr1 (by simp; omega) w
                    have py := run_part (P := P) (cs := cy.toArray) (off := off) hfu hsz hr1 (by simp; omega) w
                    simp only [Op.eqFields, hname, ne_eq, not_false_eq_true, if_true, Sem.run_bind, hoff, px, py, Result.andThen_ok]
                    rw [he]
                    cases b1
                    · simp
                    · simpa using ih (off + a.length) rest b2 hrest (by omega) (by omega) hb2
                · cases hk1
              · cases hk
        refine go fs.toList 0 ks b h (by omega) (by omega) ?_
        rw [List.drop_zero, List.drop_zero, List.take_of_length_le (by omega), List.take_of_length_le (by omega)]
        exact hb
    | array m e =>
      simp only at h
      obtain ⟨a, ha, h1⟩ := Option.bind_eq_some_iff.1 h
      split at h1
      · rename_i hsz
        cases h1
        refine ⟨fun hr => by simp [isRow] at hr, ?_⟩
        cases hie : P.info? e with
        | none => rw [hie] at hsz; cases hsz
        | some ie =>
          have hco : P.cellsOf e = a.length := by rw [hie] at hsz; simp [Program.cellsOf, hie] at hsz ⊢; exact hsz
          simp only [whole, isRow, if_true]
          rw [run_equalIn_array w d cx.toArray cy.toArray hu hie, hco]
          have go : ∀ (m j : Nat) (b : Bool), j * a.length + m * a.length ≤ cx.length → j * a.length + m * a.length ≤ cy.length →
              valsEq (List.replicate m a).flatten ((cx.drop (j * a.length)).take (m * a.length)) ((cy.drop (j * a.length)).take (m * a.length)) = some b →
              (Op.eqItems d e a.length cx.toArray cy.toArray (List.range' j m)).run P w = .ok b w := by
            intro m
            induction m with
            | zero => intro j b _ _ hb; simp [valsEq] at hb; subst hb; simp [Op.eqItems]
            | succ m ih =>
              intro j b h1 h2 hb
              rw [Nat.succ_mul] at h1 h2 hb
              simp only [List.replicate_succ, List.flatten_cons] at hb
              obtain ⟨b1, b2, hb1, hb2, rfl⟩ := valsEq_append hb
              rw [List.take_take, List.take_take, Nat.min_eq_left (by omega)] at hb1
              rw [List.drop_take, List.drop_take, List.drop_drop, List.drop_drop, Nat.add_sub_cancel] at hb2
              cases hfu : P.underlying e with
              | none => cases n with
                | zero => simp [kinds] at ha
                | succ n => simp [kinds, hfu] at ha
              | some fd =>
                obtain ⟨hr1, he⟩ := equalIn_kinds n e a ha d (by omega) _ _ b1 hb1 fd hfu w
                have px := run_part (P := P) (cs := cx.toArray) (off := j * a.length) hfu hsz hr1 (by simp; omega) w
                have py := run_part (P := P) (cs := cy.toArray) (off := j * a.length) hfu hsz hr1 (by simp; omega) w
                rw [List.range'_succ]
                simp only [Op.eqItems, Sem.run_bind, px, py, Result.andThen_ok]
                rw [he]
                cases b1
                · simp
                · have := ih (j + 1) b2 (by rw [Nat.succ_mul]; omega) (by rw [Nat.succ_mul]; omega) (by rw [Nat.succ_mul]; exact hb2)
                  simpa using this
          obtain ⟨hlx, hly⟩ := valsEq_len hb
          have hl : (List.replicate m a).flatten.length = m * a.length := by simp
          rw [List.range_eq_range']
          refine go m 0 b (by omega) (by omega) ?_
          rw [Nat.zero_mul, List.drop_zero, List.drop_zero, List.take_of_length_le (by omega), List.take_of_length_le (by omega)]
          exact hb
      · cases h1
    | _ => simp at h

end Go.Ev
