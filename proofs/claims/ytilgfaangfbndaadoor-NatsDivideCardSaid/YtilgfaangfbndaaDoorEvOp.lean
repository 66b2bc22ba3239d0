/-
  One operation, whatever it is: sound.
-/
import Derived.Test.YtilgfaangfbndaaDoorEvFrz
set_option linter.unusedSimpArgs false
set_option linter.unusedVariables false
namespace Go.Ev
open Go Go.RowKit
variable {R : Type} {P : Program} {base : Nat} {sp : SpTab} {fz : Bool}

/-- What a call comes to, for whatever memory. -/
def CallSem (P : Program) (f : FuncId) (args : List AV) (L : Heap) (v : AV) (L' : Heap) : Prop :=
  ∀ {B0 w0 ok E w} {vals : List Value}, Mem B0 w0 ok E L w → vals.length = args.length → (∀ (i : Nat) x a, vals[i]? = some x → args[i]? = some a → Rep E w ok x a) →
    Calls P f vals.toArray w (fun e w' => ∃ u ok' E', e = .returned u ∧ Mem B0 w0 ok' E' L' w' ∧ Rep E' w' ok' u v ∧ Grow E w ok E' w' ok' ∧ ∀ b, ok' b → ok b ∨ B0 ≤ b)

def OrOk (P : Program) (or : Orc R) : Prop := ∀ f args L k r, or f args L k = some r → ∃ v L', k v L' = some r ∧ Enters P f ∧ CallSem P f args L v L'

/-- A state of the evaluator and a state of the machine. -/
structure Sim (B0 : Nat) (w0 : World) (ok : Nat → Prop) (E : Env) (st : St) (a : Act) (w : World) : Prop where
  mem : Mem B0 w0 ok E st.L w
  sl : SlRep E w ok a.tmps st.sl
  size : a.tmps.size = st.sl.length
  defers : a.defers = []

theorem rep_const {E : Env} {w : World} {ok : Nat → Prop} (v : Value) : Rep E w ok v (ofConst v) := by
  unfold ofConst
  split
  · exact .d (.nil (.inr rfl))
  · rename_i vs
    split
    · rename_i h
      obtain rfl : vs = #[] := Array.eq_empty_of_size_eq_zero h
      exact .d (RepD.tup (vs := []) (cs := []) rfl (fun i x d hx => by simp at hx))
    · exact .junk
  · split
    · rename_i h; exact .ofV h
    · exact .junk

theorem rep_skipped {E : Env} {w : World} {ok : Nat → Prop} : Rep E w ok undef skipped := .d (RepD.tup (vs := []) (cs := []) rfl (fun i x d hx => by simp at hx))

theorem SlRep.ev {E : Env} {w : World} {ok : Nat → Prop} {a : Act} {sl : List AV} (h : SlRep E w ok a.tmps sl) (x : Operand) : Rep E w ok (a.eval x) (ev sl x) := by
  cases x with
  | tmp t =>
    simp only [Act.eval, Ev.ev]
    cases hs : sl[t]? with
    | none => simp [List.getD, hs]; exact .junk
    | some c => simp only [List.getD, hs, Option.getD_some]; exact h t c hs
  | const v => exact rep_const v
  | global g => exact .junk
  | func f => exact .d (RepD.fn (vs := []) (cs := []) rfl (fun i x d hx => by simp at hx))

theorem SlRep.put {E : Env} {w : World} {ok : Nat → Prop} {a : Act} {sl : List AV} (h : SlRep E w ok a.tmps sl) (hs : a.tmps.size = sl.length) {u : Value} {v : AV} (hv : Rep E w ok u v) (dst : Option Tmp) :
    SlRep E w ok (a.put dst u).tmps (setSl sl dst v) := by
  cases dst with
  | none => exact h
  | some d =>
    intro t c hc
    simp only [Act.put, setSl] at hc ⊢
    by_cases htd : t = d
    · subst htd
      by_cases hlt : t < sl.length
      · rw [List.getElem?_set_self hlt] at hc
        cases hc
        have : t < a.tmps.size := by omega
        simp [Array.getD, this, hv]
      · rw [List.getElem?_eq_none (by simp; omega)] at hc; cases hc
    · rw [List.getElem?_set_ne (Ne.symm htd)] at hc
      have := h t c hc
      simp only [Array.getD_eq_getD_getElem?] at this ⊢
      rw [Array.getElem?_setIfInBounds_ne (Ne.symm htd)]
      exact this

theorem setSl_length (sl : List AV) (dst : Option Tmp) (v : AV) : (setSl sl dst v).length = sl.length := by cases dst <;> simp [setSl]
theorem put_size (a : Act) (dst : Option Tmp) (u : Value) : (a.put dst u).tmps.size = a.tmps.size := by cases dst <;> simp [Act.put]
theorem put_defers (a : Act) (dst : Option Tmp) (u : Value) : (a.put dst u).defers = a.defers := by cases dst <;> rfl
theorem kill_length (id : Nat) (sl : List AV) : (kill id sl).length = sl.length := by simp [kill]

theorem wp_value {o : Oper} {a : Act} {w w' : World} {u : Value} (h : (execOp a.eval o).run P w = .ok (.value u) w') {K : Act → World → Prop} {Q : Exit → Act → World → Prop} (hK : K (a.put o.dst u) w') : o.wp P a w K Q := by
  unfold Oper.wp; rw [h]; exact hK
theorem wp_skip_op {o : Oper} {a : Act} {w w' : World} (h : (execOp a.eval o).run P w = .ok .skip w') {K : Act → World → Prop} {Q : Exit → Act → World → Prop} (hK : K (a.put o.dst undef) w') : o.wp P a w K Q := by
  unfold Oper.wp; rw [h]; exact hK

/-- What an operation leaves. -/
def OpSem (P : Program) (base : Nat) (o : Oper) (sl : List AV) (L : Heap) (sl' : List AV) (v : AV) (L' : Heap) : Prop :=
  sl'.length = sl.length ∧ ∀ {B0 w0 ok E a w}, Sim B0 w0 ok E ⟨sl, L⟩ a w → ∀ (K : Act → World → Prop) (Q : Exit → Act → World → Prop),
    (∀ ok' E' u w', Mem B0 w0 ok' E' L' w' → Rep E' w' ok' u v → SlRep E' w' ok' a.tmps sl' → Step B0 base E w ok E' w' ok' → K (a.put o.dst u) w') → o.wp P a w K Q

/-- An operation that makes a value and leaves the world. -/
theorem OpSem.val {o : Oper} {sl : List AV} {L : Heap} {v : AV}
    (h : ∀ {B0 w0 ok E a w}, Sim B0 w0 ok E ⟨sl, L⟩ a w → ∃ u, (execOp a.eval o).run P w = .ok (.value u) w ∧ Rep E w ok u v) : OpSem P base o sl L sl v L :=
  ⟨rfl, fun {B0 w0 ok E a w} hS K Q hK => by
    obtain ⟨u, hr, hv⟩ := h hS
    exact wp_value hr (hK ok E u w hS.mem hv hS.sl (.refl _ _ _ _ _))⟩

/-- An operation that makes a value, and grows the memory. -/
theorem OpSem.grow {o : Oper} {sl : List AV} {L L' : Heap} {v : AV}
    (h : ∀ {B0 w0 ok E a w}, Sim B0 w0 ok E ⟨sl, L⟩ a w → ∃ u w' ok' E', (execOp a.eval o).run P w = .ok (.value u) w' ∧ Mem B0 w0 ok' E' L' w' ∧ Rep E' w' ok' u v ∧ Grow E w ok E' w' ok' ∧ ∀ b, ok' b → ok b ∨ B0 ≤ b) : OpSem P base o sl L sl v L' :=
  ⟨rfl, fun {B0 w0 ok E a w} hS K Q hK => by
    obtain ⟨u, w', ok', E', hr, hM, hv, g, e⟩ := h hS
    exact wp_value hr (hK ok' E' u w' hM hv (hS.sl.grow g) (.of g e))⟩

theorem repO_map {E : Env} {w : World} {ok : Nat → Prop} {a : Act} {sl : List AV} (h : SlRep E w ok a.tmps sl) (x : Option Operand) : RepO E w ok (x.map a.eval) (x.map (ev sl)) := by
  cases x with
  | none => trivial
  | some x => exact h.ev x

theorem parts_rep {E : Env} {w : World} {ok : Nat → Prop} {a : Act} {sl : List AV} (h : SlRep E w ok a.tmps sl) (parts : List (Nat × Operand)) :
    (parts.map fun p => (p.1, a.eval p.2)).length = (parts.map fun p => (p.1, ev sl p.2)).length ∧
    ∀ (i : Nat) p q, (parts.map fun p => (p.1, a.eval p.2))[i]? = some p → (parts.map fun p => (p.1, ev sl p.2))[i]? = some q → p.1 = q.1 ∧ Rep E w ok p.2 q.2 := by
  refine ⟨by simp, fun i p q hp hq => ?_⟩
  rw [List.getElem?_map] at hp hq
  cases hx : parts[i]? with
  | none => rw [hx] at hp; cases hp
  | some x => rw [hx] at hp hq; cases hp; cases hq; exact ⟨rfl, h.ev x.2⟩

theorem args_rep {E : Env} {w : World} {ok : Nat → Prop} {a : Act} {sl : List AV} (h : SlRep E w ok a.tmps sl) (xs : List Operand) :
    (xs.map a.eval).length = (xs.map (ev sl)).length ∧ ∀ (i : Nat) x c, (xs.map a.eval)[i]? = some x → (xs.map (ev sl))[i]? = some c → Rep E w ok x c := by
  refine ⟨by simp, fun i p q hp hq => ?_⟩
  rw [List.getElem?_map] at hp hq
  cases hx : xs[i]? with
  | none => rw [hx] at hp; cases hp
  | some x => rw [hx] at hp hq; cases hp; cases hq; exact h.ev x



/-- An operation that works on the memory, leaving no value. -/
theorem OpSem.skip {o : Oper} {sl : List AV} {L L' : Heap}
    (h : ∀ {B0 w0 ok E a w}, Sim B0 w0 ok E ⟨sl, L⟩ a w → ∃ w' ok' E', (execOp a.eval o).run P w = .ok .skip w' ∧ Mem B0 w0 ok' E' L' w' ∧ Grow E w ok E' w' ok' ∧ ∀ b, ok' b → ok b ∨ B0 ≤ b) : OpSem P base o sl L sl skipped L' :=
  ⟨rfl, fun {B0 w0 ok E a w} hS K Q hK => by
    obtain ⟨w', ok', E', hr, hM, g, e⟩ := h hS
    exact wp_skip_op hr (hK ok' E' _ w' hM rep_skipped (hS.sl.grow g) (.of g e))⟩

theorem places_sound {t e : TypeId} {i : TypeInfo} {n : Nat} (hu : P.underlying t = some (.array n e)) (hi : P.info? e = some i) {j : TypeInfo} {zv : Value} (hj : P.info? t = some j) (hz : j.zero = some zv) {ps : List (Nat × Value)} {c' : Array Value}
    (hf : Instr.fill (fun j => some (j * i.size, i.size)) zv.cells ps = some c') : P.built t ps = some c' := by
  simp [Program.built, hj, hu, hz, hi]
  simpa using hf

theorem run_callFunc {f : FuncId} {args : Array Value} {w : World} (h : Enters P f) : (callFunc f args).run P w = .ok (.enter f args) w := by
  obtain ⟨fn, h1, h2, h3⟩ := h
  obtain ⟨c, hc⟩ := Option.isSome_iff_exists.1 h2
  simp at h3
  simp [callFunc, h1, h3, hc]

theorem call_sem {o : Oper} {c : Call} {f : Operand} {g : FuncId} {sl : List AV} {L L' : Heap} {args caps : List AV} {v : AV} (hop : o.op = .call c) (hc : c.callee = .value f) (hargs : args = c.args.toList.map (ev sl)) (hen : Enters P g)
    (hf : ∀ {E : Env} {w : World} {ok : Nat → Prop} {a : Act}, SlRep E w ok a.tmps sl → ∃ vs : List Value, a.eval f = .func (.func g) #[] vs.toArray ∧ vs.length = caps.length ∧ ∀ (i : Nat) x y, vs[i]? = some x → caps[i]? = some y → Rep E w ok x y)
    (hcs : CallSem P g (args ++ caps) L v L') : OpSem P base o sl L sl v L' := by
  subst hargs
  refine ⟨rfl, fun {B0 w0 ok E a w} hS K Q hK => ?_⟩
  obtain ⟨vs, hev, hl, hr⟩ := hf hS.sl
  obtain ⟨hl1, hr1⟩ := args_rep hS.sl c.args.toList
  have hrun : (execOp a.eval o).run P w = .ok (.enter g ((c.args.toList.map a.eval) ++ vs).toArray) w := by
    have h1 := run_callFunc (P := P) (w := w) (args := (c.args.toList.map a.eval ++ vs).toArray) hen
    simp only [execOp, hop, resolve, hc, hev, Deferred.ofValue]
    have e1 : #[] ++ c.args.map a.eval ++ vs.toArray = (c.args.toList.map a.eval ++ vs).toArray := by apply Array.ext'; simp
    simp only [invoke, Sem.run_pure, Sem.run_bind, Result.andThen, e1]
    exact h1
  unfold Oper.wp
  rw [hrun, Oper.upon_enter]
  refine (hcs hS.mem (by simp [hl]) ?_).mono ?_
  · intro i x y hx hy
    by_cases hlt : i < (c.args.toList.map a.eval).length
    · rw [List.getElem?_append_left hlt] at hx
      rw [List.getElem?_append_left (by rw [← hl1]; exact hlt)] at hy
      exact hr1 i x y hx hy
    · rw [List.getElem?_append_right (by omega)] at hx
      rw [List.getElem?_append_right (by rw [← hl1]; omega)] at hy
      rw [← hl1] at hy
      exact hr _ x y hx hy
  · rintro e w' ⟨u, ok', E', rfl, hM, hv, g, e⟩
    exact hK ok' E' u w' hM hv (hS.sl.grow g) (.of g e)

/-- The operations that make memory or a value of parts. -/
theorem op_sound_make {or : Orc R} {o : Oper} {sl : List AV} {L : Heap} {k : List AV → AV → Heap → Option R} {r : R} (h : opK P sp base fz or o sl L k = some r)
    (hm : (∃ t, o.op = .alloc t) ∨ (∃ t x, o.op = .box t x) ∨ (∃ t ps, o.op = .build t ps) ∨ (∃ t n ps, o.op = .buildSlice t n ps) ∨ (∃ t n c, o.op = .makeSlice t n c) ∨ ∃ g f c, o.op = .makeFunc g f c) :
    ∃ sl' v L', k sl' v L' = some r ∧ OpSem P base o sl L sl' v L' := by
  unfold opK at h
  rcases hm with ⟨t, hop⟩ | ⟨t, x, hop⟩ | ⟨t, parts, hop⟩ | ⟨t, len, parts, hop⟩ | ⟨t, n, c, hop⟩ | ⟨g, first, cap, hop⟩ <;> simp only [hop] at h
  · obtain ⟨z, hz, h1⟩ := Option.bind_eq_some_iff.1 h
    refine ⟨_, _, _, h1, .grow fun {B0 w0 ok E a w} hS => ?_⟩
    obtain ⟨w', E', hr, hM, g, hv, _⟩ := alloc_sound hz hS.mem
    exact ⟨_, w', ok, E', by simp [execOp, hop, hr], hM, hv, g, fun _ h => .inl h⟩
  · obtain ⟨i, hi, h1⟩ := Option.bind_eq_some_iff.1 h
    obtain ⟨B, hk, hB⟩ := blkOf_some h1
    refine ⟨_, _, _, hk, .grow fun {B0 w0 ok E a w} hS => ?_⟩
    obtain ⟨hc, h1⟩ := hB (hS.sl.ev x)
    obtain ⟨w', E', hr, hM, g, hv, _⟩ := box_sound (P := P) (t := t) hS.mem hc h1
    exact ⟨_, w', ok, E', by simp [execOp, hop, hr], hM, hv, g, fun _ h => .inl h⟩
  · obtain ⟨z, hz, h1⟩ := Option.bind_eq_some_iff.1 h
    cases hu : P.underlying t with
    | none => rw [hu] at h1; cases h1
    | some d =>
      rw [hu] at h1
      cases d <;> try (simp only at h1) <;> try (cases h1; done)
      case struct fs =>
        obtain ⟨places, hpl, h2⟩ := Option.bind_eq_some_iff.1 h1
        obtain ⟨v, hk, hs⟩ := build_sound (P := P) (k := fun v => k sl v L) hz h2 (fun ps c c' hc hf => by
          obtain ⟨i, zv, hi, hzv, rfl⟩ := hc
          simp [Program.built, hi, hu, hzv, hpl]
          simpa using hf)
        refine ⟨_, _, _, hk, .val fun {B0 w0 ok E a w} hS => ?_⟩
        obtain ⟨hl, hr⟩ := parts_rep hS.sl parts.toList
        obtain ⟨y, hy, hv⟩ := hs hl hr
        exact ⟨y, by
          have h1 : (parts.map fun p => (p.1, a.eval p.2)) = (parts.toList.map fun p => (p.1, a.eval p.2)).toArray := by
            apply Array.ext'; simp
          simp only [execOp, hop]
          erw [h1]
          simp [hy], hv⟩
      case array m e =>
        obtain ⟨i, hi, h2⟩ := Option.bind_eq_some_iff.1 h1
        obtain ⟨v, hk, hs⟩ := build_sound (P := P) (k := fun v => k sl v L) hz h2 (fun ps c c' hc hf => by
          obtain ⟨j, zv, hj, hzv, rfl⟩ := hc
          exact places_sound hu hi hj hzv hf)
        refine ⟨_, _, _, hk, .val fun {B0 w0 ok E a w} hS => ?_⟩
        obtain ⟨hl, hr⟩ := parts_rep hS.sl parts.toList
        obtain ⟨y, hy, hv⟩ := hs hl hr
        exact ⟨y, by
          have h1 : (parts.map fun p => (p.1, a.eval p.2)) = (parts.toList.map fun p => (p.1, a.eval p.2)).toArray := by
            apply Array.ext'; simp
          simp only [execOp, hop]
          erw [h1]
          simp [hy], hv⟩
  · cases hu : P.underlying t with
    | none => rw [hu] at h; cases h
    | some d =>
      rw [hu] at h
      cases d <;> try (simp only at h) <;> try (cases h; done)
      case slice e =>
        obtain ⟨z, hz, h1⟩ := Option.bind_eq_some_iff.1 h
        by_cases hc : len * z.1 ≤ 2 ^ 24 ∧ 0 < z.1
        case neg => rw [if_neg hc] at h1; cases h1
        rw [if_pos hc] at h1
        obtain ⟨cs, hk, hs⟩ := buildSlice_sound (P := P) hu hz hc.1 hc.2 h1
        by_cases hall : cs.all AV.one = true
        case neg => rw [if_neg hall] at hk; cases hk
        rw [if_pos hall] at hk
        refine ⟨_, _, _, hk, .grow fun {B0 w0 ok E a w} hS => ?_⟩
        obtain ⟨hl, hr⟩ := parts_rep hS.sl parts.toList
        obtain ⟨y, w', E', hy, hM, g, hv, _⟩ := hs hS.mem hl hr hall
        exact ⟨y, w', ok, E', by
          have h1 : (parts.map fun p => (p.1, a.eval p.2)) = (parts.toList.map fun p => (p.1, a.eval p.2)).toArray := by
            apply Array.ext'; simp
          simp only [execOp, hop]
          erw [h1]
          simp [hy], hM, hv, g, fun _ h => .inl h⟩
  · cases hu : P.underlying t with
    | none => rw [hu] at h; cases h
    | some d =>
      rw [hu] at h
      cases d <;> try (simp only at h) <;> try (cases h; done)
      case slice e =>
        obtain ⟨z, hz, h1⟩ := Option.bind_eq_some_iff.1 h
        obtain ⟨i, hi, h2⟩ := Option.bind_eq_some_iff.1 h1
        obtain ⟨n', hn, h3⟩ := Option.bind_eq_some_iff.1 h2
        obtain ⟨c', hc, h4⟩ := Option.bind_eq_some_iff.1 h3
        by_cases hfit : 0 ≤ n'.2 ∧ n'.2 ≤ c'.2 ∧ fitsRow c'.2.toNat i.bytes
        case neg => rw [if_neg hfit] at h4; cases h4
        rw [if_pos hfit] at h4
        refine ⟨_, _, _, h4, .grow fun {B0 w0 ok E a w} hS => ?_⟩
        have e1 := hS.sl.ev n
        have e2 := hS.sl.ev c
        rw [asI_some hn] at e1
        rw [asI_some hc] at e2
        obtain ⟨y, w', E', hy, hM, g, hv, _⟩ := makeSlice_sound hu hz hi (kn := n'.1) (kc := c'.1) hfit.1 hfit.2.1 hfit.2.2 hS.mem
        exact ⟨y, w', ok, E', by simp [execOp, hop, e1.v_inv.1, e2.v_inv.1, hy], hM, hv, g, fun _ h => .inl h⟩
  · cases g <;> try (simp only at h) <;> try (cases h; done)
    case func f =>
    by_cases hf : first.size = 0
    case neg => rw [if_neg hf] at h; cases h
    rw [if_pos hf] at h
    obtain rfl : first = #[] := Array.eq_empty_of_size_eq_zero hf
    have hrun : ∀ (a : Act) (w : World), (execOp a.eval o).run P w = .ok (.value (.func (.func f) #[] (cap.toList.map a.eval).toArray)) w := fun a w => by
      have e1 : cap.map a.eval = (cap.toList.map a.eval).toArray := by apply Array.ext'; simp
      simp [execOp, hop, Instr.makeFunc]
      exact e1
    cases hd : allD (cap.toList.map (ev sl)) with
    | some ds =>
      rw [hd] at h
      refine ⟨_, _, _, h, .val fun {B0 w0 ok E a w} hS => ⟨_, hrun a w, .d ?_⟩⟩
      obtain ⟨hl, hr⟩ := args_rep hS.sl cap.toList
      have hds := allD_some hd
      refine .fn (by rw [hl, hds]; simp) fun i x d hx hd' => ?_
      have := hr i x (.d d) hx (by rw [hds, List.getElem?_map, hd']; rfl)
      cases this with
      | d h => exact h
    | none =>
      rw [hd] at h
      refine ⟨_, _, _, h, .val fun {B0 w0 ok E a w} hS => ⟨_, hrun a w, ?_⟩⟩
      obtain ⟨hl, hr⟩ := args_rep hS.sl cap.toList
      exact .clo hl hr

end Go.Ev
