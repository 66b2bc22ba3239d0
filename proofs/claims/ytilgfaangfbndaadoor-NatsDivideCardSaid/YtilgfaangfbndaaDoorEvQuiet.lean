/-
  The operations that may run in any order: they look at their operands alone, and leave the local blocks.
-/
import Derived.Test.YtilgfaangfbndaaDoorEvSeq
set_option linter.unusedSimpArgs false
set_option linter.unusedVariables false
namespace Go.Ev
open Go Go.RowKit
variable {R : Type} {P : Program} {base : Nat} {sp : SpTab}

/-- The operands of an operation, and the memory. -/
structure ORep (B0 : Nat) (w0 : World) (ok : Nat → Prop) (E : Env) (o : Oper) (sl : List AV) (L : Heap) (a : Act) (w : World) : Prop where
  mem : Mem B0 w0 ok E L w
  ev : ∀ x, x ∈ o.op.operands → Rep E w ok (a.eval x) (ev sl x)

/-- What such an operation leaves. -/
def QSem (P : Program) (o : Oper) (sl : List AV) (L : Heap) (v : AV) : Prop :=
  ∀ {B0 w0 ok E a w}, ORep B0 w0 ok E o sl L a w → ∀ (K : Act → World → Prop) (Q : Exit → Act → World → Prop),
    (∀ ok' u w', Below w.heap.size w w' → Mem B0 w0 ok' E L w' → Grow E w ok E w' ok' → (∀ b, ok' b → ok b ∨ B0 ≤ b) → Rep E w' ok' u v → K (a.put o.dst u) w') → o.wp P a w K Q

theorem QSem.val {o : Oper} {sl : List AV} {L : Heap} {v : AV}
    (h : ∀ {B0 w0 ok E a w}, ORep B0 w0 ok E o sl L a w → ∃ u, (execOp a.eval o).run P w = .ok (.value u) w ∧ Rep E w ok u v) : QSem P o sl L v :=
  fun {B0 w0 ok E a w} hS K Q hK => by
    obtain ⟨u, hr, hv⟩ := h hS
    exact wp_value hr (hK ok u w (Below.refl _ _) hS.mem (Grow.refl _ _ _) (fun _ h => .inl h) hv)

theorem QSem.grow {o : Oper} {sl : List AV} {L : Heap} {v : AV}
    (h : ∀ {B0 w0 ok E a w}, ORep B0 w0 ok E o sl L a w → ∃ u w' ok', (execOp a.eval o).run P w = .ok (.value u) w' ∧ Below w.heap.size w w' ∧ Mem B0 w0 ok' E L w' ∧ Grow E w ok E w' ok' ∧ (∀ b, ok' b → ok b ∨ B0 ≤ b) ∧ Rep E w' ok' u v) : QSem P o sl L v :=
  fun {B0 w0 ok E a w} hS K Q hK => by
    obtain ⟨u, w', ok', hr, hb, hM, g, e, hv⟩ := h hS
    exact wp_value hr (hK ok' u w' hb hM g e hv)

theorem ORep.args {B0 : Nat} {w0 : World} {ok : Nat → Prop} {E : Env} {o : Oper} {sl : List AV} {L : Heap} {a : Act} {w : World} (h : ORep B0 w0 ok E o sl L a w) {xs : List Operand} (hx : ∀ x, x ∈ xs → x ∈ o.op.operands) : Reps E w ok (xs.map a.eval) (xs.map (Ev.ev sl)) := by
  refine ⟨by simp, fun i p q hp hq => ?_⟩
  rw [List.getElem?_map] at hp hq
  cases hi : xs[i]? with
  | none => rw [hi] at hp; cases hp
  | some x => rw [hi] at hp hq; cases hp; cases hq; exact h.ev x (hx x (List.mem_of_getElem? hi))

theorem ORep.opt {B0 : Nat} {w0 : World} {ok : Nat → Prop} {E : Env} {o : Oper} {sl : List AV} {L : Heap} {a : Act} {w : World} (h : ORep B0 w0 ok E o sl L a w) {x : Option Operand} (hx : ∀ y, x = some y → y ∈ o.op.operands) : RepO E w ok (x.map a.eval) (x.map (Ev.ev sl)) := by
  cases x with
  | none => trivial
  | some x => exact h.ev x (hx x rfl)

theorem ORep.parts {B0 : Nat} {w0 : World} {ok : Nat → Prop} {E : Env} {o : Oper} {sl : List AV} {L : Heap} {a : Act} {w : World} (h : ORep B0 w0 ok E o sl L a w) {parts : List (Nat × Operand)} (hx : ∀ p, p ∈ parts → p.2 ∈ o.op.operands) :
    (parts.map fun p => (p.1, a.eval p.2)).length = (parts.map fun p => (p.1, Ev.ev sl p.2)).length ∧
    ∀ (i : Nat) p q, (parts.map fun p => (p.1, a.eval p.2))[i]? = some p → (parts.map fun p => (p.1, Ev.ev sl p.2))[i]? = some q → p.1 = q.1 ∧ Rep E w ok p.2 q.2 := by
  refine ⟨by simp, fun i p q hp hq => ?_⟩
  rw [List.getElem?_map] at hp hq
  cases hi : parts[i]? with
  | none => rw [hi] at hp; cases hp
  | some x => rw [hi] at hp hq; cases hp; cases hq; exact ⟨rfl, h.ev x.2 (hx x (List.mem_of_getElem? hi))⟩

theorem op_quiet (hsp : SpOk P sp) {or : Orc R} {o : Oper} (hq : quietOp sp o.op = true) {sl : List AV} {L : Heap} {k : List AV → AV → Heap → Option R} {r : R} (h : opK P sp base false or o sl L k = some r) :
    ∃ v, k sl v L = some r ∧ QSem P o sl L v := by
  unfold opK at h
  cases hop : o.op <;> simp only [hop] at h <;> simp only [hop, quietOp] at hq <;> try (cases h; done)
  all_goals try (cases hq; done)
  case move x => exact ⟨_, h, QSem.val fun hS => ⟨_, by simp [execOp, hop], hS.ev x (by simp [hop, Op.operands])⟩⟩
  case assign x => exact ⟨_, h, QSem.val fun hS => ⟨_, by simp [execOp, hop], hS.ev x (by simp [hop, Op.operands])⟩⟩
  case pick c x y =>
    obtain ⟨t, ht, h1⟩ := Option.bind_eq_some_iff.1 h
    have hc := asB_some ht
    cases t with
    | true =>
      refine ⟨_, h1, QSem.val fun {B0 w0 ok E a w} hS => ⟨_, ?_, hS.ev x (by simp [hop, Op.operands])⟩⟩
      have := hS.ev c (by simp [hop, Op.operands])
      rw [hc] at this
      simp [execOp, hop, this.v_inv.1, asBool]
    | false =>
      refine ⟨_, h1, QSem.val fun {B0 w0 ok E a w} hS => ⟨_, ?_, hS.ev y (by simp [hop, Op.operands])⟩⟩
      have := hS.ev c (by simp [hop, Op.operands])
      rw [hc] at this
      simp [execOp, hop, this.v_inv.1, asBool]
  case load t x =>
    obtain ⟨v, hk, hs⟩ := load_sound h
    refine ⟨_, hk, QSem.val fun {B0 w0 ok E a w} hS => ?_⟩
    obtain ⟨y, hy, hv⟩ := hs hS.mem (hS.ev x (by simp [hop, Op.operands]))
    exact ⟨y, by simp [execOp, hop, hy], hv⟩
  case nilCheck x =>
    cases hx : ev sl x <;> rw [hx] at h <;> try (simp only at h) <;> try (cases h; done)
    case d y =>
      cases y <;> try (simp only at h) <;> try (cases h; done)
      case fn f cs =>
        refine ⟨_, h, QSem.val fun {B0 w0 ok E a w} hS => ?_⟩
        have := hS.ev x (by simp [hop, Op.operands])
        rw [hx] at this
        refine ⟨a.eval x, ?_, this⟩
        generalize hu : a.eval x = u at this ⊢
        cases this with
        | d hd => cases hd with
          | fn hl hr => simp [execOp, hop, hu]
    case ptr id off =>
      refine ⟨_, h, QSem.val fun {B0 w0 ok E a w} hS => ?_⟩
      have := hS.ev x (by simp [hop, Op.operands])
      rw [hx] at this
      refine ⟨a.eval x, ?_, this⟩
      generalize hu : a.eval x = u at this ⊢
      cases this with
      | ptr he => simp [execOp, hop, hu]
    case lp cs off =>
      refine ⟨_, h, QSem.val fun {B0 w0 ok E a w} hS => ?_⟩
      have := hS.ev x (by simp [hop, Op.operands])
      rw [hx] at this
      refine ⟨a.eval x, ?_, this⟩
      generalize hu : a.eval x = u at this ⊢
      cases this with
      | lp h1 h2 h3 h4 => simp [execOp, hop, hu]
    case clo f cs =>
      refine ⟨_, h, QSem.val fun {B0 w0 ok E a w} hS => ?_⟩
      have := hS.ev x (by simp [hop, Op.operands])
      rw [hx] at this
      refine ⟨a.eval x, ?_, this⟩
      generalize hu : a.eval x = u at this ⊢
      cases this with
      | clo hl hr => simp [execOp, hop, hu]
  case binOp op t x y z =>
    obtain ⟨v, hk, hs⟩ := bin_sound h
    refine ⟨_, hk, QSem.val fun {B0 w0 ok E a w} hS => ?_⟩
    obtain ⟨u, hu, hv⟩ := hs x y (hS.ev x (by simp [hop, Op.operands])) (hS.ev y (by simp [hop, Op.operands]))
    exact ⟨u, by
      rw [show execOp a.eval o = (do pure (.value (← (do eqGuard op t x y (a.eval x) (a.eval y); binOp op t (a.eval x) (a.eval y) : Sem Value))) : Sem Next) from by simp only [execOp, hop]]
      rw [Sem.run_bind, hu]; rfl, hv⟩
  case unOp op t x =>
    obtain ⟨v, hk, hs⟩ := un_sound (P := P) h
    refine ⟨_, hk, QSem.val fun {B0 w0 ok E a w} hS => ?_⟩
    obtain ⟨u, hu, hv⟩ := hs (hS.ev x (by simp [hop, Op.operands]))
    exact ⟨u, by simp [execOp, hop, hu], hv⟩
  case convert s d x =>
    obtain ⟨v, hk, hs⟩ := conv_sound h
    refine ⟨_, hk, QSem.grow fun {B0 w0 ok E a w} hS => ?_⟩
    obtain ⟨u, w', ok', hu, hb, hM, g, e, hv⟩ := hs hS.mem (hS.ev x (by simp [hop, Op.operands]))
    exact ⟨u, w', ok', by simp [execOp, hop, hu], hb, hM, g, e, hv⟩
  case slice t x lo hi mx =>
    obtain ⟨v, hk, hs⟩ := slice_sound h
    refine ⟨_, hk, QSem.val fun {B0 w0 ok E a w} hS => ?_⟩
    obtain ⟨u, hu, hv⟩ := hs hS.mem (hS.ev x (by simp [hop, Op.operands])) (hS.opt (x := lo) (by intro y hy; simp [hop, Op.operands, hy])) (hS.opt (x := hi) (by intro y hy; simp [hop, Op.operands, hy])) (hS.opt (x := mx) (by intro y hy; simp [hop, Op.operands, hy]))
    exact ⟨u, by simp [execOp, hop, hu], hv⟩
  case fieldAddr s x f =>
    obtain ⟨p, hp, h1⟩ := Option.bind_eq_some_iff.1 h
    cases hx : ev sl x <;> rw [hx] at h1 <;> try (simp only at h1) <;> try (cases h1; done)
    case ptr id off =>
      refine ⟨_, h1, QSem.val fun {B0 w0 ok E a w} hS => ?_⟩
      have := hS.ev x (by simp [hop, Op.operands])
      rw [hx] at this
      generalize hu : a.eval x = u at this
      cases this with
      | ptr he =>
        rename_i b m
        refine ⟨_, by simp [execOp, hop, hu, run_fieldAt hp]; rfl, ?_⟩
        rw [Addr.add_mid]
        exact .ptr he
    case lp cs off =>
      refine ⟨_, h1, QSem.val fun {B0 w0 ok E a w} hS => ?_⟩
      have := hS.ev x (by simp [hop, Op.operands])
      rw [hx] at this
      generalize hu : a.eval x = u at this
      cases this with
      | lp h1 h2 h3 h4 =>
        refine ⟨_, by simp [execOp, hop, hu, run_fieldAt hp]; rfl, ?_⟩
        have := Rep.lp (E := E) (off := off + p.1) h1 h2 h3 h4
        rw [Addr.add_mid, Nat.add_assoc]
        exact this
  case field s x f =>
    obtain ⟨v, hk, hs⟩ := field_sound h
    refine ⟨_, hk, QSem.val fun {B0 w0 ok E a w} hS => ?_⟩
    obtain ⟨u, hu, hv⟩ := hs (hS.ev x (by simp [hop, Op.operands]))
    exact ⟨u, by simp [execOp, hop, hu], hv⟩
  case indexAddr t x i =>
    obtain ⟨v, hk, hs⟩ := indexAddr_sound h
    refine ⟨_, hk, QSem.val fun {B0 w0 ok E a w} hS => ?_⟩
    obtain ⟨u, hu, hv⟩ := hs (hS.ev x (by simp [hop, Op.operands])) (hS.ev i (by simp [hop, Op.operands]))
    exact ⟨u, by simp [execOp, hop, hu], hv⟩
  case index t x i =>
    obtain ⟨v, hk, hs⟩ := index_sound h
    refine ⟨_, hk, QSem.val fun {B0 w0 ok E a w} hS => ?_⟩
    obtain ⟨u, hu, hv⟩ := hs (hS.ev x (by simp [hop, Op.operands])) (hS.ev i (by simp [hop, Op.operands]))
    exact ⟨u, by simp [execOp, hop, hu], hv⟩
  case extract t i =>
    cases hx : ev sl t <;> rw [hx] at h <;> try (simp only at h) <;> try (cases h; done)
    case d y =>
      cases y <;> try (simp only at h) <;> try (cases h; done)
      case tup ds =>
        obtain ⟨d, hd, h1⟩ := Option.bind_eq_some_iff.1 h
        refine ⟨_, h1, QSem.val fun {B0 w0 ok E a w} hS => ?_⟩
        have := hS.ev t (by simp [hop, Op.operands])
        rw [hx] at this
        generalize hu : a.eval t = u at this
        cases this with
        | d hD => cases hD with
          | tup hl hr =>
            rename_i vs
            have hlt : i < vs.length := by rw [hl]; exact (List.getElem?_eq_some_iff.1 hd).1
            have hv : vs[i]? = some vs[i] := List.getElem?_eq_getElem hlt
            exact ⟨vs[i], by simp [execOp, hop, hu, Instr.extract, hv], .d (hr i _ _ hv hd)⟩
    case tup ds =>
      obtain ⟨d, hd, h1⟩ := Option.bind_eq_some_iff.1 h
      refine ⟨_, h1, QSem.val fun {B0 w0 ok E a w} hS => ?_⟩
      have := hS.ev t (by simp [hop, Op.operands])
      rw [hx] at this
      generalize hu : a.eval t = u at this
      cases this with
      | tup hl hr =>
        rename_i vs
        have hlt : i < vs.length := by rw [hl]; exact (List.getElem?_eq_some_iff.1 hd).1
        have hv : vs[i]? = some vs[i] := List.getElem?_eq_getElem hlt
        exact ⟨vs[i], by simp [execOp, hop, hu, Instr.extract, hv], hr i _ _ hv hd⟩
  case build t parts =>
    obtain ⟨z, hz, h1⟩ := Option.bind_eq_some_iff.1 h
    cases hu : P.underlying t with
    | none => rw [hu] at h1; cases h1
    | some d =>
      rw [hu] at h1
      cases d <;> try (simp only at h1) <;> try (cases h1; done)
      case struct fs =>
        obtain ⟨places, hpl, h2⟩ := Option.bind_eq_some_iff.1 h1
        obtain ⟨v, hk, hs⟩ := build_sound (P := P) (k := fun v => k sl v L) hz h2 (fun ps c c' hc hf => by
          obtain ⟨i, zv, hi, hzv, rfl⟩ := hc
          simp [Program.built, hi, hu, hzv, hpl]
          simpa using hf)
        refine ⟨_, hk, QSem.val fun {B0 w0 ok E a w} hS => ?_⟩
        obtain ⟨hl, hr⟩ := hS.parts (parts := parts.toList) (fun p hp => by simp only [hop, Op.operands]; simpa using ⟨p.1, by simpa using hp⟩)
        obtain ⟨y, hy, hv⟩ := hs hl hr
        exact ⟨y, by
          have h1 : (parts.map fun p => (p.1, a.eval p.2)) = (parts.toList.map fun p => (p.1, a.eval p.2)).toArray := by
            apply Array.ext'; simp
          simp only [execOp, hop]
          erw [h1]
          simp [hy], hv⟩
      case array m e =>
        obtain ⟨i, hi, h2⟩ := Option.bind_eq_some_iff.1 h1
        obtain ⟨v, hk, hs⟩ := build_sound (P := P) (k := fun v => k sl v L) hz h2 (fun ps c c' hc hf => by
          obtain ⟨j, zv, hj, hzv, rfl⟩ := hc
          exact places_sound hu hi hj hzv hf)
        refine ⟨_, hk, QSem.val fun {B0 w0 ok E a w} hS => ?_⟩
        obtain ⟨hl, hr⟩ := hS.parts (parts := parts.toList) (fun p hp => by simp only [hop, Op.operands]; simpa using ⟨p.1, by simpa using hp⟩)
        obtain ⟨y, hy, hv⟩ := hs hl hr
        exact ⟨y, by
          have h1 : (parts.map fun p => (p.1, a.eval p.2)) = (parts.toList.map fun p => (p.1, a.eval p.2)).toArray := by
            apply Array.ext'; simp
          simp only [execOp, hop]
          erw [h1]
          simp [hy], hv⟩
  case makeFunc g first cap =>
    cases g <;> try (simp only at h) <;> try (cases h; done)
    case func f =>
    by_cases hf : first.size = 0
    case neg => rw [if_neg hf] at h; cases h
    rw [if_pos hf] at h
    obtain rfl : first = #[] := Array.eq_empty_of_size_eq_zero hf
    have hrun : ∀ (a : Act) (w : World), (execOp a.eval o).run P w = .ok (.value (.func (.func f) #[] (cap.toList.map a.eval).toArray)) w := fun a w => by
      have e1 : cap.map a.eval = (cap.toList.map a.eval).toArray := by apply Array.ext'; simp
      simp [execOp, hop, Instr.makeFunc]
      exact e1
    cases hd : allD (cap.toList.map (ev sl)) with
    | some ds =>
      rw [hd] at h
      refine ⟨_, h, QSem.val fun {B0 w0 ok E a w} hS => ⟨_, hrun a w, .d ?_⟩⟩
      obtain ⟨hl, hr⟩ := hS.args (xs := cap.toList) (fun x hx => by simp only [hop, Op.operands]; simpa using hx)
      have hds := allD_some hd
      refine .fn (by rw [hl, hds]; simp) fun i x d hx hd' => ?_
      have := hr i x (.d d) hx (by rw [hds, List.getElem?_map, hd']; rfl)
      cases this with
      | d h => exact h
    | none =>
      rw [hd] at h
      refine ⟨_, h, QSem.val fun {B0 w0 ok E a w} hS => ⟨_, hrun a w, ?_⟩⟩
      obtain ⟨hl, hr⟩ := hS.args (xs := cap.toList) (fun x hx => by simp only [hop, Op.operands]; simpa using hx)
      exact .clo hl hr
  case call c =>
    have harg : ∀ x, x ∈ c.args.toList → x ∈ o.op.operands := fun x hx => by simp only [hop, Op.operands, Call.operands]; simp at hx; simp [hx]
    unfold callK at h
    cases hc : c.callee with
    | invoke a b => rw [hc] at h; cases h
    | value f =>
      rw [hc] at h hq
      simp only at h hq
      have hfm : f ∈ o.op.operands := by simp [hop, Op.operands, Call.operands, hc]
      cases f <;> try (simp only at hq) <;> try (cases hq; done)
      case func g =>
        simp only [ev] at h
        cases hl : sp.lookup g with
        | none => rw [hl] at hq; cases hq
        | some s =>
          rw [hl] at h
          simp only [Bool.false_and, Bool.false_eq_true, if_false] at h
          obtain ⟨v, hk, hen, hpure⟩ := spK_sound (fun ds d hd => hsp g s ds d hl hd) h
          refine ⟨v, hk, fun {B0 w0 ok E a w} hS K Q hK => ?_⟩
          refine call_step hop hc hen (vs := []) rfl (hpure hS.mem (hS.args harg) ⟨rfl, fun i x d hx => by simp at hx⟩) ?_
          rintro u w' ⟨ok', hb, hM, g, ext, hu⟩
          exact hK ok' u w' hb hM g ext hu
    | builtin b =>
      rw [hc] at h hq
      simp only at h hq
      cases b <;> try (simp only at hq) <;> try (cases hq; done)
      case len =>
        cases ha : c.args.toList with
        | nil => rw [ha] at h; cases h
        | cons x t1 =>
        cases t1 with
        | cons y t3 => rw [ha] at h; cases h
        | nil =>
        cases ht : c.argTypes.toList with
        | nil => rw [ha, ht] at h; cases h
        | cons t t4 =>
        cases t4 with
        | cons y t3 => rw [ha, ht] at h; cases h
        | nil =>
        rw [ha, ht] at h
        simp only at h
        obtain ⟨v, hk, hs⟩ := len_sound (ty := o.type) h
        refine ⟨v, hk, QSem.val fun {B0 w0 ok E a w} hS => ?_⟩
        obtain ⟨z, hz, hv⟩ := hs (hS.ev x (harg x (by rw [ha]; simp)))
        have e1 : c.args.map a.eval = #[a.eval x] := by rw [getElem_onel ha]; simp
        exact ⟨z, by simp [execOp, hop, resolve, hc, invoke, builtin, e1, getElem_onel ht, hz], hv⟩
      case cap =>
        cases ha : c.args.toList with
        | nil => rw [ha] at h; cases h
        | cons x t1 =>
        cases t1 with
        | cons y t3 => rw [ha] at h; cases h
        | nil =>
        cases ht : c.argTypes.toList with
        | nil => rw [ha, ht] at h; cases h
        | cons t t4 =>
        cases t4 with
        | cons y t3 => rw [ha, ht] at h; cases h
        | nil =>
        rw [ha, ht] at h
        simp only at h
        obtain ⟨v, hk, hs⟩ := cap_sound (ty := o.type) h
        refine ⟨v, hk, QSem.val fun {B0 w0 ok E a w} hS => ?_⟩
        obtain ⟨z, hz, hv⟩ := hs (hS.ev x (harg x (by rw [ha]; simp)))
        have e1 : c.args.map a.eval = #[a.eval x] := by rw [getElem_onel ha]; simp
        exact ⟨z, by simp [execOp, hop, resolve, hc, invoke, builtin, e1, getElem_onel ht, hz], hv⟩
      case min =>
        obtain ⟨v, hk, hs⟩ := minmax_sound (P := P) h
        refine ⟨v, hk, QSem.val fun {B0 w0 ok E a w} hS => ?_⟩
        obtain ⟨hl, hr⟩ := hS.args harg
        obtain ⟨z, hz, hv⟩ := hs c.argTypes o.type hl hr
        have e1 : c.args.map a.eval = (c.args.toList.map a.eval).toArray := by apply Array.ext'; simp
        simp only [if_pos] at hz
        exact ⟨z, by simp only [execOp, hop, resolve, hc, Sem.run_bind, Sem.run_pure, Result.andThen, invoke, builtin, e1, hz], hv⟩
      case max =>
        obtain ⟨v, hk, hs⟩ := minmax_sound (P := P) h
        refine ⟨v, hk, QSem.val fun {B0 w0 ok E a w} hS => ?_⟩
        obtain ⟨hl, hr⟩ := hS.args harg
        obtain ⟨z, hz, hv⟩ := hs c.argTypes o.type hl hr
        have e1 : c.args.map a.eval = (c.args.toList.map a.eval).toArray := by apply Array.ext'; simp
        simp only [Bool.false_eq_true, if_false] at hz
        exact ⟨z, by simp only [execOp, hop, resolve, hc, Sem.run_bind, Sem.run_pure, Result.andThen, invoke, builtin, e1, hz], hv⟩

/-- The operations that look at their operands alone. -/
theorem op_pure {or : Orc R} {o : Oper} (hq : pureOp o.op = true) {sl : List AV} {L : Heap} {k : List AV → AV → Heap → Option R} {r : R} (h : opK P sp base false or o sl L k = some r) :
    ∃ v, k sl v L = some r ∧ ∀ L', QSem P o sl L' v := by
  unfold opK at h
  cases hop : o.op <;> simp only [hop] at h <;> simp only [hop, pureOp] at hq <;> try (cases h; done)
  all_goals try (cases hq; done)
  case move x => exact ⟨_, h, fun L' => QSem.val fun hS => ⟨_, by simp [execOp, hop], hS.ev x (by simp [hop, Op.operands])⟩⟩
  case assign x => exact ⟨_, h, fun L' => QSem.val fun hS => ⟨_, by simp [execOp, hop], hS.ev x (by simp [hop, Op.operands])⟩⟩
  case pick c x y =>
    obtain ⟨t, ht, h1⟩ := Option.bind_eq_some_iff.1 h
    have hc := asB_some ht
    cases t with
    | true =>
      refine ⟨_, h1, fun L' => QSem.val fun {B0 w0 ok E a w} hS => ⟨_, ?_, hS.ev x (by simp [hop, Op.operands])⟩⟩
      have := hS.ev c (by simp [hop, Op.operands])
      rw [hc] at this
      simp [execOp, hop, this.v_inv.1, asBool]
    | false =>
      refine ⟨_, h1, fun L' => QSem.val fun {B0 w0 ok E a w} hS => ⟨_, ?_, hS.ev y (by simp [hop, Op.operands])⟩⟩
      have := hS.ev c (by simp [hop, Op.operands])
      rw [hc] at this
      simp [execOp, hop, this.v_inv.1, asBool]
  case nilCheck x =>
    cases hx : ev sl x <;> rw [hx] at h <;> try (simp only at h) <;> try (cases h; done)
    case d y =>
      cases y <;> try (simp only at h) <;> try (cases h; done)
      case fn f cs =>
        refine ⟨_, h, fun L' => QSem.val fun {B0 w0 ok E a w} hS => ?_⟩
        have := hS.ev x (by simp [hop, Op.operands])
        rw [hx] at this
        refine ⟨a.eval x, ?_, this⟩
        generalize hu : a.eval x = u at this ⊢
        cases this with
        | d hd => cases hd with
          | fn hl hr => simp [execOp, hop, hu]
    case ptr id off =>
      refine ⟨_, h, fun L' => QSem.val fun {B0 w0 ok E a w} hS => ?_⟩
      have := hS.ev x (by simp [hop, Op.operands])
      rw [hx] at this
      refine ⟨a.eval x, ?_, this⟩
      generalize hu : a.eval x = u at this ⊢
      cases this with
      | ptr he => simp [execOp, hop, hu]
    case lp cs off =>
      refine ⟨_, h, fun L' => QSem.val fun {B0 w0 ok E a w} hS => ?_⟩
      have := hS.ev x (by simp [hop, Op.operands])
      rw [hx] at this
      refine ⟨a.eval x, ?_, this⟩
      generalize hu : a.eval x = u at this ⊢
      cases this with
      | lp h1 h2 h3 h4 => simp [execOp, hop, hu]
    case clo f cs =>
      refine ⟨_, h, fun L' => QSem.val fun {B0 w0 ok E a w} hS => ?_⟩
      have := hS.ev x (by simp [hop, Op.operands])
      rw [hx] at this
      refine ⟨a.eval x, ?_, this⟩
      generalize hu : a.eval x = u at this ⊢
      cases this with
      | clo hl hr => simp [execOp, hop, hu]
  case binOp op t x y z =>
    obtain ⟨v, hk, hs⟩ := bin_sound h
    refine ⟨_, hk, fun L' => QSem.val fun {B0 w0 ok E a w} hS => ?_⟩
    obtain ⟨u, hu, hv⟩ := hs x y (hS.ev x (by simp [hop, Op.operands])) (hS.ev y (by simp [hop, Op.operands]))
    exact ⟨u, by
      rw [show execOp a.eval o = (do pure (.value (← (do eqGuard op t x y (a.eval x) (a.eval y); binOp op t (a.eval x) (a.eval y) : Sem Value))) : Sem Next) from by simp only [execOp, hop]]
      rw [Sem.run_bind, hu]; rfl, hv⟩
  case unOp op t x =>
    obtain ⟨v, hk, hs⟩ := un_sound (P := P) h
    refine ⟨_, hk, fun L' => QSem.val fun {B0 w0 ok E a w} hS => ?_⟩
    obtain ⟨u, hu, hv⟩ := hs (hS.ev x (by simp [hop, Op.operands]))
    exact ⟨u, by simp [execOp, hop, hu], hv⟩
  case fieldAddr s x f =>
    obtain ⟨p, hp, h1⟩ := Option.bind_eq_some_iff.1 h
    cases hx : ev sl x <;> rw [hx] at h1 <;> try (simp only at h1) <;> try (cases h1; done)
    case ptr id off =>
      refine ⟨_, h1, fun L' => QSem.val fun {B0 w0 ok E a w} hS => ?_⟩
      have := hS.ev x (by simp [hop, Op.operands])
      rw [hx] at this
      generalize hu : a.eval x = u at this
      cases this with
      | ptr he =>
        rename_i b m
        refine ⟨_, by simp [execOp, hop, hu, run_fieldAt hp]; rfl, ?_⟩
        rw [Addr.add_mid]
        exact .ptr he
    case lp cs off =>
      refine ⟨_, h1, fun L' => QSem.val fun {B0 w0 ok E a w} hS => ?_⟩
      have := hS.ev x (by simp [hop, Op.operands])
      rw [hx] at this
      generalize hu : a.eval x = u at this
      cases this with
      | lp h1 h2 h3 h4 =>
        refine ⟨_, by simp [execOp, hop, hu, run_fieldAt hp]; rfl, ?_⟩
        have := Rep.lp (E := E) (off := off + p.1) h1 h2 h3 h4
        rw [Addr.add_mid, Nat.add_assoc]
        exact this
  case field s x f =>
    obtain ⟨v, hk, hs⟩ := field_sound h
    refine ⟨_, hk, fun L' => QSem.val fun {B0 w0 ok E a w} hS => ?_⟩
    obtain ⟨u, hu, hv⟩ := hs (hS.ev x (by simp [hop, Op.operands]))
    exact ⟨u, by simp [execOp, hop, hu], hv⟩
  case indexAddr t x i =>
    obtain ⟨v, hk, hs⟩ := indexAddr_sound h
    refine ⟨_, hk, fun L' => QSem.val fun {B0 w0 ok E a w} hS => ?_⟩
    obtain ⟨u, hu, hv⟩ := hs (hS.ev x (by simp [hop, Op.operands])) (hS.ev i (by simp [hop, Op.operands]))
    exact ⟨u, by simp [execOp, hop, hu], hv⟩
  case index t x i =>
    obtain ⟨v, hk, hs⟩ := index_sound h
    refine ⟨_, hk, fun L' => QSem.val fun {B0 w0 ok E a w} hS => ?_⟩
    obtain ⟨u, hu, hv⟩ := hs (hS.ev x (by simp [hop, Op.operands])) (hS.ev i (by simp [hop, Op.operands]))
    exact ⟨u, by simp [execOp, hop, hu], hv⟩
  case extract t i =>
    cases hx : ev sl t <;> rw [hx] at h <;> try (simp only at h) <;> try (cases h; done)
    case d y =>
      cases y <;> try (simp only at h) <;> try (cases h; done)
      case tup ds =>
        obtain ⟨d, hd, h1⟩ := Option.bind_eq_some_iff.1 h
        refine ⟨_, h1, fun L' => QSem.val fun {B0 w0 ok E a w} hS => ?_⟩
        have := hS.ev t (by simp [hop, Op.operands])
        rw [hx] at this
        generalize hu : a.eval t = u at this
        cases this with
        | d hD => cases hD with
          | tup hl hr =>
            rename_i vs
            have hlt : i < vs.length := by rw [hl]; exact (List.getElem?_eq_some_iff.1 hd).1
            have hv : vs[i]? = some vs[i] := List.getElem?_eq_getElem hlt
            exact ⟨vs[i], by simp [execOp, hop, hu, Instr.extract, hv], .d (hr i _ _ hv hd)⟩
    case tup ds =>
      obtain ⟨d, hd, h1⟩ := Option.bind_eq_some_iff.1 h
      refine ⟨_, h1, fun L' => QSem.val fun {B0 w0 ok E a w} hS => ?_⟩
      have := hS.ev t (by simp [hop, Op.operands])
      rw [hx] at this
      generalize hu : a.eval t = u at this
      cases this with
      | tup hl hr =>
        rename_i vs
        have hlt : i < vs.length := by rw [hl]; exact (List.getElem?_eq_some_iff.1 hd).1
        have hv : vs[i]? = some vs[i] := List.getElem?_eq_getElem hlt
        exact ⟨vs[i], by simp [execOp, hop, hu, Instr.extract, hv], hr i _ _ hv hd⟩

/-- What a write leaves. -/
def ESem (P : Program) (o : Oper) (sl : List AV) (L : Heap) (L' : Heap) : Prop :=
  ∀ {B0 w0 ok E a w}, ORep B0 w0 ok E o sl L a w → ∀ (K : Act → World → Prop) (Q : Exit → Act → World → Prop),
    (∀ w', Mem B0 w0 ok E L' w' → Grow E w ok E w' ok → K (a.put o.dst undef) w') → o.wp P a w K Q
theorem op_write {or : Orc R} {o : Oper} (hq : effOp o.op = true) {sl : List AV} {L : Heap} {k : List AV → AV → Heap → Option R} {r : R} (h : opK P sp base false or o sl L k = some r) :
    ∃ L', k sl skipped L' = some r ∧ ESem P o sl L L' := by
  unfold opK at h
  cases hop : o.op <;> simp only [hop] at h <;> simp only [hop, effOp] at hq <;> try (cases h; done)
  all_goals try (cases hq; done)
  case store t x y =>
    obtain ⟨L', hk, hs⟩ := store_sound h
    refine ⟨_, hk, fun {B0 w0 ok E a w} hS K Q hK => ?_⟩
    obtain ⟨w', hr, hM, g⟩ := hs hS.mem (hS.ev x (by simp [hop, Op.operands])) (hS.ev y (by simp [hop, Op.operands]))
    exact wp_skip_op (by simp [execOp, hop, hr]) (hK w' hM g)
end Go.Ev
