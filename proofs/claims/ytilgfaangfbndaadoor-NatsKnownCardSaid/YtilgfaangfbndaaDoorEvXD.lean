/-
  The evaluator: EvQuiet EvDraw EvFun EvRow EvTab.
-/
import Derived.Test.YtilgfaangfbndaaDoorEvXC
import Derived.ProofKit
import Derived.OpenShut
import Derived.Carry
/-
  The operations that may run in any order: they look at their operands alone, and leave the local blocks.
-/
set_option linter.unusedSimpArgs false
set_option linter.unusedVariables false
namespace Go.Ev
open Go Go.RowKit
variable {R : Type} {P : Program} {base : Nat} {sp : SpTab}

/-- The operands of an operation, and the memory. -/
structure ORep (B0 : Nat) (w0 : World) (ok : Nat → Prop) (E : Env) (o : Oper) (sl : List AV) (L : Heap) (a : Act) (w : World) : Prop where
  mem : Mem B0 w0 ok E L w
  ev : ∀ x, x ∈ o.op.operands → Rep E w ok (a.eval x) (ev sl x)

/-- What such an operation leaves. -/
def QSem (P : Program) (o : Oper) (sl : List AV) (L : Heap) (v : AV) : Prop :=
  ∀ {B0 w0 ok E a w}, ORep B0 w0 ok E o sl L a w → ∀ (K : Act → World → Prop) (Q : Exit → Act → World → Prop),
    (∀ ok' u w', Below w.heap.size w w' → Mem B0 w0 ok' E L w' → Grow E w ok E w' ok' → (∀ b, ok' b → ok b ∨ B0 ≤ b) → Rep E w' ok' u v → K (a.put o.dst u) w') → o.wp P a w K Q

theorem QSem.val {o : Oper} {sl : List AV} {L : Heap} {v : AV}
    (h : ∀ {B0 w0 ok E a w}, ORep B0 w0 ok E o sl L a w → ∃ u, (execOp a.eval o).run P w = .ok (.value u) w ∧ Rep E w ok u v) : QSem P o sl L v :=
  fun {B0 w0 ok E a w} hS K Q hK => by
    obtain ⟨u, hr, hv⟩ := h hS
    exact wp_value hr (hK ok u w (Below.refl _ _) hS.mem (Grow.refl _ _ _) (fun _ h => .inl h) hv)

theorem QSem.grow {o : Oper} {sl : List AV} {L : Heap} {v : AV}
    (h : ∀ {B0 w0 ok E a w}, ORep B0 w0 ok E o sl L a w → ∃ u w' ok', (execOp a.eval o).run P w = .ok (.value u) w' ∧ Below w.heap.size w w' ∧ Mem B0 w0 ok' E L w' ∧ Grow E w ok E w' ok' ∧ (∀ b, ok' b → ok b ∨ B0 ≤ b) ∧ Rep E w' ok' u v) : QSem P o sl L v :=
  fun {B0 w0 ok E a w} hS K Q hK => by
    obtain ⟨u, w', ok', hr, hb, hM, g, e, hv⟩ := h hS
    exact wp_value hr (hK ok' u w' hb hM g e hv)

theorem ORep.args {B0 : Nat} {w0 : World} {ok : Nat → Prop} {E : Env} {o : Oper} {sl : List AV} {L : Heap} {a : Act} {w : World} (h : ORep B0 w0 ok E o sl L a w) {xs : List Operand} (hx : ∀ x, x ∈ xs → x ∈ o.op.operands) : Reps E w ok (xs.map a.eval) (xs.map (Ev.ev sl)) := by
  refine ⟨by simp, fun i p q hp hq => ?_⟩
  rw [List.getElem?_map] at hp hq
  cases hi : xs[i]? with
  | none => rw [hi] at hp; cases hp
  | some x => rw [hi] at hp hq; cases hp; cases hq; exact h.ev x (hx x (List.mem_of_getElem? hi))

theorem ORep.opt {B0 : Nat} {w0 : World} {ok : Nat → Prop} {E : Env} {o : Oper} {sl : List AV} {L : Heap} {a : Act} {w : World} (h : ORep B0 w0 ok E o sl L a w) {x : Option Operand} (hx : ∀ y, x = some y → y ∈ o.op.operands) : RepO E w ok (x.map a.eval) (x.map (Ev.ev sl)) := by
  cases x with
  | none => trivial
  | some x => exact h.ev x (hx x rfl)

theorem ORep.parts {B0 : Nat} {w0 : World} {ok : Nat → Prop} {E : Env} {o : Oper} {sl : List AV} {L : Heap} {a : Act} {w : World} (h : ORep B0 w0 ok E o sl L a w) {parts : List (Nat × Operand)} (hx : ∀ p, p ∈ parts → p.2 ∈ o.op.operands) :
    (parts.map fun p => (p.1, a.eval p.2)).length = (parts.map fun p => (p.1, Ev.ev sl p.2)).length ∧
    ∀ (i : Nat) p q, (parts.map fun p => (p.1, a.eval p.2))[i]? = some p → (parts.map fun p => (p.1, Ev.ev sl p.2))[i]? = some q → p.1 = q.1 ∧ Rep E w ok p.2 q.2 := by
  refine ⟨by simp, fun i p q hp hq => ?_⟩
  rw [List.getElem?_map] at hp hq
  cases hi : parts[i]? with
  | none => rw [hi] at hp; cases hp
  | some x => rw [hi] at hp hq; cases hp; cases hq; exact ⟨rfl, h.ev x.2 (hx x (List.mem_of_getElem? hi))⟩

theorem op_quiet (hsp : SpOk P sp) {or : Orc R} {o : Oper} (hq : quietOp sp o.op = true) {sl : List AV} {L : Heap} {k : List AV → AV → Heap → Option R} {r : R} (h : opK P sp base false or o sl L k = some r) :
    ∃ v, k sl v L = some r ∧ QSem P o sl L v := by
  unfold opK at h
  cases hop : o.op <;> simp only [hop] at h <;> simp only [hop, quietOp] at hq <;> try (cases h; done)
  all_goals try (cases hq; done)
  case move x => exact ⟨_, h, QSem.val fun hS => ⟨_, by simp [execOp, hop], hS.ev x (by simp [hop, Op.operands])⟩⟩
  case assign x => exact ⟨_, h, QSem.val fun hS => ⟨_, by simp [execOp, hop], hS.ev x (by simp [hop, Op.operands])⟩⟩
  case pick c x y =>
    obtain ⟨t, ht, h1⟩ := Option.bind_eq_some_iff.1 h
    have hc := asB_some ht
    cases t with
    | true =>
      refine ⟨_, h1, QSem.val fun {B0 w0 ok E a w} hS => ⟨_, ?_, hS.ev x (by simp [hop, Op.operands])⟩⟩
      have := hS.ev c (by simp [hop, Op.operands])
      rw [hc] at this
      simp [execOp, hop, this.v_inv.1, asBool]
    | false =>
      refine ⟨_, h1, QSem.val fun {B0 w0 ok E a w} hS => ⟨_, ?_, hS.ev y (by simp [hop, Op.operands])⟩⟩
      have := hS.ev c (by simp [hop, Op.operands])
      rw [hc] at this
      simp [execOp, hop, this.v_inv.1, asBool]
  case load t x =>
    obtain ⟨v, hk, hs⟩ := load_sound h
    refine ⟨_, hk, QSem.val fun {B0 w0 ok E a w} hS => ?_⟩
    obtain ⟨y, hy, hv⟩ := hs hS.mem (hS.ev x (by simp [hop, Op.operands]))
    exact ⟨y, by simp [execOp, hop, hy], hv⟩
  case nilCheck x =>
    cases hx : ev sl x <;> rw [hx] at h <;> try (simp only at h) <;> try (cases h; done)
    case d y =>
      cases y <;> try (simp only at h) <;> try (cases h; done)
      case fn f cs =>
        refine ⟨_, h, QSem.val fun {B0 w0 ok E a w} hS => ?_⟩
        have := hS.ev x (by simp [hop, Op.operands])
        rw [hx] at this
        refine ⟨a.eval x, ?_, this⟩
        generalize hu : a.eval x = u at this ⊢
        cases this with
        | d hd => cases hd with
          | fn hl hr => simp [execOp, hop, hu]
    case ptr id off =>
      refine ⟨_, h, QSem.val fun {B0 w0 ok E a w} hS => ?_⟩
      have := hS.ev x (by simp [hop, Op.operands])
      rw [hx] at this
      refine ⟨a.eval x, ?_, this⟩
      generalize hu : a.eval x = u at this ⊢
      cases this with
      | ptr he => simp [execOp, hop, hu]
    case lp cs off =>
      refine ⟨_, h, QSem.val fun {B0 w0 ok E a w} hS => ?_⟩
      have := hS.ev x (by simp [hop, Op.operands])
      rw [hx] at this
      refine ⟨a.eval x, ?_, this⟩
      generalize hu : a.eval x = u at this ⊢
      cases this with
      | lp h1 h2 h3 h4 => simp [execOp, hop, hu]
    case clo f cs =>
      refine ⟨_, h, QSem.val fun {B0 w0 ok E a w} hS => ?_⟩
      have := hS.ev x (by simp [hop, Op.operands])
      rw [hx] at this
      refine ⟨a.eval x, ?_, this⟩
      generalize hu : a.eval x = u at this ⊢
      cases this with
      | clo hl hr => simp [execOp, hop, hu]
  case binOp op t x y z =>
    obtain ⟨v, hk, hs⟩ := bin_sound h
    refine ⟨_, hk, QSem.val fun {B0 w0 ok E a w} hS => ?_⟩
    obtain ⟨u, hu, hv⟩ := hs x y (hS.ev x (by simp [hop, Op.operands])) (hS.ev y (by simp [hop, Op.operands]))
    exact ⟨u, by
      rw [show execOp a.eval o = (do pure (.value (← (do eqGuard op t x y (a.eval x) (a.eval y); binOp op t (a.eval x) (a.eval y) : Sem Value))) : Sem Next) from by simp only [execOp, hop]]
      rw [Sem.run_bind, hu]; rfl, hv⟩
  case unOp op t x =>
    obtain ⟨v, hk, hs⟩ := un_sound (P := P) h
    refine ⟨_, hk, QSem.val fun {B0 w0 ok E a w} hS => ?_⟩
    obtain ⟨u, hu, hv⟩ := hs (hS.ev x (by simp [hop, Op.operands]))
    exact ⟨u, by simp [execOp, hop, hu], hv⟩
  case convert s d x =>
    obtain ⟨v, hk, hs⟩ := conv_sound h
    refine ⟨_, hk, QSem.grow fun {B0 w0 ok E a w} hS => ?_⟩
    obtain ⟨u, w', ok', hu, hb, hM, g, e, hv⟩ := hs hS.mem (hS.ev x (by simp [hop, Op.operands]))
    exact ⟨u, w', ok', by simp [execOp, hop, hu], hb, hM, g, e, hv⟩
  case slice t x lo hi mx =>
    obtain ⟨v, hk, hs⟩ := slice_sound h
    refine ⟨_, hk, QSem.val fun {B0 w0 ok E a w} hS => ?_⟩
    obtain ⟨u, hu, hv⟩ := hs hS.mem (hS.ev x (by simp [hop, Op.operands])) (hS.opt (x := lo) (by intro y hy; simp [hop, Op.operands, hy])) (hS.opt (x := hi) (by intro y hy; simp [hop, Op.operands, hy])) (hS.opt (x := mx) (by intro y hy; simp [hop, Op.operands, hy]))
    exact ⟨u, by simp [execOp, hop, hu], hv⟩
  case fieldAddr s x f =>
    obtain ⟨p, hp, h1⟩ := Option.bind_eq_some_iff.1 h
    cases hx : ev sl x <;> rw [hx] at h1 <;> try (simp only at h1) <;> try (cases h1; done)
    case ptr id off =>
      refine ⟨_, h1, QSem.val fun {B0 w0 ok E a w} hS => ?_⟩
      have := hS.ev x (by simp [hop, Op.operands])
      rw [hx] at this
      generalize hu : a.eval x = u at this
      cases this with
      | ptr he =>
        rename_i b m
        refine ⟨_, by simp [execOp, hop, hu, run_fieldAt hp]; rfl, ?_⟩
        rw [Addr.add_mid]
        exact .ptr he
    case lp cs off =>
      refine ⟨_, h1, QSem.val fun {B0 w0 ok E a w} hS => ?_⟩
      have := hS.ev x (by simp [hop, Op.operands])
      rw [hx] at this
      generalize hu : a.eval x = u at this
      cases this with
      | lp h1 h2 h3 h4 =>
        refine ⟨_, by simp [execOp, hop, hu, run_fieldAt hp]; rfl, ?_⟩
        have := Rep.lp (E := E) (off := off + p.1) h1 h2 h3 h4
        rw [Addr.add_mid, Nat.add_assoc]
        exact this
  case field s x f =>
    obtain ⟨v, hk, hs⟩ := field_sound h
    refine ⟨_, hk, QSem.val fun {B0 w0 ok E a w} hS => ?_⟩
    obtain ⟨u, hu, hv⟩ := hs (hS.ev x (by simp [hop, Op.operands]))
    exact ⟨u, by simp [execOp, hop, hu], hv⟩
  case indexAddr t x i =>
    obtain ⟨v, hk, hs⟩ := indexAddr_sound h
    refine ⟨_, hk, QSem.val fun {B0 w0 ok E a w} hS => ?_⟩
    obtain ⟨u, hu, hv⟩ := hs (hS.ev x (by simp [hop, Op.operands])) (hS.ev i (by simp [hop, Op.operands]))
    exact ⟨u, by simp [execOp, hop, hu], hv⟩
  case index t x i =>
    obtain ⟨v, hk, hs⟩ := index_sound h
    refine ⟨_, hk, QSem.val fun {B0 w0 ok E a w} hS => ?_⟩
    obtain ⟨u, hu, hv⟩ := hs (hS.ev x (by simp [hop, Op.operands])) (hS.ev i (by simp [hop, Op.operands]))
    exact ⟨u, by simp [execOp, hop, hu], hv⟩
  case extract t i =>
    cases hx : ev sl t <;> rw [hx] at h <;> try (simp only at h) <;> try (cases h; done)
    case d y =>
      cases y <;> try (simp only at h) <;> try (cases h; done)
      case tup ds =>
        obtain ⟨d, hd, h1⟩ := Option.bind_eq_some_iff.1 h
        refine ⟨_, h1, QSem.val fun {B0 w0 ok E a w} hS => ?_⟩
        have := hS.ev t (by simp [hop, Op.operands])
        rw [hx] at this
        generalize hu : a.eval t = u at this
        cases this with
        | d hD => cases hD with
          | tup hl hr =>
            rename_i vs
            have hlt : i < vs.length := by rw [hl]; exact (List.getElem?_eq_some_iff.1 hd).1
            have hv : vs[i]? = some vs[i] := List.getElem?_eq_getElem hlt
            exact ⟨vs[i], by simp [execOp, hop, hu, Instr.extract, hv], .d (hr i _ _ hv hd)⟩
    case tup ds =>
      obtain ⟨d, hd, h1⟩ := Option.bind_eq_some_iff.1 h
      refine ⟨_, h1, QSem.val fun {B0 w0 ok E a w} hS => ?_⟩
      have := hS.ev t (by simp [hop, Op.operands])
      rw [hx] at this
      generalize hu : a.eval t = u at this
      cases this with
      | tup hl hr =>
        rename_i vs
        have hlt : i < vs.length := by rw [hl]; exact (List.getElem?_eq_some_iff.1 hd).1
        have hv : vs[i]? = some vs[i] := List.getElem?_eq_getElem hlt
        exact ⟨vs[i], by simp [execOp, hop, hu, Instr.extract, hv], hr i _ _ hv hd⟩
  case build t parts =>
    obtain ⟨z, hz, h1⟩ := Option.bind_eq_some_iff.1 h
    cases hu : P.underlying t with
    | none => rw [hu] at h1; cases h1
    | some d =>
      rw [hu] at h1
      cases d <;> try (simp only at h1) <;> try (cases h1; done)
      case struct fs =>
        obtain ⟨places, hpl, h2⟩ := Option.bind_eq_some_iff.1 h1
        obtain ⟨v, hk, hs⟩ := build_sound (P := P) (k := fun v => k sl v L) hz h2 (fun ps c c' hc hf => by
          obtain ⟨i, zv, hi, hzv, rfl⟩ := hc
          simp [Program.built, hi, hu, hzv, hpl]
          simpa using hf)
        refine ⟨_, hk, QSem.val fun {B0 w0 ok E a w} hS => ?_⟩
        obtain ⟨hl, hr⟩ := hS.parts (parts := parts.toList) (fun p hp => by simp only [hop, Op.operands]; simpa using ⟨p.1, by simpa using hp⟩)
        obtain ⟨y, hy, hv⟩ := hs hl hr
        exact ⟨y, by
          have h1 : (parts.map fun p => (p.1, a.eval p.2)) = (parts.toList.map fun p => (p.1, a.eval p.2)).toArray := by
            apply Array.ext'; simp
          simp only [execOp, hop]
          erw [h1]
          simp [hy], hv⟩
      case array m e =>
        obtain ⟨i, hi, h2⟩ := Option.bind_eq_some_iff.1 h1
        obtain ⟨v, hk, hs⟩ := build_sound (P := P) (k := fun v => k sl v L) hz h2 (fun ps c c' hc hf => by
          obtain ⟨j, zv, hj, hzv, rfl⟩ := hc
          exact places_sound hu hi hj hzv hf)
        refine ⟨_, hk, QSem.val fun {B0 w0 ok E a w} hS => ?_⟩
        obtain ⟨hl, hr⟩ := hS.parts (parts := parts.toList) (fun p hp => by simp only [hop, Op.operands]; simpa using ⟨p.1, by simpa using hp⟩)
        obtain ⟨y, hy, hv⟩ := hs hl hr
        exact ⟨y, by
          have h1 : (parts.map fun p => (p.1, a.eval p.2)) = (parts.toList.map fun p => (p.1, a.eval p.2)).toArray := by
            apply Array.ext'; simp
          simp only [execOp, hop]
          erw [h1]
          simp [hy], hv⟩
  case makeFunc g first cap =>
    cases g <;> try (simp only at h) <;> try (cases h; done)
    case func f =>
    by_cases hf : first.size = 0
    case neg => rw [if_neg hf] at h; cases h
    rw [if_pos hf] at h
    obtain rfl : first = #[] := Array.eq_empty_of_size_eq_zero hf
    have hrun : ∀ (a : Act) (w : World), (execOp a.eval o).run P w = .ok (.value (.func (.func f) #[] (cap.toList.map a.eval).toArray)) w := fun a w => by
      have e1 : cap.map a.eval = (cap.toList.map a.eval).toArray := by apply Array.ext'; simp
      simp [execOp, hop, Instr.makeFunc]
      exact e1
    cases hd : allD (cap.toList.map (ev sl)) with
    | some ds =>
      rw [hd] at h
      refine ⟨_, h, QSem.val fun {B0 w0 ok E a w} hS => ⟨_, hrun a w, .d ?_⟩⟩
      obtain ⟨hl, hr⟩ := hS.args (xs := cap.toList) (fun x hx => by simp only [hop, Op.operands]; simpa using hx)
      have hds := allD_some hd
      refine .fn (by rw [hl, hds]; simp) fun i x d hx hd' => ?_
      have := hr i x (.d d) hx (by rw [hds, List.getElem?_map, hd']; rfl)
      cases this with
      | d h => exact h
    | none =>
      rw [hd] at h
      refine ⟨_, h, QSem.val fun {B0 w0 ok E a w} hS => ⟨_, hrun a w, ?_⟩⟩
      obtain ⟨hl, hr⟩ := hS.args (xs := cap.toList) (fun x hx => by simp only [hop, Op.operands]; simpa using hx)
      exact .clo hl hr
  case call c =>
    have harg : ∀ x, x ∈ c.args.toList → x ∈ o.op.operands := fun x hx => by simp only [hop, Op.operands, Call.operands]; simp at hx; simp [hx]
    unfold callK at h
    cases hc : c.callee with
    | invoke a b => rw [hc] at h; cases h
    | value f =>
      rw [hc] at h hq
      simp only at h hq
      have hfm : f ∈ o.op.operands := by simp [hop, Op.operands, Call.operands, hc]
      cases f <;> try (simp only at hq) <;> try (cases hq; done)
      case func g =>
        simp only [ev] at h
        cases hl : sp.lookup g with
        | none => rw [hl] at hq; cases hq
        | some s =>
          rw [hl] at h
          simp only [Bool.false_and, Bool.false_eq_true, if_false] at h
          obtain ⟨v, hk, hen, hpure⟩ := spK_sound (fun ds d hd => hsp g s ds d hl hd) h
          refine ⟨v, hk, fun {B0 w0 ok E a w} hS K Q hK => ?_⟩
          refine call_step hop hc hen (vs := []) rfl (hpure hS.mem (hS.args harg) ⟨rfl, fun i x d hx => by simp at hx⟩) ?_
          rintro u w' ⟨ok', hb, hM, g, ext, hu⟩
          exact hK ok' u w' hb hM g ext hu
    | builtin b =>
      rw [hc] at h hq
      simp only at h hq
      cases b <;> try (simp only at hq) <;> try (cases hq; done)
      case len =>
        cases ha : c.args.toList with
        | nil => rw [ha] at h; cases h
        | cons x t1 =>
        cases t1 with
        | cons y t3 => rw [ha] at h; cases h
        | nil =>
        cases ht : c.argTypes.toList with
        | nil => rw [ha, ht] at h; cases h
        | cons t t4 =>
        cases t4 with
        | cons y t3 => rw [ha, ht] at h; cases h
        | nil =>
        rw [ha, ht] at h
        simp only at h
        obtain ⟨v, hk, hs⟩ := len_sound (ty := o.type) h
        refine ⟨v, hk, QSem.val fun {B0 w0 ok E a w} hS => ?_⟩
        obtain ⟨z, hz, hv⟩ := hs (hS.ev x (harg x (by rw [ha]; simp)))
        have e1 : c.args.map a.eval = #[a.eval x] := by rw [getElem_onel ha]; simp
        exact ⟨z, by simp [execOp, hop, resolve, hc, invoke, builtin, e1, getElem_onel ht, hz], hv⟩
      case cap =>
        cases ha : c.args.toList with
        | nil => rw [ha] at h; cases h
        | cons x t1 =>
        cases t1 with
        | cons y t3 => rw [ha] at h; cases h
        | nil =>
        cases ht : c.argTypes.toList with
        | nil => rw [ha, ht] at h; cases h
        | cons t t4 =>
        cases t4 with
        | cons y t3 => rw [ha, ht] at h; cases h
        | nil =>
        rw [ha, ht] at h
        simp only at h
        obtain ⟨v, hk, hs⟩ := cap_sound (ty := o.type) h
        refine ⟨v, hk, QSem.val fun {B0 w0 ok E a w} hS => ?_⟩
        obtain ⟨z, hz, hv⟩ := hs (hS.ev x (harg x (by rw [ha]; simp)))
        have e1 : c.args.map a.eval = #[a.eval x] := by rw [getElem_onel ha]; simp
        exact ⟨z, by simp [execOp, hop, resolve, hc, invoke, builtin, e1, getElem_onel ht, hz], hv⟩
      case min =>
        obtain ⟨v, hk, hs⟩ := minmax_sound (P := P) h
        refine ⟨v, hk, QSem.val fun {B0 w0 ok E a w} hS => ?_⟩
        obtain ⟨hl, hr⟩ := hS.args harg
        obtain ⟨z, hz, hv⟩ := hs c.argTypes o.type hl hr
        have e1 : c.args.map a.eval = (c.args.toList.map a.eval).toArray := by apply Array.ext'; simp
        simp only [if_pos] at hz
        exact ⟨z, by simp only [execOp, hop, resolve, hc, Sem.run_bind, Sem.run_pure, Result.andThen, invoke, builtin, e1, hz], hv⟩
      case max =>
        obtain ⟨v, hk, hs⟩ := minmax_sound (P := P) h
        refine ⟨v, hk, QSem.val fun {B0 w0 ok E a w} hS => ?_⟩
        obtain ⟨hl, hr⟩ := hS.args harg
        obtain ⟨z, hz, hv⟩ := hs c.argTypes o.type hl hr
        have e1 : c.args.map a.eval = (c.args.toList.map a.eval).toArray := by apply Array.ext'; simp
        simp only [Bool.false_eq_true, if_false] at hz
        exact ⟨z, by simp only [execOp, hop, resolve, hc, Sem.run_bind, Sem.run_pure, Result.andThen, invoke, builtin, e1, hz], hv⟩

/-- The operations that look at their operands alone. -/
theorem op_pure {or : Orc R} {o : Oper} (hq : pureOp o.op = true) {sl : List AV} {L : Heap} {k : List AV → AV → Heap → Option R} {r : R} (h : opK P sp base false or o sl L k = some r) :
    ∃ v, k sl v L = some r ∧ ∀ L', QSem P o sl L' v := by
  unfold opK at h
  cases hop : o.op <;> simp only [hop] at h <;> simp only [hop, pureOp] at hq <;> try (cases h; done)
  all_goals try (cases hq; done)
  case move x => exact ⟨_, h, fun L' => QSem.val fun hS => ⟨_, by simp [execOp, hop], hS.ev x (by simp [hop, Op.operands])⟩⟩
  case assign x => exact ⟨_, h, fun L' => QSem.val fun hS => ⟨_, by simp [execOp, hop], hS.ev x (by simp [hop, Op.operands])⟩⟩
  case pick c x y =>
    obtain ⟨t, ht, h1⟩ := Option.bind_eq_some_iff.1 h
    have hc := asB_some ht
    cases t with
    | true =>
      refine ⟨_, h1, fun L' => QSem.val fun {B0 w0 ok E a w} hS => ⟨_, ?_, hS.ev x (by simp [hop, Op.operands])⟩⟩
      have := hS.ev c (by simp [hop, Op.operands])
      rw [hc] at this
      simp [execOp, hop, this.v_inv.1, asBool]
    | false =>
      refine ⟨_, h1, fun L' => QSem.val fun {B0 w0 ok E a w} hS => ⟨_, ?_, hS.ev y (by simp [hop, Op.operands])⟩⟩
      have := hS.ev c (by simp [hop, Op.operands])
      rw [hc] at this
      simp [execOp, hop, this.v_inv.1, asBool]
  case nilCheck x =>
    cases hx : ev sl x <;> rw [hx] at h <;> try (simp only at h) <;> try (cases h; done)
    case d y =>
      cases y <;> try (simp only at h) <;> try (cases h; done)
      case fn f cs =>
        refine ⟨_, h, fun L' => QSem.val fun {B0 w0 ok E a w} hS => ?_⟩
        have := hS.ev x (by simp [hop, Op.operands])
        rw [hx] at this
        refine ⟨a.eval x, ?_, this⟩
        generalize hu : a.eval x = u at this ⊢
        cases this with
        | d hd => cases hd with
          | fn hl hr => simp [execOp, hop, hu]
    case ptr id off =>
      refine ⟨_, h, fun L' => QSem.val fun {B0 w0 ok E a w} hS => ?_⟩
      have := hS.ev x (by simp [hop, Op.operands])
      rw [hx] at this
      refine ⟨a.eval x, ?_, this⟩
      generalize hu : a.eval x = u at this ⊢
      cases this with
      | ptr he => simp [execOp, hop, hu]
    case lp cs off =>
      refine ⟨_, h, fun L' => QSem.val fun {B0 w0 ok E a w} hS => ?_⟩
      have := hS.ev x (by simp [hop, Op.operands])
      rw [hx] at this
      refine ⟨a.eval x, ?_, this⟩
      generalize hu : a.eval x = u at this ⊢
      cases this with
      | lp h1 h2 h3 h4 => simp [execOp, hop, hu]
    case clo f cs =>
      refine ⟨_, h, fun L' => QSem.val fun {B0 w0 ok E a w} hS => ?_⟩
      have := hS.ev x (by simp [hop, Op.operands])
      rw [hx] at this
      refine ⟨a.eval x, ?_, this⟩
      generalize hu : a.eval x = u at this ⊢
      cases this with
      | clo hl hr => simp [execOp, hop, hu]
  case binOp op t x y z =>
    obtain ⟨v, hk, hs⟩ := bin_sound h
    refine ⟨_, hk, fun L' => QSem.val fun {B0 w0 ok E a w} hS => ?_⟩
    obtain ⟨u, hu, hv⟩ := hs x y (hS.ev x (by simp [hop, Op.operands])) (hS.ev y (by simp [hop, Op.operands]))
    exact ⟨u, by
      rw [show execOp a.eval o = (do pure (.value (← (do eqGuard op t x y (a.eval x) (a.eval y); binOp op t (a.eval x) (a.eval y) : Sem Value))) : Sem Next) from by simp only [execOp, hop]]
      rw [Sem.run_bind, hu]; rfl, hv⟩
  case unOp op t x =>
    obtain ⟨v, hk, hs⟩ := un_sound (P := P) h
    refine ⟨_, hk, fun L' => QSem.val fun {B0 w0 ok E a w} hS => ?_⟩
    obtain ⟨u, hu, hv⟩ := hs (hS.ev x (by simp [hop, Op.operands]))
    exact ⟨u, by simp [execOp, hop, hu], hv⟩
  case fieldAddr s x f =>
    obtain ⟨p, hp, h1⟩ := Option.bind_eq_some_iff.1 h
    cases hx : ev sl x <;> rw [hx] at h1 <;> try (simp only at h1) <;> try (cases h1; done)
    case ptr id off =>
      refine ⟨_, h1, fun L' => QSem.val fun {B0 w0 ok E a w} hS => ?_⟩
      have := hS.ev x (by simp [hop, Op.operands])
      rw [hx] at this
      generalize hu : a.eval x = u at this
      cases this with
      | ptr he =>
        rename_i b m
        refine ⟨_, by simp [execOp, hop, hu, run_fieldAt hp]; rfl, ?_⟩
        rw [Addr.add_mid]
        exact .ptr he
    case lp cs off =>
      refine ⟨_, h1, fun L' => QSem.val fun {B0 w0 ok E a w} hS => ?_⟩
      have := hS.ev x (by simp [hop, Op.operands])
      rw [hx] at this
      generalize hu : a.eval x = u at this
      cases this with
      | lp h1 h2 h3 h4 =>
        refine ⟨_, by simp [execOp, hop, hu, run_fieldAt hp]; rfl, ?_⟩
        have := Rep.lp (E := E) (off := off + p.1) h1 h2 h3 h4
        rw [Addr.add_mid, Nat.add_assoc]
        exact this
  case field s x f =>
    obtain ⟨v, hk, hs⟩ := field_sound h
    refine ⟨_, hk, fun L' => QSem.val fun {B0 w0 ok E a w} hS => ?_⟩
    obtain ⟨u, hu, hv⟩ := hs (hS.ev x (by simp [hop, Op.operands]))
    exact ⟨u, by simp [execOp, hop, hu], hv⟩
  case indexAddr t x i =>
    obtain ⟨v, hk, hs⟩ := indexAddr_sound h
    refine ⟨_, hk, fun L' => QSem.val fun {B0 w0 ok E a w} hS => ?_⟩
    obtain ⟨u, hu, hv⟩ := hs (hS.ev x (by simp [hop, Op.operands])) (hS.ev i (by simp [hop, Op.operands]))
    exact ⟨u, by simp [execOp, hop, hu], hv⟩
  case index t x i =>
    obtain ⟨v, hk, hs⟩ := index_sound h
    refine ⟨_, hk, fun L' => QSem.val fun {B0 w0 ok E a w} hS => ?_⟩
    obtain ⟨u, hu, hv⟩ := hs (hS.ev x (by simp [hop, Op.operands])) (hS.ev i (by simp [hop, Op.operands]))
    exact ⟨u, by simp [execOp, hop, hu], hv⟩
  case extract t i =>
    cases hx : ev sl t <;> rw [hx] at h <;> try (simp only at h) <;> try (cases h; done)
    case d y =>
      cases y <;> try (simp only at h) <;> try (cases h; done)
      case tup ds =>
        obtain ⟨d, hd, h1⟩ := Option.bind_eq_some_iff.1 h
        refine ⟨_, h1, fun L' => QSem.val fun {B0 w0 ok E a w} hS => ?_⟩
        have := hS.ev t (by simp [hop, Op.operands])
        rw [hx] at this
        generalize hu : a.eval t = u at this
        cases this with
        | d hD => cases hD with
          | tup hl hr =>
            rename_i vs
            have hlt : i < vs.length := by rw [hl]; exact (List.getElem?_eq_some_iff.1 hd).1
            have hv : vs[i]? = some vs[i] := List.getElem?_eq_getElem hlt
            exact ⟨vs[i], by simp [execOp, hop, hu, Instr.extract, hv], .d (hr i _ _ hv hd)⟩
    case tup ds =>
      obtain ⟨d, hd, h1⟩ := Option.bind_eq_some_iff.1 h
      refine ⟨_, h1, fun L' => QSem.val fun {B0 w0 ok E a w} hS => ?_⟩
      have := hS.ev t (by simp [hop, Op.operands])
      rw [hx] at this
      generalize hu : a.eval t = u at this
      cases this with
      | tup hl hr =>
        rename_i vs
        have hlt : i < vs.length := by rw [hl]; exact (List.getElem?_eq_some_iff.1 hd).1
        have hv : vs[i]? = some vs[i] := List.getElem?_eq_getElem hlt
        exact ⟨vs[i], by simp [execOp, hop, hu, Instr.extract, hv], hr i _ _ hv hd⟩

/-- What a write leaves. -/
def ESem (P : Program) (o : Oper) (sl : List AV) (L : Heap) (L' : Heap) : Prop :=
  ∀ {B0 w0 ok E a w}, ORep B0 w0 ok E o sl L a w → ∀ (K : Act → World → Prop) (Q : Exit → Act → World → Prop),
    (∀ w', Mem B0 w0 ok E L' w' → Grow E w ok E w' ok → K (a.put o.dst undef) w') → o.wp P a w K Q
theorem op_write {or : Orc R} {o : Oper} (hq : effOp o.op = true) {sl : List AV} {L : Heap} {k : List AV → AV → Heap → Option R} {r : R} (h : opK P sp base false or o sl L k = some r) :
    ∃ L', k sl skipped L' = some r ∧ ESem P o sl L L' := by
  unfold opK at h
  cases hop : o.op <;> simp only [hop] at h <;> simp only [hop, effOp] at hq <;> try (cases h; done)
  all_goals try (cases hq; done)
  case store t x y =>
    obtain ⟨L', hk, hs⟩ := store_sound h
    refine ⟨_, hk, fun {B0 w0 ok E a w} hS K Q hK => ?_⟩
    obtain ⟨w', hr, hM, g⟩ := hs hS.mem (hS.ev x (by simp [hop, Op.operands])) (hS.ev y (by simp [hop, Op.operands]))
    exact wp_skip_op (by simp [execOp, hop, hr]) (hK w' hM g)
end Go.Ev

/-
  Regions whose order is drawn: where all operations are quiet and clashing ones are bound, every order comes to the same.
-/
set_option linter.unusedSimpArgs false
set_option linter.unusedVariables false
namespace Go.Ev
open Go Go.RowKit
variable {R : Type} {P : Program} {base : Nat} {sp : SpTab}

/-! ### Ancestors -/
def ancF (o : Oper) (acc : List Nat) : Nat := o.after.toList.foldl (fun s e => if Region.binds .any e then s ||| 2 ^ e.on ||| acc.getD e.on 0 else s) 0

theorem ancs_eq : ∀ (l : List Oper) (acc : List Nat), ∃ tail, ancs l acc = acc ++ tail ∧ tail.length = l.length ∧
    ∀ (j : Nat) o, l[j]? = some o → (ancs l acc)[acc.length + j]? = some (ancF o ((ancs l acc).take (acc.length + j)))
  | [], acc => ⟨[], by simp [ancs], rfl, fun j o h => by simp at h⟩
  | o :: rest, acc => by
    obtain ⟨tail, h1, h2, h3⟩ := ancs_eq rest (acc ++ [ancF o acc])
    have e0 : ancs (o :: rest) acc = ancs rest (acc ++ [ancF o acc]) := rfl
    refine ⟨ancF o acc :: tail, by rw [e0, h1]; simp, by simp [h2], fun j o' hj => ?_⟩
    cases j with
    | zero =>
      simp at hj
      subst hj
      rw [e0, h1]
      simp
    | succ j =>
      have := h3 j o' (by simpa using hj)
      rw [e0]
      have e1 : (acc ++ [ancF o acc]).length + j = acc.length + (j + 1) := by simp; omega
      rw [e1] at this
      exact this

theorem foldl_bits (acc : List Nat) (i : Nat) : ∀ (es : List Edge) (s : Nat), (es.foldl (fun s e => if Region.binds .any e then s ||| 2 ^ e.on ||| acc.getD e.on 0 else s) s).testBit i = true →
    s.testBit i = true ∨ ∃ e, e ∈ es ∧ Region.binds .any e = true ∧ (e.on = i ∨ (acc.getD e.on 0).testBit i = true)
  | [], s, h => .inl h
  | e :: es, s, h => by
    simp only [List.foldl_cons] at h
    rcases foldl_bits acc i es _ h with h1 | ⟨e', he, h1⟩
    · split at h1
      · rename_i hb
        rw [Nat.testBit_or, Nat.testBit_or, Nat.testBit_two_pow] at h1
        simp only [Bool.or_eq_true, decide_eq_true_eq] at h1
        rcases h1 with (h1 | h1) | h1
        · exact .inl h1
        · exact .inr ⟨e, by simp, hb, .inl h1⟩
        · exact .inr ⟨e, by simp, hb, .inr h1⟩
      · exact .inl h1
    · exact .inr ⟨e', by simp [he], h1⟩

section
variable {ops : Array Oper}

theorem anc_step (hb : backOk ops = true) {j i : Nat} {o : Oper} (hj : ops[j]? = some o) (h : ((ancs ops.toList []).getD j 0).testBit i = true) :
    ∃ e, e ∈ o.after ∧ Region.binds .any e = true ∧ e.on < j ∧ (e.on = i ∨ ((ancs ops.toList []).getD e.on 0).testBit i = true) := by
  obtain ⟨tail, h1, h2, h3⟩ := ancs_eq ops.toList []
  have := h3 j o (by simpa using hj)
  simp only [List.length_nil, Nat.zero_add] at this
  rw [List.getD_eq_getElem?_getD, this] at h
  simp only [Option.getD_some] at h
  rcases foldl_bits _ i _ _ h with h0 | ⟨e, he, hbn, h0⟩
  · simp at h0
  · have hlt : e.on < j := by
      have hjs : j < ops.size := (Array.getElem?_eq_some_iff.1 hj).1
      have := List.all_eq_true.1 hb j (List.mem_range.2 hjs)
      rw [hj] at this
      simp only [Array.all_eq_true'] at this
      have := this e (by simpa using he)
      simpa [hbn] using this
    refine ⟨e, by simpa using he, hbn, hlt, h0.imp id fun h0 => ?_⟩
    rw [List.getD_eq_getElem?_getD, List.getElem?_take, if_pos hlt] at h0
    rw [List.getD_eq_getElem?_getD]; exact h0

/-- What is listed is closed under what binds. -/
def ClosedAt (ops : Array Oper) (listed : Array Bool) (j : Nat) : Prop := ∀ oj, ops[j]? = some oj → ∀ e, e ∈ oj.after → Region.binds .any e = true → listed.getD e.on false = true
def Closed (ops : Array Oper) (listed : Array Bool) : Prop := ∀ j, listed.getD j false = true → ClosedAt ops listed j

theorem anc_listed (hb : backOk ops = true) {listed : Array Bool} (hc : Closed ops listed) {i : Nat} : ∀ (j : Nat), ClosedAt ops listed j → ((ancs ops.toList []).getD j 0).testBit i = true → j < ops.size → listed.getD i false = true := by
  intro j
  induction j using Nat.strongRecOn with
  | _ j ih =>
    intro hcj h hjs
    obtain ⟨e, he, hbn, hlt, h0⟩ := anc_step hb (Array.getElem?_eq_getElem hjs) h
    have hon := hcj _ (Array.getElem?_eq_getElem hjs) e he hbn
    rcases h0 with rfl | h0
    · exact hon
    · exact ih e.on hlt (hc _ hon) h0 (by omega)

theorem pair_ok (hp : pairsOk ops (ancs ops.toList []) = true) {i j : Nat} {x y : Oper} (hij : i < j) (hx : ops[i]? = some x) (hy : ops[j]? = some y) :
    ((ancs ops.toList []).getD j 0).testBit i = true ∨ Oper.apart ops x y = true := by
  have hjs : j < ops.size := (Array.getElem?_eq_some_iff.1 hy).1
  have h1 := List.all_eq_true.1 (List.all_eq_true.1 hp j (List.mem_range.2 hjs)) i (List.mem_range.2 hij)
  rw [hx, hy] at h1
  simpa using h1

/-! ### Slots -/
/-- The slots after the first operations. -/
def lexS (ops : Array Oper) (vs : Nat → AV) (sl : List AV) : Nat → List AV
  | 0 => sl
  | j + 1 => setSl (lexS ops vs sl j) ((ops[j]?).bind (·.dst)) (vs j)
/-- The slots after those operations that are listed. -/
def stS (ops : Array Oper) (vs : Nat → AV) (sl : List AV) (listed : Array Bool) : Nat → List AV
  | 0 => sl
  | j + 1 => if listed.getD j false then setSl (stS ops vs sl listed j) ((ops[j]?).bind (·.dst)) (vs j) else stS ops vs sl listed j

theorem lexS_length (vs : Nat → AV) (sl : List AV) : ∀ j, (lexS ops vs sl j).length = sl.length
  | 0 => rfl
  | j + 1 => by simp [lexS, setSl_length, lexS_length vs sl j]
theorem stS_length (vs : Nat → AV) (sl : List AV) (listed : Array Bool) : ∀ j, (stS ops vs sl listed j).length = sl.length
  | 0 => rfl
  | j + 1 => by
    simp only [stS]
    split
    · rw [setSl_length, stS_length vs sl listed j]
    · exact stS_length vs sl listed j

theorem setSl_other {sl : List AV} {dst : Option Tmp} {v : AV} {t : Nat} (h : dst ≠ some t) : (setSl sl dst v)[t]? = sl[t]? := by
  cases dst with
  | none => rfl
  | some d => simp only [setSl]; exact List.getElem?_set_ne (fun e => h (by rw [e]))

theorem setSl_same {sl sl' : List AV} {dst : Option Tmp} {v : AV} {t : Nat} (h : dst = some t) (hl : sl.length = sl'.length) : (setSl sl dst v)[t]? = (setSl sl' dst v)[t]? := by
  subst h
  simp only [setSl]
  by_cases hlt : t < sl.length
  · rw [List.getElem?_set_self hlt, List.getElem?_set_self (by omega)]
  · rw [List.getElem?_eq_none (by simp; omega), List.getElem?_eq_none (by simp; omega)]

variable {vs : Nat → AV} {sl : List AV} {listed : Array Bool}

theorem at_slot {j t : Nat} (h1 : ∀ i o, i < j → ops[i]? = some o → o.dst = some t → listed.getD i false = true) (h2 : ∀ i o, j ≤ i → ops[i]? = some o → o.dst = some t → listed.getD i false = false) :
    ∀ m, (stS ops vs sl listed m)[t]? = (lexS ops vs sl (min m j))[t]?
  | 0 => by simp [stS, lexS]
  | m + 1 => by
    have ih := at_slot h1 h2 m
    by_cases hmj : m < j
    · rw [Nat.min_eq_left (by omega : m ≤ j)] at ih
      rw [Nat.min_eq_left (by omega : m + 1 ≤ j)]
      simp only [stS, lexS]
      by_cases hd : (ops[m]?).bind (·.dst) = some t
      · obtain ⟨o, ho, hod⟩ := Option.bind_eq_some_iff.1 hd
        rw [if_pos (h1 m o hmj ho hod)]
        exact setSl_same hd (by rw [stS_length, lexS_length])
      · split
        · rw [setSl_other hd, setSl_other hd]; exact ih
        · rw [setSl_other hd]; exact ih
    · rw [Nat.min_eq_right (by omega : j ≤ m)] at ih
      rw [Nat.min_eq_right (by omega : j ≤ m + 1)]
      simp only [stS]
      split
      · rename_i hl
        by_cases hd : (ops[m]?).bind (·.dst) = some t
        · obtain ⟨o, ho, hod⟩ := Option.bind_eq_some_iff.1 hd
          rw [h2 m o (by omega) ho hod] at hl; cases hl
        · rw [setSl_other hd]; exact ih
      · exact ih

theorem setSl_comm {sl : List AV} {d e : Option Tmp} {u v : AV} (h : ∀ t, d = some t → e ≠ some t) : setSl (setSl sl d u) e v = setSl (setSl sl e v) d u := by
  cases d with
  | none => rfl
  | some d =>
    cases e with
    | none => rfl
    | some e =>
      simp only [setSl]
      exact List.set_comm _ _ (fun hde => h d rfl (by rw [hde]))

theorem listed_set {j i : Nat} (h : i ≠ j) : (listed.setIfInBounds j true).getD i false = listed.getD i false := by
  simp only [Array.getD_eq_getD_getElem?, Array.getElem?_setIfInBounds_ne (Ne.symm h)]

theorem add_slot {j : Nat} {oj : Oper} (hj : ops[j]? = some oj) (hjs : j < listed.size) (hun : listed.getD j false = false) (h2 : ∀ i o t, j < i → ops[i]? = some o → listed.getD i false = true → oj.dst = some t → o.dst ≠ some t) :
    ∀ m, stS ops vs sl (listed.setIfInBounds j true) m = if m ≤ j then stS ops vs sl listed m else setSl (stS ops vs sl listed m) oj.dst (vs j)
  | 0 => by simp [stS]
  | m + 1 => by
    have ih := add_slot hj hjs hun h2 m
    simp only [stS]
    by_cases hmj : m = j
    · subst hmj
      have h1 : (listed.setIfInBounds m true).getD m false = true := by simp [Array.getD_eq_getD_getElem?, hjs]
      rw [h1, if_pos rfl, if_neg (by omega), hun, ih, if_pos (Nat.le_refl _)]
      simp [hj]
    · rw [listed_set hmj, ih]
      by_cases hlt : m < j
      · rw [if_pos (show m ≤ j by omega), if_pos (show m + 1 ≤ j by omega)]
      · rw [if_neg (show ¬ m ≤ j by omega), if_neg (show ¬ m + 1 ≤ j by omega)]
        split
        · rename_i hl
          refine setSl_comm fun t ht => ?_
          cases hm : ops[m]? with
          | none => simp
          | some o => simpa using h2 m o t (by omega) hm hl ht
        · rfl

theorem st_all (h : ∀ j, j < ops.size → listed.getD j false = true) : ∀ m, m ≤ ops.size → stS ops vs sl listed m = lexS ops vs sl m
  | 0, _ => rfl
  | m + 1, hm => by simp only [stS, lexS]; rw [h m (by omega), if_pos rfl, st_all h m (by omega)]

/-! ### Heaps -/
def effAt (ops : Array Oper) (j : Nat) : Bool := (ops[j]?).any fun o => effOp o.op
/-- The heap after those operations that are listed. -/
def stL (ops : Array Oper) (Ls : Nat → Heap) (listed : Array Bool) : Nat → Heap
  | 0 => Ls 0
  | j + 1 => if (effAt ops j && listed.getD j false) = true then Ls (j + 1) else stL ops Ls listed j

theorem effAt_some {j : Nat} {o : Oper} (h : ops[j]? = some o) : effAt ops j = effOp o.op := by simp [effAt, h]
theorem pure_not_eff {q : Op} (h : effOp q = true) : pureOp q = false := by cases q <;> simp_all [effOp, pureOp]

theorem at_heap {Ls : Nat → Heap} {listed : Array Bool} {j : Nat} (h1 : ∀ i, i < j → effAt ops i = true → listed.getD i false = true) (h2 : ∀ i, j ≤ i → effAt ops i = true → listed.getD i false = false) (hn : ∀ i, i < ops.size → effAt ops i = false → Ls (i + 1) = Ls i) :
    ∀ m, m ≤ ops.size → stL ops Ls listed m = Ls (min m j)
  | 0, _ => by simp [stL]
  | m + 1, hm => by
    have ih := at_heap h1 h2 hn m (by omega)
    simp only [stL]
    by_cases hmj : m < j
    · rw [Nat.min_eq_left (by omega : m + 1 ≤ j)]
      rw [Nat.min_eq_left (by omega : m ≤ j)] at ih
      cases he : effAt ops m with
      | true => simp [h1 m hmj he]
      | false => simp only [Bool.false_and, Bool.false_eq_true, if_false]; rw [ih, hn m (by omega) he]
    · rw [Nat.min_eq_right (by omega : j ≤ m + 1)]
      rw [Nat.min_eq_right (by omega : j ≤ m)] at ih
      cases he : effAt ops m with
      | true => simp [h2 m (by omega) he, ih]
      | false => simp [ih]

theorem add_heap {Ls : Nat → Heap} {listed : Array Bool} {j : Nat} (hj : effAt ops j = true) (hjs : j < listed.size) (h2 : ∀ i, j < i → effAt ops i = true → listed.getD i false = false) :
    ∀ m, j < m → stL ops Ls (listed.setIfInBounds j true) m = Ls (j + 1)
  | 0, h => by omega
  | m + 1, h => by
    simp only [stL]
    by_cases hmj : m = j
    · subst hmj
      have h1 : (listed.setIfInBounds m true).getD m false = true := by simp [Array.getD_eq_getD_getElem?, hjs]
      simp [hj, h1]
    · have ih := add_heap (Ls := Ls) hj hjs h2 m (by omega)
      rw [listed_set hmj]
      cases he : effAt ops m with
      | true => simp [h2 m (by omega) he, ih]
      | false => simp [ih]

theorem keep_heap {Ls : Nat → Heap} {listed : Array Bool} {j : Nat} (hj : effAt ops j = false) : ∀ m, stL ops Ls (listed.setIfInBounds j true) m = stL ops Ls listed m
  | 0 => rfl
  | m + 1 => by
    simp only [stL]
    rw [keep_heap hj m]
    by_cases hmj : m = j
    · subst hmj; simp [hj]
    · rw [listed_set hmj]

theorem eff_bound (he : effsOk ops (ancs ops.toList []) = true) {i j : Nat} {x y : Oper} (hij : i < j) (hx : ops[i]? = some x) (hy : ops[j]? = some y) :
    ((ancs ops.toList []).getD j 0).testBit i = true ∨ ((effOp x.op = false ∨ pureOp y.op = true) ∧ (effOp y.op = false ∨ pureOp x.op = true)) := by
  have hjs : j < ops.size := (Array.getElem?_eq_some_iff.1 hy).1
  have h1 := List.all_eq_true.1 (List.all_eq_true.1 he j (List.mem_range.2 hjs)) i (List.mem_range.2 hij)
  rw [hx, hy] at h1
  simpa using h1

/-! ### The region -/
/-- What the operations come to, in the order in which they stand. -/
def OneSem (P : Program) (o : Oper) (sl : List AV) (L L' : Heap) (v : AV) : Prop :=
  (effOp o.op = false ∧ L' = L ∧ QSem P o sl L v ∧ (pureOp o.op = true → ∀ L', QSem P o sl L' v)) ∨ (effOp o.op = true ∧ v = skipped ∧ ESem P o sl L L')
def Trace (P : Program) (ops : Array Oper) (vs : Nat → AV) (Ls : Nat → Heap) (sl : List AV) : Prop :=
  ∀ j o, ops[j]? = some o → (GuardIs ops o (lexS ops vs sl j) true ∧ OneSem P o (lexS ops vs sl j) (Ls j) (Ls (j + 1)) (vs j)) ∨ (GuardIs ops o (lexS ops vs sl j) false ∧ vs j = skipped ∧ Ls (j + 1) = Ls j)

theorem op_one (hsp : SpOk P sp) {or : Orc R} {o : Oper} (hq : (quietOp sp o.op || effOp o.op) = true) {sl : List AV} {L : Heap} {k : List AV → AV → Heap → Option R} {r : R} (h : opK P sp base false or o sl L k = some r) :
    ∃ v L', k sl v L' = some r ∧ OneSem P o sl L L' v := by
  cases he : effOp o.op with
  | true =>
    obtain ⟨L', hk, hs⟩ := op_write he h
    exact ⟨_, L', hk, .inr ⟨he, rfl, hs⟩⟩
  | false =>
    rw [he, Bool.or_false] at hq
    cases hp : pureOp o.op with
    | true =>
      obtain ⟨v, hk, hs⟩ := op_pure hp h
      exact ⟨v, L, hk, .inl ⟨he, rfl, hs L, fun _ => hs⟩⟩
    | false =>
      obtain ⟨v, hk, hs⟩ := op_quiet hsp hq h
      exact ⟨v, L, hk, .inl ⟨he, rfl, hs, fun h => by rw [hp] at h; cases h⟩⟩

theorem lexS_congr {vs vs' : Nat → AV} : ∀ {n : Nat}, (∀ i, i < n → vs i = vs' i) → lexS ops vs sl n = lexS ops vs' sl n
  | 0, _ => rfl
  | n + 1, h => by simp only [lexS]; rw [lexS_congr (fun i hi => h i (by omega)), h n (by omega)]

theorem trace_from (hsp : SpOk P sp) {or : Orc R} {k : St → Option R} {r : R} : ∀ (rest : List Oper) (i : Nat) (vs : Nat → AV) (Ls : Nat → Heap), (∀ j, rest[j]? = ops[i + j]?) → (∀ o, o ∈ rest → (quietOp sp o.op || effOp o.op) = true) →
    (∀ j o, j < i → ops[j]? = some o → (GuardIs ops o (lexS ops vs sl j) true ∧ OneSem P o (lexS ops vs sl j) (Ls j) (Ls (j + 1)) (vs j)) ∨ (GuardIs ops o (lexS ops vs sl j) false ∧ vs j = skipped ∧ Ls (j + 1) = Ls j)) →
    i ≤ ops.size → opsK P sp base false or ops rest ⟨lexS ops vs sl i, Ls i⟩ k = some r → ∃ vs' Ls', Ls' 0 = Ls 0 ∧ Trace P ops vs' Ls' sl ∧ k ⟨lexS ops vs' sl ops.size, Ls' ops.size⟩ = some r
  | [], i, vs, Ls, hr, _, ht, hi', h => by
    have hi : ops.size ≤ i := by
      have := hr 0
      simp at this
      omega
    have hie : i = ops.size := by omega
    simp only [opsK] at h
    refine ⟨vs, Ls, rfl, fun j o hj => ht j o (by have := (Array.getElem?_eq_some_iff.1 hj).1; omega) hj, ?_⟩
    rw [← hie]; exact h
  | o :: rest, i, vs, Ls, hr, hq, ht, hi', h => by
    have ho : ops[i]? = some o := by simpa using (hr 0).symm
    have his : i < ops.size := (Array.getElem?_eq_some_iff.1 ho).1
    have next : ∀ v L', opsK P sp base false or ops rest ⟨setSl (lexS ops vs sl i) o.dst v, L'⟩ k = some r →
        ((GuardIs ops o (lexS ops vs sl i) true ∧ OneSem P o (lexS ops vs sl i) (Ls i) L' v) ∨ (GuardIs ops o (lexS ops vs sl i) false ∧ v = skipped ∧ L' = Ls i)) → ∃ vs' Ls', Ls' 0 = Ls 0 ∧ Trace P ops vs' Ls' sl ∧ k ⟨lexS ops vs' sl ops.size, Ls' ops.size⟩ = some r := fun v L' hv hG => by
      let vs1 : Nat → AV := fun j => if j = i then v else vs j
      let Ls1 : Nat → Heap := fun j => if j = i + 1 then L' else Ls j
      have e1 : ∀ n, n ≤ i → lexS ops vs1 sl n = lexS ops vs sl n := fun n hn => lexS_congr fun j hj => by simp only [vs1]; rw [if_neg (by omega)]
      have e2 : vs1 i = v := by simp [vs1]
      have e3 : ∀ n, n ≤ i → Ls1 n = Ls n := fun n hn => by simp only [Ls1]; rw [if_neg (by omega)]
      have e4 : Ls1 (i + 1) = L' := by simp [Ls1]
      obtain ⟨vs', Ls', h0, hT, hk⟩ := trace_from (or := or) hsp rest (i + 1) vs1 Ls1 (fun j => by have := hr (j + 1); simp at this; rw [this]; congr 1; omega) (fun o ho => hq o (by simp [ho])) (fun j o' hj hoj => by
        by_cases hji : j = i
        · subst hji
          have : o' = o := Option.some.inj (hoj.symm.trans ho)
          subst this
          rw [e1 j (Nat.le_refl _), e2, e3 j (Nat.le_refl _), e4]; exact hG
        · rw [e1 j (by omega), show vs1 j = vs j from by simp only [vs1]; rw [if_neg hji], e3 j (by omega), e3 (j + 1) (by omega)]
          exact ht j o' (by omega) hoj) (by omega) (by
        simp only [lexS, ho, Option.bind_some]
        rw [e1 i (Nat.le_refl _), e2, e4]; exact hv)
      exact ⟨vs', Ls', by rw [h0, e3 0 (by omega)], hT, hk⟩
    rcases opsK_cons h with ⟨hG, h1⟩ | ⟨hG, h1⟩
    · obtain ⟨v, L', hk, hs⟩ := op_one hsp (hq o (by simp)) h1
      exact next v L' hk (.inl ⟨hG, hs⟩)
    · exact next skipped _ h1 (.inr ⟨hG, rfl, rfl⟩)

/-- The number of operations not yet listed. -/
def unl (ops : Array Oper) (listed : Array Bool) : List Nat := (List.range ops.size).filter fun i => !listed.getD i true

theorem unl_lt {j : Nat} (hj : j < ops.size) (hs : listed.size = ops.size) (hun : listed.getD j true = false) : (unl ops (listed.setIfInBounds j true)).length < (unl ops listed).length := by
  have e : unl ops (listed.setIfInBounds j true) = (unl ops listed).filter (fun i => decide (i ≠ j)) := by
    unfold unl
    rw [List.filter_filter]
    apply List.filter_congr
    intro i _
    by_cases hij : i = j
    · subst hij; simp [Array.getD_eq_getD_getElem?, hs, hj]
    · simp [hij, Array.getD_eq_getD_getElem?, Array.getElem?_setIfInBounds_ne (Ne.symm hij)]
  rw [e]
  exact List.length_filter_lt_length_iff_exists.2 ⟨j, List.mem_filter.2 ⟨List.mem_range.2 hj, by simp [hun]⟩, by simp⟩

theorem getD_tf {i : Nat} (hi : i < listed.size) : listed.getD i true = listed.getD i false := by simp [Array.getD, hi]

structure DInv (B0 : Nat) (w0 : World) (ok0 : Nat → Prop) (w1 : World) (E : Env) (Ls : Nat → Heap) (ops : Array Oper) (vs : Nat → AV) (sl : List AV) (listed : Array Bool) (ok : Nat → Prop) (a : Act) (w : World) : Prop where
  mem : Mem B0 w0 ok E (stL ops Ls listed ops.size) w
  slr : SlRep E w ok a.tmps (stS ops vs sl listed ops.size)
  size : a.tmps.size = sl.length
  defers : a.defers = []
  lsize : listed.size = ops.size
  closed : Closed ops listed
  step : Grow E w1 ok0 E w ok
  ext : ∀ b, ok b → ok0 b ∨ B0 ≤ b

theorem draw_go (hback : backOk ops = true) (hpair : pairsOk ops (ancs ops.toList []) = true) (heff : effsOk ops (ancs ops.toList []) = true) {Ls : Nat → Heap} (ht : Trace P ops vs Ls sl) {B0 : Nat} {w0 : World} {ok0 : Nat → Prop} {w1 : World} {E : Env} {Q : Exit → Act → World → Prop}
    (hQ : ∀ ok a w, Mem B0 w0 ok E (Ls ops.size) w → SlRep E w ok a.tmps (lexS ops vs sl ops.size) → a.tmps.size = sl.length → a.defers = [] → Grow E w1 ok0 E w ok → (∀ b, ok b → ok0 b ∨ B0 ≤ b) → Q .normal a w) :
    ∀ (fuel : Nat) (listed : Array Bool) (ok : Nat → Prop) (a : Act) (w : World), (unl ops listed).length ≤ fuel → DInv B0 w0 ok0 w1 E Ls ops vs sl listed ok a w → wpAny P .any ops Q fuel listed a w := by
  have hn : ∀ i, i < ops.size → effAt ops i = false → Ls (i + 1) = Ls i := fun i his he => by
    have hoi := Array.getElem?_eq_getElem his
    rw [effAt_some hoi] at he
    rcases ht i _ hoi with ⟨_, h | h⟩ | h
    · exact h.2.1
    · rw [he] at h; exact absurd h.1 (by simp)
    · exact h.2.2
  have hfull : ∀ {listed : Array Bool}, (∀ j, j < ops.size → listed.getD j false = true) → stL ops Ls listed ops.size = Ls ops.size := fun {listed} hall => by
    have := at_heap (ops := ops) (Ls := Ls) (listed := listed) (j := ops.size) (fun i hi _ => hall i hi) (fun i hi he => by simp [effAt, Array.getElem?_eq_none hi] at he) hn ops.size (Nat.le_refl _)
    rwa [Nat.min_self] at this
  have done : ∀ {listed : Array Bool} {ok : Nat → Prop} {a : Act} {w : World}, (∀ j, j < ops.size → listed.getD j false = true) → DInv B0 w0 ok0 w1 E Ls ops vs sl listed ok a w → Q .normal a w := fun hall hI =>
    hQ _ _ _ (by rw [← hfull hall]; exact hI.mem) (by rw [← st_all hall ops.size (Nat.le_refl _)]; exact hI.slr) hI.size hI.defers hI.step hI.ext
  have full : ∀ {listed : Array Bool}, listed.size = ops.size → Region.ready .any ops listed = [] → ∀ j, j < ops.size → listed.getD j false = true := by
    intro listed hs hr j
    induction j using Nat.strongRecOn with
    | _ j ih =>
      intro hj
      cases hl : listed.getD j false with
      | true => rfl
      | false =>
        exfalso
        have hun : listed.getD j true = false := by rw [getD_tf (by omega)]; exact hl
        have : j ∈ Region.ready .any ops listed := by
          refine mem_ready.2 ⟨hun, ops[j], Array.getElem?_eq_getElem hj, fun e he hb => ?_⟩
          have hlt : e.on < j := by
            have := List.all_eq_true.1 hback j (List.mem_range.2 hj)
            rw [Array.getElem?_eq_getElem hj] at this
            simp only [Array.all_eq_true'] at this
            simpa [hb] using this e he
          exact ih e.on hlt (by omega)
        rw [hr] at this; cases this
  intro fuel
  induction fuel with
  | zero =>
    intro listed ok a w hu hI
    have hall : ∀ j, j < ops.size → listed.getD j false = true := fun j hj => by
      cases hl : listed.getD j false with
      | true => rfl
      | false =>
        have : j ∈ unl ops listed := List.mem_filter.2 ⟨List.mem_range.2 hj, by rw [getD_tf (by rw [hI.lsize]; exact hj), hl]; rfl⟩
        have := List.length_pos_of_mem this
        omega
    refine ⟨?_, done hall hI⟩
    apply List.eq_nil_iff_forall_not_mem.2
    intro i hi
    obtain ⟨hun, o, ho, _⟩ := mem_ready.1 hi
    have his := (Array.getElem?_eq_some_iff.1 ho).1
    rw [getD_tf (by rw [hI.lsize]; exact his), hall i his] at hun
    cases hun
  | succ fuel ih =>
    intro listed ok a w hu hI
    refine ⟨fun hr => done (full hI.lsize hr) hI, fun j hj => ?_⟩
    obtain ⟨hun, o, ho, hedge⟩ := mem_ready.1 hj
    have hjs := (Array.getElem?_eq_some_iff.1 ho).1
    have hjl : j < listed.size := by rw [hI.lsize]; exact hjs
    have hun' : listed.getD j false = false := by rw [← getD_tf hjl]; exact hun
    have hcj : ClosedAt ops listed j := fun oj hoj e he hb => by
      have : oj = o := Option.some.inj (hoj.symm.trans ho)
      subst this
      exact hedge e he hb
    -- the slots that it looks at
    have hlook : ∀ t, t ∈ o.looksAt ops → (stS ops vs sl listed ops.size)[t]? = (lexS ops vs sl j)[t]? := fun t htl => by
      have := at_slot (ops := ops) (vs := vs) (sl := sl) (listed := listed) (j := j) (t := t) (fun i x hij hx hd => ?_) (fun i x hij hx hd => ?_) ops.size
      · rw [Nat.min_eq_right (by omega)] at this; exact this
      · rcases pair_ok hpair hij hx ho with h | h
        · exact anc_listed hback hI.closed j hcj h hjs
        · exact absurd htl ((Oper.apart_spec h).1 t hd)
      · by_cases hij' : i = j
        · subst hij'; exact hun'
        · cases hl : listed.getD i false with
          | false => rfl
          | true =>
            exfalso
            have his := (Array.getElem?_eq_some_iff.1 hx).1
            rcases pair_ok hpair (show j < i by omega) ho hx with h | h
            · have := anc_listed hback hI.closed i (hI.closed i hl) h his
              rw [this] at hun'; cases hun'
            · exact (Oper.apart_spec h).2.2 t hd htl
    have hadd : stS ops vs sl (listed.setIfInBounds j true) ops.size = setSl (stS ops vs sl listed ops.size) o.dst (vs j) := by
      have := add_slot (vs := vs) (sl := sl) ho hjl hun' (fun i x t hij hx hl hd hxd => by
        have his := (Array.getElem?_eq_some_iff.1 hx).1
        rcases pair_ok hpair hij ho hx with h | h
        · have := anc_listed hback hI.closed i (hI.closed i hl) h his
          rw [this] at hun'; cases hun'
        · exact (Oper.apart_spec h).2.1 t hd hxd) ops.size
      rw [if_neg (by omega)] at this
      exact this
    have hslot : ∀ t, t ∈ o.looksAt ops → Rep E w ok (a.tmps.getD t undef) ((lexS ops vs sl j).getD t .junk) := fun t htl => by
      have e := hlook t htl
      cases hc : (lexS ops vs sl j)[t]? with
      | none => simp [List.getD, hc]; exact .junk
      | some c =>
        rw [hc] at e
        simp only [List.getD, hc, Option.getD_some]
        exact hI.slr t c e
    have hw : ∀ {b : Bool}, GuardIs ops o (lexS ops vs sl j) b → Region.wanted o (yielded ops a.tmps) = b := fun hG =>
      hG.wanted (E := E) (w := w) (ok := ok) (by rw [hI.size, lexS_length]) (fun g want x d c hg hx hd hc => by
        have hm : d ∈ o.looksAt ops := by
          refine List.mem_append_right _ ?_
          simp only [hg, hx, Option.bind_some, hd]
          simp
        have := hslot d hm
        simpa [List.getD, hc] using this)
    have hnext : ∀ ok' u w', Mem B0 w0 ok' E (stL ops Ls (listed.setIfInBounds j true) ops.size) w' → Grow E w ok E w' ok' → (∀ b, ok' b → ok b ∨ B0 ≤ b) → Rep E w' ok' u (vs j) → wpAny P .any ops Q fuel (listed.setIfInBounds j true) (a.put o.dst u) w' := fun ok' u w' hM g ext hv => by
      refine ih _ ok' _ w' (by have := unl_lt hjs hI.lsize hun; omega) ⟨hM, ?_, by rw [put_size]; exact hI.size, by rw [put_defers]; exact hI.defers, by simp [hI.lsize], fun i hi => ?_, hI.step.trans g, fun b hb => (ext b hb).elim (hI.ext b) .inr⟩
      · rw [hadd]
        exact (hI.slr.grow g).put (by rw [hI.size, stS_length]) hv o.dst
      · intro oi hoi e he hb
        have mono : ∀ q, listed.getD q false = true → (listed.setIfInBounds j true).getD q false = true := fun q hq => by
          by_cases hqj : q = j
          · subst hqj; simp [Array.getD_eq_getD_getElem?, hjl]
          · rw [listed_set hqj]; exact hq
        by_cases hij : i = j
        · subst hij; exact mono _ (hcj oi hoi e he hb)
        · rw [listed_set hij] at hi
          exact mono _ (hI.closed i hi oi hoi e he hb)
    -- the heap that it sees
    have hlate : pureOp o.op = false → ∀ i, j < i → effAt ops i = true → listed.getD i false = false := fun hp i hij he => by
      cases hl : listed.getD i false with
      | false => rfl
      | true =>
        exfalso
        obtain ⟨x, hx, hxe⟩ : ∃ x, ops[i]? = some x ∧ effOp x.op = true := by
          cases hx : ops[i]? with
          | none => simp [effAt, hx] at he
          | some x => exact ⟨x, rfl, by rwa [effAt_some hx] at he⟩
        have his := (Array.getElem?_eq_some_iff.1 hx).1
        rcases eff_bound heff hij ho hx with h | h
        · have := anc_listed hback hI.closed i (hI.closed i hl) h his
          rw [this] at hun'; cases hun'
        · rcases h.2 with h | h
          · rw [hxe] at h; cases h
          · rw [hp] at h; cases h
    have hsee : pureOp o.op = false → stL ops Ls listed ops.size = Ls j := fun hp => by
      have := at_heap (ops := ops) (Ls := Ls) (listed := listed) (j := j) (fun i hij he => by
        obtain ⟨x, hx, hxe⟩ : ∃ x, ops[i]? = some x ∧ effOp x.op = true := by
          cases hx : ops[i]? with
          | none => simp [effAt, hx] at he
          | some x => exact ⟨x, rfl, by rwa [effAt_some hx] at he⟩
        rcases eff_bound heff hij hx ho with h | h
        · exact anc_listed hback hI.closed j hcj h hjs
        · rcases h.1 with h | h
          · rw [hxe] at h; cases h
          · rw [hp] at h; cases h) (fun i hij he => by
        by_cases hij' : i = j
        · subst hij'; exact hun'
        · exact hlate hp i (by omega) he) hn ops.size (Nat.le_refl _)
      rwa [Nat.min_eq_right (by omega)] at this
    have hops : ∀ x, x ∈ o.op.operands → Rep E w ok (a.eval x) (Ev.ev (lexS ops vs sl j) x) := fun x hx => by
      cases x with
      | tmp t => exact hslot t (List.mem_append_left _ (List.mem_filterMap.2 ⟨.tmp t, by simpa using hx, rfl⟩))
      | const v => exact rep_const v
      | global g => exact .junk
      | func f => exact .d (RepD.fn (vs := []) (cs := []) rfl (fun i x d hx => by simp at hx))
    unfold wpOp
    simp only [ho]
    rcases ht j o ho with ⟨hG, hs⟩ | ⟨hG, hv, hL⟩
    · rw [if_pos (hw hG)]
      refine .inl ?_
      rcases hs with ⟨hne, hLe, hs, hpu⟩ | ⟨hye, hv, hs⟩
      · have hkeep := keep_heap (Ls := Ls) (listed := listed) ((effAt_some ho).trans hne) ops.size
        have hs' : QSem P o (lexS ops vs sl j) (stL ops Ls listed ops.size) (vs j) := by
          cases hp : pureOp o.op with
          | true => exact hpu hp _
          | false => rw [hsee hp]; exact hs
        exact hs' ⟨hI.mem, hops⟩ _ Q fun ok' u w' _ hM g ext hv => hnext ok' u w' (by rw [hkeep]; exact hM) g ext hv
      · have hp := pure_not_eff hye
        have hadd' := add_heap (Ls := Ls) ((effAt_some ho).trans hye) hjl (hlate hp) ops.size hjs
        exact hs ⟨by rw [← hsee hp]; exact hI.mem, hops⟩ _ Q fun w' hM g => hnext ok undef w' (by rw [hadd']; exact hM) g (fun _ h => .inl h) (by rw [hv]; exact rep_skipped)
    · rw [if_neg (by rw [hw hG]; simp)]
      refine hnext ok undef w ?_ (Grow.refl _ _ _) (fun _ h => .inl h) (by rw [hv]; exact rep_skipped)
      cases he : effOp o.op with
      | false => rw [keep_heap ((effAt_some ho).trans he)]; exact hI.mem
      | true =>
        have hp := pure_not_eff he
        rw [add_heap (Ls := Ls) ((effAt_some ho).trans he) hjl (hlate hp) ops.size hjs, hL, ← hsee hp]
        exact hI.mem

theorem draw_sound (hsp : SpOk P sp) (hm : P.follows .mixedOrders = true) {or : Orc R} (hd : drawOk sp ops = true) {st : St} {k : St → Option R} {r : R} (h : opsK P sp base false or ops ops.toList st k = some r) :
    ∃ st', k st' = some r ∧ st'.sl.length = st.sl.length ∧ ∀ {B0 w0 ok E a w}, Sim B0 w0 ok E st a w → ∀ (id : Nat) (Q : Exit → Act → World → Prop),
      (∀ ok' E' a' w', Sim B0 w0 ok' E' st' a' w' → Step B0 base E w ok E' w' ok' → Q .normal a' w') → (Code.region id ops true).wp P Q a w := by
  unfold drawOk at hd
  simp only [Bool.and_eq_true] at hd
  obtain ⟨⟨⟨hq, hback⟩, hpair⟩, heff⟩ := hd
  obtain ⟨vs, Ls, hL0, ht, hk⟩ := trace_from (sl := st.sl) hsp ops.toList 0 (fun _ => .junk) (fun _ => st.L) (fun j => by simp) (fun o ho => List.all_eq_true.1 hq o ho) (fun j o hj => by omega) (by omega) h
  refine ⟨_, hk, lexS_length _ _ _, fun {B0 w0 ok E a w} hS id Q hQ => wp_region_any hm ?_⟩
  have hstart : stL ops Ls (Array.replicate ops.size false) ops.size = st.L := by
    have : ∀ m, stL ops Ls (Array.replicate ops.size false) m = Ls 0 := by
      intro m
      induction m with
      | zero => rfl
      | succ m ih =>
        simp only [stL]
        rw [if_neg, ih]
        simp only [Array.getD_eq_getD_getElem?, Array.getElem?_replicate]
        split <;> simp
    rw [this, hL0]
  refine draw_go hback hpair heff ht (B0 := B0) (w0 := w0) (ok0 := ok) (w1 := w) (E := E) (fun ok' a' w' hM hsl hsz hdf g ext => ?_) ops.size _ ok a _ (by unfold unl; exact Nat.le_trans (List.length_filter_le _ _) (by simp)) ⟨by rw [hstart]; exact hS.mem.drew, ?_, hS.size, hS.defers, by simp, fun j hj => ?_, Grow.drew E w ok, fun _ h => .inl h⟩
  · exact hQ ok' E a' w' ⟨hM, hsl, by rw [hsz, lexS_length], hdf⟩ (.of g ext)
  · have : ∀ m, stS ops vs st.sl (Array.replicate ops.size false) m = st.sl := by
      intro m
      induction m with
      | zero => rfl
      | succ m ih =>
        simp only [stS]
        rw [if_neg, ih]
        simp only [Array.getD_eq_getD_getElem?, Array.getElem?_replicate]
        split <;> simp
    rw [this]
    exact hS.sl.grow (Grow.drew E w ok)
  · exfalso
    simp only [Array.getD_eq_getD_getElem?, Array.getElem?_replicate] at hj
    split at hj <;> simp at hj
end
end Go.Ev

/-
  Code and functions: sound.
-/
set_option linter.unusedSimpArgs false
set_option linter.unusedVariables false
namespace Go.Ev
open Go Go.RowKit
variable {R : Type} {P : Program} {base : Nat} {sp : SpTab}

def toExit : Ex → Exit
  | .normal => .normal
  | .exit id => .exit id
  | .goto l => .goto l
  | .ret => .ret

/-- What code leaves. -/
def CodeSem (P : Program) (base : Nat) (c : Code) (st : St) (e : Ex) (st' : St) : Prop :=
  st'.sl.length = st.sl.length ∧ ∀ {B0 w0 ok E a w}, Sim B0 w0 ok E st a w → ∀ (Q : Exit → Act → World → Prop),
    (∀ ok' E' a' w', Sim B0 w0 ok' E' st' a' w' → Step B0 base E w ok E' w' ok' → Q (toExit e) a' w') → c.wp P Q a w

/-- The round of a loop, begun. -/
def LoopWp (P : Program) (c : Code) (Q : Exit → Act → World → Prop) (a : Act) (w : World) : Prop :=
  ∀ (b : Frame) (k : List Item) (cs : List Frame), ∃ e a' w', Q e a' w' ∧ Arrives P (lone (b.at a (.code c :: .inLoop c :: k)) cs w) b k cs e a' w'

theorem LoopWp.loop {c : Code} {Q : Exit → Act → World → Prop} {a : Act} {w : World} (h : LoopWp P c Q a w) : (Code.loop c).wp P Q a w := fun b k cs =>
  let ⟨e, a', w', hq, harr⟩ := h b k cs
  ⟨e, a', w', hq, .of_steps (.one step_loop) harr⟩

theorem LoopWp.round {c : Code} {Q : Exit → Act → World → Prop} {a : Act} {w : World} (h : c.wp P (Exit.then (LoopWp P c Q) Q) a w) : LoopWp P c Q a w := by
  intro b k cs
  obtain ⟨e, a₁, w₁, hq, harr⟩ := h b (.inLoop c :: k) cs
  cases e with
  | normal =>
    obtain ⟨e₂, a₂, w₂, hq₂, harr₂⟩ := hq b k cs
    exact ⟨e₂, a₂, w₂, hq₂, .of_steps (Steps.trans harr (.one step_inLoop)) harr₂⟩
  | exit id => exact ⟨_, a₁, w₁, hq, .pass (x := .inLoop c) rfl (fun _ _ => .inl (by simp)) harr⟩
  | goto l => exact ⟨_, a₁, w₁, hq, .pass (x := .inLoop c) rfl (fun _ _ => .inl (by simp)) harr⟩
  | ret => exact ⟨_, a₁, w₁, hq, .pass (x := .inLoop c) rfl (fun _ _ => .inl (by simp)) harr⟩
  | panic ch => exact ⟨_, a₁, w₁, hq, .pass (x := .inLoop c) rfl (fun _ _ => .inl (by simp)) harr⟩
  | outgrown => exact ⟨_, a₁, w₁, hq, .pass (x := .inLoop c) rfl (fun _ _ => .inl (by simp)) harr⟩

/-- What a loop leaves, from a round's start. -/
def LoopSem (P : Program) (base : Nat) (c : Code) (st : St) (e : Ex) (st' : St) : Prop :=
  st'.sl.length = st.sl.length ∧ ∀ {B0 w0 ok E a w}, Sim B0 w0 ok E st a w → ∀ (Q : Exit → Act → World → Prop),
    (∀ ok' E' a' w', Sim B0 w0 ok' E' st' a' w' → Step B0 base E w ok E' w' ok' → Q (toExit e) a' w') → LoopWp P c Q a w

theorem loop_sound {c : Code} {keep : List Bool} {mm : Nat} {body : CO R} (hb : ∀ {st k r}, body st k = some r → ∃ e st', k e st' = some r ∧ CodeSem P base c st e st') :
    ∀ {n : Nat} {st : St} {k : Ex → St → Option R} {r : R}, loopIter keep base mm body n st k = some r → ∃ e st', k e st' = some r ∧ LoopSem P base c st e st'
  | 0, st, k, r, h => by cases h
  | n + 1, st, k, r, h => by
    obtain ⟨e, st2, h2, hl2, hs2⟩ := hb h
    have stop : ∀ {e : Ex}, (toExit e ≠ .normal) → (∀ {B0 w0 ok E a w}, Sim B0 w0 ok E st a w → ∀ (Q : Exit → Act → World → Prop), (∀ ok' E' a' w', Sim B0 w0 ok' E' st2 a' w' → Step B0 base E w ok E' w' ok' → Q (toExit e) a' w') → c.wp P Q a w) → LoopSem P base c st e st2 := fun {e} he hs => by
      refine ⟨hl2, fun {B0 w0 ok E a w} hS Q hQ => ?_⟩
      refine LoopWp.round (hs hS _ fun ok' E' a' w' hS' g => ?_)
      have := hQ ok' E' a' w' hS' g
      cases e <;> first | exact this | exact absurd rfl he
    cases e with
    | normal =>
      obtain ⟨st1, h1, hl1, hs1⟩ := mask_sound h2
      obtain ⟨e3, st3, h3, hl3, hs3⟩ := loop_sound hb h1
      refine ⟨e3, st3, h3, by rw [hl3, hl1, hl2], fun {B0 w0 ok E a w} hS Q hQ => ?_⟩
      refine LoopWp.round (hs2 hS _ fun ok' E' a' w' hS' g => ?_)
      obtain ⟨ok1, E1, hS1, g1⟩ := hs1 hS'
      exact hs3 hS1 Q fun ok2 E2 a2 w2 hS2 g2 => hQ ok2 E2 a2 w2 hS2 ((g.trans g1).trans g2)
    | exit id => exact ⟨_, st2, h2, stop (by simp [toExit]) hs2⟩
    | goto l => exact ⟨_, st2, h2, stop (by simp [toExit]) hs2⟩
    | ret => exact ⟨_, st2, h2, stop (by simp [toExit]) hs2⟩

theorem litB_same {sl : List AV} {c : Operand} {b : Bool} (h : ev sl c = .d (.v (.bool b))) : litB sl c b = sl := by
  cases c <;> try rfl
  rename_i t
  simp only [ev, List.getD] at h
  cases hs : sl[t]? with
  | none => rw [hs] at h; cases h
  | some x =>
    rw [hs] at h
    simp only [Option.getD_some] at h
    subst h
    exact set_same hs

theorem CodeSem.trans_seq {x y : Code} {st st1 st1' st2 : St} {e : Ex} (h1 : CodeSem P base x st .normal st1) (hl : st1'.sl.length = st1.sl.length)
    (hmid : ∀ {B0 w0 ok E a w}, Sim B0 w0 ok E st1 a w → ∃ ok' E', Sim B0 w0 ok' E' st1' a w ∧ Step B0 base E w ok E' w ok') (h2 : CodeSem P base y st1' e st2) : CodeSem P base (.seq x y) st e st2 := by
  refine ⟨by rw [h2.1, hl, h1.1], fun {B0 w0 ok E a w} hS Q hQ => wp_seq (h1.2 hS _ fun ok1 E1 a1 w1 hS1 g1 => ?_)⟩
  obtain ⟨ok2, E2, hS2, g2⟩ := hmid hS1
  exact h2.2 hS2 Q fun ok3 E3 a3 w3 hS3 g3 => hQ ok3 E3 a3 w3 hS3 ((g1.trans g2).trans g3)

theorem code_sound (hsp : SpOk P sp) (hm : P.follows .mixedOrders = true) {or : Orc R} (hor : OrOk P or) {m : Nat} {fh : FnH} : ∀ {c : Code} {st : St} {k : Ex → St → Option R} {r : R}, codeK P sp base or m fh c st k = some r →
    ∃ e st', k e st' = some r ∧ CodeSem P base c st e st' := by
  intro c
  induction c with
  | skip => exact fun h => ⟨_, _, h, rfl, fun hS Q hQ => wp_skip (hQ _ _ _ _ hS (.refl _ _ _ _ _))⟩
  | label l => exact fun h => ⟨_, _, h, rfl, fun hS Q hQ => wp_label (hQ _ _ _ _ hS (.refl _ _ _ _ _))⟩
  | ret => exact fun h => ⟨_, _, h, rfl, fun hS Q hQ => wp_ret (hQ _ _ _ _ hS (.refl _ _ _ _ _))⟩
  | exit id => exact fun h => ⟨_, _, h, rfl, fun hS Q hQ => wp_exit (hQ _ _ _ _ hS (.refl _ _ _ _ _))⟩
  | seq x y ihx ihy =>
    intro st k r h
    simp only [codeK] at h
    obtain ⟨e, st1, h1, hs1⟩ := ihx h
    have stop : ∀ {e : Ex}, toExit e ≠ .normal → CodeSem P base x st e st1 → CodeSem P base (.seq x y) st e st1 := fun {e} he hs => by
      refine ⟨hs.1, fun {B0 w0 ok E a w} hS Q hQ => wp_seq (hs.2 hS _ fun ok1 E1 a1 w1 hS1 g1 => ?_)⟩
      have := hQ ok1 E1 a1 w1 hS1 g1
      cases e <;> first | exact this | exact absurd rfl he
    cases e with
    | normal =>
      simp only at h1
      split at h1
      · obtain ⟨st2, h2, hl2, hs2⟩ := prom_sound h1
        obtain ⟨st3, h3, hl3, hs3⟩ := mask_sound h2
        obtain ⟨e, st4, h4, hs4⟩ := ihy (show codeK _ _ _ _ _ _ _ _ _ = _ from h3)
        exact ⟨e, st4, h4, hs1.trans_seq (by rw [hl3, hl2]) (fun hS => hs3 (hs2 hS)) hs4⟩
      · obtain ⟨e, st4, h4, hs4⟩ := ihy h1
        exact ⟨e, st4, h4, hs1.trans_seq rfl (fun hS => ⟨_, _, hS, .refl _ _ _ _ _⟩) hs4⟩
    | exit id => exact ⟨_, st1, h1, stop (by simp [toExit]) hs1⟩
    | goto l => exact ⟨_, st1, h1, stop (by simp [toExit]) hs1⟩
    | ret => exact ⟨_, st1, h1, stop (by simp [toExit]) hs1⟩
  | region id ops draw =>
    intro st k r h
    simp only [codeK] at h
    cases draw with
    | true =>
      simp only [if_true] at h
      split at h
      case isFalse => cases h
      rename_i hd
      obtain ⟨st', hk, hl, hs⟩ := draw_sound hsp hm hd h
      exact ⟨.normal, st', hk, hl, fun hS Q hQ => hs hS id Q hQ⟩
    | false =>
      simp only [Bool.false_eq_true, if_false] at h
      obtain ⟨st', hk, hl, hs⟩ := ops_sound hsp hor h
      exact ⟨.normal, st', hk, hl, fun hS Q hQ => wp_region_list (hs hS Q hQ)⟩
  | cond c x y ihx ihy =>
    intro st k r h
    simp only [codeK] at h
    split at h
    case h_2 => cases h
    rename_i b hc
    have hev : ∀ {B0 w0 ok E a w}, Sim B0 w0 ok E st a w → a.eval c = .bool b := fun hS => by
      have := hS.sl.ev c
      rw [hc] at this
      exact this.v_inv.1
    cases b with
    | true =>
      simp only [cond_true] at h
      rw [litB_same hc] at h
      obtain ⟨e, st', hk, hl, hs⟩ := ihx h
      exact ⟨e, st', hk, hl, fun hS Q hQ => wp_cond_true (hev hS) (hs hS Q hQ)⟩
    | false =>
      simp only [cond_false] at h
      rw [litB_same hc] at h
      obtain ⟨e, st', hk, hl, hs⟩ := ihy h
      exact ⟨e, st', hk, hl, fun hS Q hQ => wp_cond_false (hev hS) (hs hS Q hQ)⟩
  | block id body ih =>
    intro st k r h
    simp only [codeK] at h
    obtain ⟨e, st1, h1, hl, hs⟩ := ih h
    cases e with
    | normal => exact ⟨.normal, st1, h1, hl, fun hS Q hQ => wp_block (hs hS _ hQ)⟩
    | exit i =>
      simp only at h1
      split at h1
      · rename_i hi
        exact ⟨.normal, st1, h1, hl, fun hS Q hQ => wp_block (hs hS _ fun ok' E' a' w' hS' g => by
          simp only [toExit, Exit.inBlock, hi, if_true]; exact hQ _ _ _ _ hS' g)⟩
      · rename_i hi
        exact ⟨.exit i, st1, h1, hl, fun hS Q hQ => wp_block (hs hS _ fun ok' E' a' w' hS' g => by
          simp only [toExit, Exit.inBlock, hi, if_false]; exact hQ _ _ _ _ hS' g)⟩
    | goto l => exact ⟨_, st1, h1, hl, fun hS Q hQ => wp_block (hs hS _ hQ)⟩
    | ret => exact ⟨_, st1, h1, hl, fun hS Q hQ => wp_block (hs hS _ hQ)⟩
  | loop body ih =>
    intro st k r h
    simp only [codeK] at h
    split at h
    case h_2 => cases h
    obtain ⟨st1, h1, hl1, hs1⟩ := prom_sound h
    obtain ⟨st2, h2, hl2, hs2⟩ := mask_sound h1
    obtain ⟨e, st3, h3, hl3, hs3⟩ := loop_sound ih h2
    refine ⟨e, st3, h3, by rw [hl3, hl2, hl1], fun hS Q hQ => ?_⟩
    obtain ⟨ok2, E2, hS2, g2⟩ := hs2 (hs1 hS)
    exact (hs3 hS2 Q fun ok' E' a' w' hS' g => hQ ok' E' a' w' hS' (g2.trans g)).loop
  | _ => intro st k r h; cases h

/-! ### Results -/
theorem asAddr_of_loadAt {t : TypeId} {u y : Value} {w : World} (h : (Instr.loadAt t u).run P w = .ok y w) : ((do loadVar t (← asAddr u)) : Sem Value).run P w = .ok y w := by
  unfold Instr.loadAt at h
  cases u <;> try (simp [Instr.sureAddr, stuck, Sem.run_bind] at h; done)
  rename_i a
  cases a with
  | none => simp [Instr.sureAddr, stuck, Sem.run_bind] at h
  | some a => simpa [Instr.sureAddr, asAddr, Sem.run_bind] using h

def resultM (tmps : Array Value) : ResultVar → Sem Value
  | .tmp t => pure (tmps.getD t undef)
  | .cell a t => do loadVar t (← asAddr (tmps.getD a undef))

theorem res_sound {sl : List AV} {L : Heap} : ∀ {rs : List ResultVar} {k : List AV → Option R} {r : R}, resK P sl L rs k = some r →
    ∃ vs, k vs = some r ∧ ∀ {B0 w0 ok E w tmps}, Mem B0 w0 ok E L w → SlRep E w ok tmps sl → ∃ us : List Value, (rs.mapM (resultM tmps)).run P w = .ok us w ∧ Reps E w ok us vs
  | [], k, r, h => ⟨[], h, fun hM hS => ⟨[], by simp, rfl, fun i x c hx => by simp at hx⟩⟩
  | .tmp t :: rs, k, r, h => by
    simp only [resK] at h
    obtain ⟨vs, hk, hs⟩ := res_sound h
    refine ⟨_, hk, fun {B0 w0 ok E w tmps} hM hS => ?_⟩
    obtain ⟨us, hr, hl, hi⟩ := hs hM hS
    refine ⟨tmps.getD t undef :: us, by simp [List.mapM_cons, resultM, Sem.run_bind, hr], by simp [hl], fun i x c hx hc => ?_⟩
    cases i with
    | zero =>
      simp at hx hc
      subst hx hc
      have := SlRep.ev (a := ⟨tmps, []⟩) hS (.tmp t)
      simpa [Act.eval, ev] using this
    | succ i => exact hi i x c (by simpa using hx) (by simpa using hc)
  | .cell a t :: rs, k, r, h => by
    simp only [resK] at h
    obtain ⟨v, hk0, hld⟩ := load_sound h
    obtain ⟨vs, hk, hs⟩ := res_sound hk0
    refine ⟨_, hk, fun {B0 w0 ok E w tmps} hM hS => ?_⟩
    obtain ⟨us, hr, hl, hi⟩ := hs hM hS
    have hev := SlRep.ev (a := ⟨tmps, []⟩) hS (.tmp a)
    obtain ⟨y, hy, hv⟩ := hld hM (show Rep E w ok (tmps.getD a undef) (sl.getD a .junk) from hev)
    refine ⟨y :: us, by
      have h1 := asAddr_of_loadAt hy
      simp only [List.mapM_cons, resultM, Sem.run_bind] at h1 ⊢
      rw [h1]
      simp [Result.andThen, hr], by simp [hl], fun i x c hx hc => ?_⟩
    cases i with
    | zero =>
      simp at hx hc
      subst hx hc
      exact hv
    | succ i => exact hi i x c (by simpa using hx) (by simpa using hc)

theorem run_results {fn : Func} {tmps : Array Value} {w : World} {us : List Value} (h : (fn.results.toList.mapM (resultM tmps)).run P w = .ok us w) :
    (results fn tmps).run P w = .ok (if h : us.toArray.size = 1 then us.toArray[0] else .tuple us.toArray) w := by
  have e : fn.results.mapM (resultM tmps) = (do pure (← fn.results.toList.mapM (resultM tmps)).toArray : Sem (Array Value)) := by
    simp
    exact Array.mapM_eq_mapM_toList
  have h1 : (fn.results.mapM (resultM tmps)).run P w = .ok us.toArray w := by
    rw [e, Sem.run_bind, h]; rfl
  unfold results
  rw [Sem.run_bind]
  erw [h1]
  rfl

/-- One result alone, or a row of them. -/
def resV (us : List Value) : Value := if h : us.toArray.size = 1 then us.toArray[0] else .tuple us.toArray

def resA (vs : List AV) : AV := match vs with | [v] => v | vs => mkTup vs

theorem rep_res {E : Env} {w : World} {ok : Nat → Prop} {us : List Value} {vs : List AV} (h : Reps E w ok us vs) : Rep E w ok (resV us) (resA vs) := by
  unfold resA
  have tup : ∀ {us : List Value} {vs : List AV}, Reps E w ok us vs → Rep E w ok (.tuple us.toArray) (mkTup vs) := fun {us vs} h => by
    unfold mkTup
    cases hd : allD vs with
    | none => exact .tup h.1 h.2
    | some ds =>
      have := allD_some hd
      subst this
      refine .d (.tup (by simpa using h.1) fun i x d hx hd => ?_)
      have := h.2 i x (.d d) hx (by rw [List.getElem?_map, hd]; rfl)
      cases this with
      | d h => exact h
  match us, vs, h with
  | [], [], h => exact tup h
  | [u], [v], h => exact h.2 0 u v rfl rfl
  | u :: u' :: us, v :: v' :: vs, h =>
    have : ¬ ((u :: u' :: us).toArray.size = 1) := by simp
    rw [show resV (u :: u' :: us) = .tuple (u :: u' :: us).toArray from by unfold resV; rw [dif_neg this]]
    exact tup h
  | [], v :: vs, h => exact absurd h.1 (by simp)
  | u :: us, [], h => exact absurd h.1 (by simp)
  | [u], v :: v' :: vs, h => exact absurd h.1 (by simp)
  | u :: u' :: us, [v], h => exact absurd h.1 (by simp)

theorem fun_sound (hsp : SpOk P sp) (hm : P.follows .mixedOrders = true) {or : Orc R} (hor : OrOk P or) {m : Nat} {fh : FnH} {f : FuncId} {fn : Func} (hf : P.funcs[f]? = some fn) {args : List AV} {L : Heap} {k : AV → Heap → Option R} {r : R} (h : funK P sp or m fh fn args L k = some r) :
    ∃ v L', k v L' = some r ∧ CallSem P f args L v L' := by
  unfold funK at h
  cases hb : fn.body with
  | none => rw [hb] at h; cases h
  | some c =>
    rw [hb] at h
    simp only at h
    obtain ⟨e, st', h1, hl, hs⟩ := code_sound hsp hm hor h
    unfold endK at h1
    have fin : (e = .normal ∨ e = .ret) → (resK P st'.sl st'.L fn.results.toList fun vs => match vs with | [v] => k v st'.L | vs => k (mkTup vs) st'.L) = some r → ∃ v L', k v L' = some r ∧ CallSem P f args L v L' := fun he h2 => by
      obtain ⟨vs, hk, hres⟩ := res_sound h2
      have hk' : k (resA vs) st'.L = some r := by
        unfold resA
        split at hk <;> exact hk
      refine ⟨_, _, hk', fun {B0 w0 ok E w vals} hM hvl hvr => ?_⟩
      refine calls_of_wp hf hb ?_
      have hlen : (vals.toArray ++ Array.replicate (fn.ntmps - vals.toArray.size) undef).size = (args ++ List.replicate (fn.ntmps - args.length) AV.junk).length := by simp [hvl]
      have hS : Sim B0 w0 ok E ⟨args ++ List.replicate (fn.ntmps - args.length) .junk, L⟩ { tmps := vals.toArray ++ Array.replicate (fn.ntmps - vals.toArray.size) undef, defers := [] } w := by
        refine ⟨hM, fun t x hx => ?_, hlen, rfl⟩
        by_cases hlt : t < args.length
        · rw [List.getElem?_append_left hlt] at hx
          have hv : vals[t]? = some vals[t] := List.getElem?_eq_getElem (by omega)
          have := hvr t _ x hv hx
          have e1 : (vals.toArray ++ Array.replicate (fn.ntmps - vals.toArray.size) undef).getD t undef = vals[t] := by
            rw [Array.getD_eq_getD_getElem?, Array.getElem?_append_left (by simpa [hvl] using hlt)]
            simp [hv]
          rw [e1]; exact this
        · rw [List.getElem?_append_right (by omega), List.getElem?_replicate] at hx
          split at hx <;> cases hx
          exact .junk
      have post : ∀ ok' E' a' w', Sim B0 w0 ok' E' st' a' w' → Step B0 L.length E w ok E' w' ok' → a'.defers = [] ∧ ∃ v, (results fn a'.tmps).run P w' = .ok v w' ∧
          (∃ u ok' E', Ending.returned v = .returned u ∧ Mem B0 w0 ok' E' st'.L w' ∧ Rep E' w' ok' u (resA vs) ∧ Grow E w ok E' w' ok' ∧ ∀ b, ok' b → ok b ∨ B0 ≤ b) := fun ok' E' a' w' hS' g => by
        obtain ⟨us, hr, hrep⟩ := hres hS'.mem hS'.sl
        exact ⟨hS'.defers, _, run_results hr, _, ok', E', rfl, hS'.mem, rep_res hrep, ⟨fun id x hx => g.env id x (hM.idlt hx) hx, g.oks, g.heap⟩, g.ext⟩
      refine hs hS _ fun ok' E' a' w' hS' g => ?_
      rcases he with rfl | rfl
      · exact post ok' E' a' w' hS' g
      · exact post ok' E' a' w' hS' g
    cases e with
    | normal => exact fin (.inl rfl) h1
    | ret => exact fin (.inr rfl) h1
    | exit id => cases h1
    | goto l => cases h1

/-! ### Functions walked where they are called -/
/-- The functions are those of the program. -/
def InlOk (P : Program) (H : Hints) : Prop := ∀ f fn fh, H.inl.lookup f = some (fn, fh) → P.funcs[f]? = some fn ∧ Enters P f

theorem inl_sound {H : Hints} (hsp : SpOk P H.sp) (hm : P.follows .mixedOrders = true) (hi : InlOk P H) {m : Nat} : ∀ n, OrOk P (inlK (R := R) P H m n)
  | 0 => fun f args L k r h => by cases h
  | n + 1 => fun f args L k r h => by
    simp only [inlK] at h
    split at h
    · rename_i fn fh hl
      obtain ⟨hf, hen⟩ := hi f fn fh hl
      obtain ⟨v, L', hk, hcs⟩ := fun_sound hsp hm (inl_sound hsp hm hi n) hf h
      exact ⟨v, L', hk, hen, hcs⟩
    · cases h

theorem data_sound {H : Hints} (hsp : SpOk P H.sp) (hm : P.follows .mixedOrders = true) (hi : InlOk P H) {m n : Nat} {fh : FnH} {f : FuncId} {fn : Func} (hf : P.funcs[f]? = some fn) (hen : Enters P f) {ds : List D} {d : D} (h : funD P H m n fh fn ds = some d) : DataSem P f ds d := by
  unfold funD at h
  obtain ⟨v, L', hk, hcs⟩ := fun_sound hsp hm (inl_sound hsp hm hi n) hf h
  rw [viewK_eq] at hk
  replace hk : viewD L' 8 v = some d := by cases hv : viewD L' 8 v <;> rw [hv] at hk <;> exact hk
  refine ⟨hen, fun {w ok vals} hok hv => ?_⟩
  have hM : Mem w.heap.size w ok (fun _ => none) [] w := { below := Below.refl _ _, okb := fun b hb => ⟨hok b hb, fun id m he => nomatch he⟩, inj := fun i j b m m' hi => (nomatch hi), loc := fun id b m he => (nomatch he), b0 := Nat.le_refl _, wf := fun i B hB => by simp at hB }
  refine (hcs hM (by simpa using hv.1) (fun i x a hx ha => ?_)).mono ?_
  · rw [List.getElem?_map] at ha
    cases hd : ds[i]? with
    | none => rw [hd] at ha; cases ha
    | some d => rw [hd] at ha; cases ha; exact .d (hv.2 i x d hx hd)
  · rintro e w' ⟨u, ok', E', rfl, hM', hu, g, ext⟩
    refine ⟨u, fun b => b < w'.heap.size ∧ (ok b ∨ w.heap.size ≤ b), rfl, hM'.below, fun b hb => hb, viewD_sound hk hM' (fun b hb => ⟨(hM'.okb b hb).1, ext b hb⟩) (fun id b m he => ⟨hM'.lt he, .inr (hM'.loc id b m he).1⟩) hu⟩

end Go.Ev

/-
  What an argument of a row stands for; the law that says 'true' whatever the input.
-/
set_option linter.unusedSimpArgs false
set_option linter.unusedVariables false
namespace Go.Ev
open Go Go.RowKit Go.ChangeShapes Go.WideShapes Go.ChangeAt
variable {P : Program}

/-- Fields one behind the other, from 'off' to 'n'. -/
def offsB (P : Program) : Nat → List Field → Nat → Bool
  | off, [], n => off == n
  | off, f :: fs, n => f.offset == off && offsB P (off + P.cellsOf f.type) fs n

/-- Types of data, closed under their parts. -/
def closedB (P : Program) (ts : List TypeId) : Bool := ts.all fun t =>
  match P.underlying t with
  | some .bool | some .string => P.cellsOf t == 1
  | some (.int _) => P.cellsOf t == 1
  | some (.slice e) => P.cellsOf t == 1 && ts.contains e && decide (0 < P.cellsOf e)
  | some (.struct fs) => offsB P 0 fs.toList (P.cellsOf t) && fs.toList.all fun f => ts.contains f.type
  | some (.array n e) => ts.contains e && P.cellsOf t == n * P.cellsOf e
  | _ => false

/-- The shape of a type's cells. -/
def Fits (P : Program) : Nat → TypeId → List D → Prop
  | 0, _, _ => False
  | n + 1, t, ds =>
    match P.underlying t with
    | some .bool => ∃ b, ds = [.v (.bool b)]
    | some (.int k) => ∃ i, ds = [.v (.int k i)] ∧ (Lit.int k i).wf = true
    | some .string => ∃ s, ds = [.v (.string s)] ∧ s.size ≤ maxLen
    | some (.slice e) => ∃ m cp cs, ds = [.list m (some cp) cs] ∧ m ≤ cp ∧ cp ≤ maxLen ∧ cs.length = m * P.cellsOf e ∧ ∀ i, i < m → Fits P n e ((cs.drop (i * P.cellsOf e)).take (P.cellsOf e))
    | some (.struct fs) => ds.length = P.cellsOf t ∧ ∀ f, f ∈ fs.toList → Fits P n f.type ((ds.drop f.offset).take (P.cellsOf f.type))
    | some (.array m e) => ds.length = P.cellsOf t ∧ ∀ i, i < m → Fits P n e ((ds.drop (i * P.cellsOf e)).take (P.cellsOf e))
    | _ => False

/-- Rows chosen one by one, laid one behind the other. -/
theorem rows_of {c : Nat} {Q : Nat → List D → Prop} : ∀ (m : Nat), (∀ i, i < m → ∃ l : List D, l.length = c ∧ Q i l) → ∃ L : List D, L.length = m * c ∧ ∀ i, i < m → Q i ((L.drop (i * c)).take c)
  | 0, _ => ⟨[], by simp, fun i hi => by omega⟩
  | m + 1, h => by
    obtain ⟨L, hL, hQ⟩ := rows_of m (fun i hi => h i (by omega))
    obtain ⟨l, hl, hq⟩ := h m (by omega)
    have hmul : (m + 1) * c = m * c + c := Nat.succ_mul m c
    refine ⟨L ++ l, by simp [hL, hl, hmul], fun i hi => ?_⟩
    by_cases him : i < m
    · have h1 : (i + 1) * c ≤ m * c := Nat.mul_le_mul_right _ him
      have h2 : (i + 1) * c = i * c + c := Nat.succ_mul i c
      rw [List.drop_append_of_le_length (by omega), List.take_append_of_le_length (by simp; omega)]
      exact hQ i him
    · have : i = m := by omega
      subst this
      rw [show i * c = L.length from hL.symm, List.drop_left, List.take_of_length_le (by omega)]
      exact hq

section
variable {H : Type} {enc : TypeId × Value → H} {w : World} {held : Bool}

theorem getElem?_rows {α : Type} {L : List α} {c j : Nat} (hc : 0 < c) {x : α} (h : L[j]? = some x) : ((L.drop ((j / c) * c)).take c)[j % c]? = some x := by
  rw [List.getElem?_take, if_pos (Nat.mod_lt _ hc), List.getElem?_drop]
  have : j / c * c + j % c = j := by rw [Nat.mul_comm]; exact Nat.div_add_mod j c
  rw [this]; exact h

/-- What reads as data stands for data. -/
theorem trod_fits {ts : List TypeId} (hcl : closedB P ts = true) : ∀ (fuel : Nat) (t : TypeId) (cs : List Value) (x : DataW H × List MemPlace), t ∈ ts →
    DataW.trod enc P w 0 (fun _ => true) held fuel t cs = some x → ∃ ds, RepDs w (okAll w) cs ds ∧ (∀ d, d ∈ ds → d.one = true) ∧ Fits P fuel t ds ∧ cs.length = P.cellsOf t
  | 0, t, cs, x, _, h => by simp [DataW.trod] at h
  | n + 1, t, cs, x, ht, h => by
    have hc := List.all_eq_true.1 hcl t ht
    have one : ∀ {v : Value}, leaf v = true → cs = [v] → P.cellsOf t = 1 → (Fits P (n + 1) t [.v v]) → ∃ ds, RepDs w (okAll w) cs ds ∧ (∀ d, d ∈ ds → d.one = true) ∧ Fits P (n + 1) t ds ∧ cs.length = P.cellsOf t := fun {v} hl hcs h1 hf =>
      ⟨[.v v], by
        subst hcs
        refine ⟨rfl, fun i x d hx hd => ?_⟩
        cases i with
        | zero => simp at hx hd; subst hx hd; exact .v hl
        | succ i => simp at hx, by simp [D.one], hf, by rw [hcs, h1]; rfl⟩
    cases hu : P.underlying t with
    | none => rw [hu] at hc; cases hc
    | some d =>
      rw [hu] at hc
      cases d <;> simp only at hc <;> try (cases hc; done)
      case bool =>
        obtain ⟨b, rfl, _⟩ := DataW.trod_bool hu h
        exact one rfl rfl (by simpa using hc) (by simp only [Fits, hu]; exact ⟨b, rfl⟩)
      case int k =>
        obtain ⟨i, rfl, _, hw⟩ := DataW.trod_int hu h
        exact one rfl rfl (by simpa using hc) (by simp only [Fits, hu]; exact ⟨i, rfl, hw⟩)
      case string =>
        obtain ⟨s, rfl, _, hs⟩ := DataW.trod_string hu h
        exact one rfl rfl (by simpa using hc) (by simp only [Fits, hu]; exact ⟨s, rfl, hs⟩)
      case slice e =>
        simp only [Bool.and_eq_true, beq_iff_eq, decide_eq_true_eq] at hc
        obtain ⟨⟨hc1, hce⟩, hpos⟩ := hc
        have hem : e ∈ ts := by simpa using hce
        have fin : ∀ {a : Option Addr} {m cp : Nat} {cs' : List D}, cs = [.slice a m cp] → RepD w (okAll w) (.slice a m cp) (.list m (some cp) cs') → m ≤ cp → cp ≤ maxLen → cs'.length = m * P.cellsOf e →
            (∀ i, i < m → Fits P n e ((cs'.drop (i * P.cellsOf e)).take (P.cellsOf e))) → ∃ ds, RepDs w (okAll w) cs ds ∧ (∀ d, d ∈ ds → d.one = true) ∧ Fits P (n + 1) t ds ∧ cs.length = P.cellsOf t := fun {a m cp cs'} hcs hr h1 h2 h3 h4 =>
          ⟨[.list m (some cp) cs'], by
            subst hcs
            refine ⟨rfl, fun i x d hx hd => ?_⟩
            cases i with
            | zero => simp at hx hd; subst hx hd; exact hr
            | succ i => simp at hx, by simp [D.one], by simp only [Fits, hu]; exact ⟨m, cp, cs', rfl, h1, h2, h3, h4⟩, by rw [hcs, hc1]; rfl⟩
        rcases DataW.trod_slice hu h with ⟨rfl, _⟩ | ⟨a, len, cap, elems, rest, n', hn', rfl, _, _, hlc, hcm, hlen, hel, hsp, _⟩
        · exact fin rfl (.nil (.inr rfl)) (Nat.le_refl _) (Nat.zero_le _) (by simp) (fun i hi => by omega)
        · have hnn : n' = n := by omega
          subst hnn
          obtain ⟨hrl, hrest⟩ := hsp rfl
          -- each element
          have each : ∀ i, i < len → ∃ l : List D, l.length = P.cellsOf e ∧ ((∀ d, d ∈ l → d.one = true) ∧ Fits P n' e l ∧ ∀ (j : Nat) d, l[j]? = some d → ∃ v, w.cell? (a.add (i * P.cellsOf e + j)) = some v ∧ RepD w (okAll w) v d) := fun i hi => by
            have h1 := hel i hi
            rw [List.getElem?_eq_getElem (by omega)] at h1
            obtain ⟨vs, hvs, h2⟩ := Option.bind_eq_some_iff.1 h1
            obtain ⟨ds, hr, ho, hf, hl⟩ := trod_fits hcl n' e vs _ hem h2
            obtain ⟨_, hvl, hcell⟩ := World.cells?_some hvs
            refine ⟨ds, by rw [← hr.1, hvl], ho, hf, fun j d hj => ?_⟩
            have hjl : j < vs.length := by rw [hr.1]; exact (List.getElem?_eq_some_iff.1 hj).1
            have hv := List.getElem?_eq_getElem hjl
            refine ⟨vs[j], ?_, hr.2 j _ d hv hj⟩
            rw [← hv, ← hcell j (by omega)]
            congr 1
            unfold Addr.add
            by_cases h0 : i * P.cellsOf e = 0
            · simp [h0]
            · by_cases hj0 : j = 0
              · simp [hj0]
              · simp [h0, hj0, Nat.add_assoc]
          obtain ⟨L, hL, hQ⟩ := rows_of len each
          by_cases hcap : cap = 0
          · have hl0 : len = 0 := by omega
            subst hcap hl0
            have : L = [] := List.eq_nil_of_length_eq_zero (by rw [hL]; simp)
            subst this
            exact fin rfl (.nil (.inr rfl)) (Nat.le_refl _) hcm (by simp) (fun i hi => by omega)
          · -- the address has no spot, and its block is there
            have hcell0 : ∃ v, w.cell? a = some v := by
              by_cases hl0 : len = 0
              · subst hl0
                have h1 := hrest 0 (by omega)
                rw [List.getElem?_eq_getElem (by omega)] at h1
                obtain ⟨vs, hvs, _⟩ := Option.bind_eq_some_iff.1 h1
                obtain ⟨_, hvl, hcell⟩ := World.cells?_some hvs
                have := hcell 0 hpos
                rw [List.getElem?_eq_getElem (by omega)] at this
                exact ⟨_, by simpa [Addr.add] using this⟩
              · have h1 := hel 0 (by omega)
                rw [List.getElem?_eq_getElem (by omega)] at h1
                obtain ⟨vs, hvs, _⟩ := Option.bind_eq_some_iff.1 h1
                obtain ⟨_, hvl, hcell⟩ := World.cells?_some hvs
                have := hcell 0 hpos
                rw [List.getElem?_eq_getElem (by omega)] at this
                exact ⟨_, by simpa [Addr.add] using this⟩
            obtain ⟨v0, hv0⟩ := hcell0
            obtain ⟨b, off, spot⟩ := a
            have hsb : spot = none ∧ b < w.heap.size := by
              unfold World.cell? at hv0
              split at hv0
              · rename_i c _ _ hb
                cases spot with
                | none => exact ⟨rfl, (Array.getElem?_eq_some_iff.1 hb).1⟩
                | some s => simp at hv0
              · cases hv0
            obtain ⟨rfl, hblt⟩ := hsb
            refine fin rfl (.list (f := fun j => (w.cell? ⟨b, off + j, none⟩).getD undef) hblt hlc (fun c hc => by cases hc; rfl) (fun d hd => ?_) (fun j hj => ?_) (fun j d hd => ?_)) hlc hcm hL (fun i hi => (hQ i hi).2.1)
            · obtain ⟨j, hj⟩ := List.getElem?_of_mem hd
              have hjl := (List.getElem?_eq_some_iff.1 hj).1
              have hdiv : j / P.cellsOf e < len := Nat.div_lt_of_lt_mul (by rw [Nat.mul_comm]; omega)
              exact (hQ _ hdiv).1 d (List.mem_of_getElem? (getElem?_rows hpos hj))
            · have hj' := List.getElem?_eq_getElem hj
              have hdiv : j / P.cellsOf e < len := Nat.div_lt_of_lt_mul (by rw [Nat.mul_comm]; omega)
              obtain ⟨v, hv, _⟩ := (hQ _ hdiv).2.2 _ _ (getElem?_rows hpos hj')
              have e1 : j / P.cellsOf e * P.cellsOf e + j % P.cellsOf e = j := by rw [Nat.mul_comm]; exact Nat.div_add_mod j _
              rw [e1, Addr.add_mid] at hv
              rw [hv]; rfl
            · have hjl := (List.getElem?_eq_some_iff.1 hd).1
              have hdiv : j / P.cellsOf e < len := Nat.div_lt_of_lt_mul (by rw [Nat.mul_comm]; omega)
              obtain ⟨v, hv, hr⟩ := (hQ _ hdiv).2.2 _ _ (getElem?_rows hpos hd)
              have e1 : j / P.cellsOf e * P.cellsOf e + j % P.cellsOf e = j := by rw [Nat.mul_comm]; exact Nat.div_add_mod j _
              rw [e1, Addr.add_mid] at hv
              rw [hv]; exact hr
      case struct fs =>
        simp only [Bool.and_eq_true] at hc
        obtain ⟨hoff, hall⟩ := hc
        obtain ⟨xs, n', hn', _, hcl', hxl, hf⟩ := DataW.trod_struct hu h
        have hnn : n' = n := by omega
        subst hnn
        have key : ∀ (gs : List Field) (off : Nat), (∀ f, f ∈ gs → f ∈ fs.toList) → offsB P off gs (P.cellsOf t) = true → off ≤ cs.length → ∃ ds, RepDs w (okAll w) (cs.drop off) ds ∧ (∀ d, d ∈ ds → d.one = true) ∧
            ∀ f, f ∈ gs → off ≤ f.offset ∧ Fits P n' f.type ((ds.drop (f.offset - off)).take (P.cellsOf f.type)) := by
          intro gs
          induction gs with
          | nil =>
            intro off _ ho hle
            have : off = P.cellsOf t := by simpa [offsB] using ho
            exact ⟨[], ⟨by simp [this, hcl'], fun i x d _ hd => by simp at hd⟩, by simp, fun f hf => by simp at hf⟩
          | cons f gs ih =>
            intro off hm ho hle
            simp only [offsB, Bool.and_eq_true, beq_iff_eq] at ho
            obtain ⟨hfo, hrest⟩ := ho
            obtain ⟨i, hi⟩ := List.getElem?_of_mem (hm f (by simp))
            have h1 := hf i f (by simpa using hi)
            have hil : i < xs.length := by rw [hxl]; have := (List.getElem?_eq_some_iff.1 hi).1; simpa using this
            rw [List.getElem?_eq_getElem hil] at h1
            have hft : f.type ∈ ts := by simpa using List.all_eq_true.1 hall f (hm f (by simp))
            obtain ⟨d1, hr1, ho1, hf1, hl1⟩ := trod_fits hcl n' f.type _ _ hft h1
            have hle2 : off + P.cellsOf f.type ≤ cs.length := by
              rw [hfo] at hl1
              simp at hl1
              omega
            obtain ⟨d2, hr2, ho2, hf2⟩ := ih (off + P.cellsOf f.type) (fun f hf => hm f (by simp [hf])) hrest hle2
            have hd1 : d1.length = P.cellsOf f.type := by rw [← hr1.1, hl1]
            have hsplit : cs.drop off = (cs.drop f.offset).take (P.cellsOf f.type) ++ cs.drop (off + P.cellsOf f.type) := by
              rw [hfo, ← List.drop_drop]
              exact (List.take_append_drop _ _).symm
            refine ⟨d1 ++ d2, by rw [hsplit]; exact hr1.append hr2, fun d hd => ?_, fun g hg => ?_⟩
            · rcases List.mem_append.1 hd with hd | hd
              · exact ho1 d hd
              · exact ho2 d hd
            · rcases List.mem_cons.1 hg with rfl | hg
              · refine ⟨by omega, ?_⟩
                rw [hfo, Nat.sub_self, List.drop_zero, ← hd1, List.take_left]
                exact hf1
              · obtain ⟨hge, hfit⟩ := hf2 g hg
                refine ⟨by omega, ?_⟩
                rw [List.drop_append, List.drop_eq_nil_of_le (by omega), List.nil_append, hd1]
                rw [show g.offset - off - P.cellsOf f.type = g.offset - (off + P.cellsOf f.type) by omega]
                exact hfit
        obtain ⟨ds, hr, ho, hfit⟩ := key fs.toList 0 (fun _ h => h) hoff (Nat.zero_le _)
        rw [List.drop_zero] at hr
        exact ⟨ds, hr, ho, by simp only [Fits, hu]; exact ⟨by rw [← hr.1, hcl'], fun f hf => by simpa using (hfit f hf).2⟩, hcl'⟩
      case array m e =>
        simp only [Bool.and_eq_true, beq_iff_eq] at hc
        obtain ⟨hce, hsz⟩ := hc
        have hem : e ∈ ts := by simpa using hce
        obtain ⟨xs, n', hn', _, hcl', hxl, hf⟩ := DataW.trod_array hu h
        have hnn : n' = n := by omega
        subst hnn
        have each : ∀ i, i < m → ∃ l : List D, l.length = P.cellsOf e ∧ ((∀ d, d ∈ l → d.one = true) ∧ Fits P n' e l ∧ RepDs w (okAll w) ((cs.drop (i * P.cellsOf e)).take (P.cellsOf e)) l) := fun i hi => by
          have h1 := hf i hi
          rw [List.getElem?_eq_getElem (by omega)] at h1
          obtain ⟨ds, hr, ho, hfit, hl⟩ := trod_fits hcl n' e _ _ hem h1
          exact ⟨ds, by rw [← hr.1, hl], ho, hfit, hr⟩
        obtain ⟨L, hL, hQ⟩ := rows_of m each
        have hlen : cs.length = L.length := by rw [hcl', hsz, hL]
        have hpos : ∀ (j : Nat), j < L.length → 0 < P.cellsOf e := fun j hj => by
          rcases Nat.eq_zero_or_pos (P.cellsOf e) with h0 | h0
          · rw [h0, Nat.mul_zero] at hL; omega
          · exact h0
        refine ⟨L, ⟨hlen, fun j x d hx hd => ?_⟩, fun d hd => ?_, by simp only [Fits, hu]; exact ⟨by rw [← hlen, hcl'], fun i hi => (hQ i hi).2.1⟩, hcl'⟩
        · have hjl := (List.getElem?_eq_some_iff.1 hd).1
          have hp := hpos j hjl
          have hdiv : j / P.cellsOf e < m := Nat.div_lt_of_lt_mul (by rw [Nat.mul_comm]; omega)
          exact (hQ _ hdiv).2.2.2 _ x d (getElem?_rows hp hx) (getElem?_rows hp hd)
        · obtain ⟨j, hj⟩ := List.getElem?_of_mem hd
          have hjl := (List.getElem?_eq_some_iff.1 hj).1
          have hp := hpos j hjl
          have hdiv : j / P.cellsOf e < m := Nat.div_lt_of_lt_mul (by rw [Nat.mul_comm]; omega)
          exact (hQ _ hdiv).1 d (List.mem_of_getElem? (getElem?_rows hp hj))

/-- What an argument stands for, by its type. -/
def ArgFits (P : Program) (t : TypeId) (d : D) : Prop :=
  ∃ n, match P.underlying t with
    | some (.struct _) | some (.array _ _) => ∃ cs, d = .agg cs ∧ Fits P n t cs
    | _ => Fits P n t [d]

/-- An argument: what it stands for. -/
theorem arg_fits {ts : List TypeId} (hcl : closedB P ts = true) {t : TypeId} (ht : t ∈ ts) {r : Reach} {b0 : Nat} {v : Value} {d : DataW H} {ps : List MemPlace} (hval : Value.okWide P w r b0 t v) (h : DataW.Trod enc P w 0 (fun _ => true) held t v d ps) :
    ∃ x, RepD w (okAll w) v x ∧ ArgFits P t x := by
  obtain ⟨fuel, h⟩ := h
  obtain ⟨ds, h1, h2, h3, h4⟩ := trod_fits hcl fuel t _ _ ht h
  have hc := List.all_eq_true.1 hcl t ht
  have row : (∃ cs, v = .agg cs) → RepD w (okAll w) v (.agg ds) := by
    rintro ⟨cs, rfl⟩
    have e : (Value.agg cs).cells.toList = cs.toList := rfl
    rw [e] at h1
    have := RepD.agg (w := w) (ok := okAll w) h1.1 h2 h1.2
    simpa using this
  have cell : v.oneCell' = true → P.cellsOf t = 1 → ∃ d, ds = [d] ∧ RepD w (okAll w) v d := fun hv hone => by
    rw [cells_one hv] at h1
    match ds, h1 with
    | [d], h1 => exact ⟨d, rfl, h1.2 0 v d rfl rfl⟩
    | [], h1 => exact absurd h1.1 (by simp)
    | _ :: _ :: _, h1 => exact absurd h1.1 (by simp)
  cases hu : P.underlying t with
  | none => rw [hu] at hc; cases hc
  | some q =>
    unfold Value.okWide at hval
    rw [hu] at hc hval
    cases q <;> simp only at hc hval <;> try (cases hc; done)
    case struct fs => obtain ⟨cs, rfl, _⟩ := hval; exact ⟨_, row ⟨cs, rfl⟩, fuel, by rw [hu]; exact ⟨ds, rfl, h3⟩⟩
    case array m e => obtain ⟨cs, rfl, _⟩ := hval; exact ⟨_, row ⟨cs, rfl⟩, fuel, by rw [hu]; exact ⟨ds, rfl, h3⟩⟩
    all_goals
      have hv : v.oneCell' = true := by
        unfold Cell.okWide Cell.ok at hval
        rw [hu] at hval
        cases v <;> first | rfl | exact hval.elim
      have h1c : P.cellsOf t = 1 := by
        first
          | exact of_decide_eq_true (by simpa using hc)
          | (simp only [Bool.and_eq_true, beq_iff_eq] at hc; exact hc.1.1)
          | simpa using hc
      obtain ⟨d, rfl, hd⟩ := cell hv h1c
      exact ⟨d, hd, fuel, by rw [hu]; exact h3⟩

theorem args_fit {ts : List TypeId} (hcl : closedB P ts = true) : ∀ {ps : List TypeId} {vs : List Value} {ds : List (DataW H)} {pl : List MemPlace}, (∀ t, t ∈ ps → t ∈ ts) →
    (∀ (j : Nat) t v, ps[j]? = some t → vs[j]? = some v → ∃ r b0, Value.okWide P w r b0 t v) → DataW.TrodAll enc P w 0 (fun _ => true) held ps vs ds pl →
    ∃ xs : List D, RepDs w (okAll w) vs xs ∧ xs.length = ps.length ∧ ∀ (j : Nat) t x, ps[j]? = some t → xs[j]? = some x → ArgFits P t x
  | [], [], [], pl, _, _, _ => ⟨[], ⟨rfl, fun i x d hx => by simp at hx⟩, rfl, fun j t x hj => by simp at hj⟩
  | t :: ps, v :: vs, d :: ds, pl, hts, hval, h => by
    obtain ⟨p, q, h1, h2, _⟩ := h
    obtain ⟨r, b0, hv⟩ := hval 0 t v rfl rfl
    obtain ⟨x, hx, hf⟩ := arg_fits hcl (hts t (by simp)) hv h1
    obtain ⟨xs, hxs, hl, hfs⟩ := args_fit hcl (fun t ht => hts t (by simp [ht])) (fun j t v hj hv => hval (j + 1) t v (by simpa using hj) (by simpa using hv)) h2
    refine ⟨x :: xs, ⟨by simp [hxs.1], fun i y d hy hd => ?_⟩, by simp [hl], fun j t' y hj hy => ?_⟩
    · cases i with
      | zero => simp at hy hd; subst hy hd; exact hx
      | succ i => exact hxs.2 i y d (by simpa using hy) (by simpa using hd)
    · cases j with
      | zero => simp at hj hy; subst hj hy; exact hf
      | succ j => exact hfs j t' y (by simpa using hj) (by simpa using hy)
  | [], _ :: _, _, _, _, _, h => h.elim
  | [], [], _ :: _, _, _, _, h => h.elim
  | _ :: _, [], _, _, _, _, h => h.elim
  | _ :: _, _ :: _, [], _, _, _, h => h.elim

/-- Behind the call the arguments read as before it. -/
theorem trodAll_stays (hl : laidOutB P = true) {W W' : World} {sp : Nat → Bool} (hb : Below W.heap.size W W') : ∀ {ts : List TypeId} {vs : List Value} {ds : List (DataW H)} {ps : List MemPlace}, (∀ t, t ∈ ts → P.readableRec t = true ∧ t < P.types.size) →
    DataW.TrodAll enc P W 0 (fun _ => true) true ts vs ds ps → (∀ p, p ∈ ps → p.block < W.heap.size ∧ sp p.block = true) → DataW.TrodAll enc P W' 0 sp true ts vs ds ps
  | [], [], [], ps, _, h, _ => h
  | t :: ts, v :: vs, d :: ds, ps, hr, ⟨p, q, h1, h2, he⟩, hp => by
    subst he
    exact ⟨p, q, WideElems.Trod_stays hl (hr t (by simp)).1 (hr t (by simp)).2 h1 (fun x hx => hb.same (hp x (by simp [hx])).1) (fun x hx => (hp x (by simp [hx])).2),
      trodAll_stays hl hb (fun t ht => hr t (by simp [ht])) h2 (fun x hx => hp x (by simp [hx])), rfl⟩
  | [], _ :: _, _, _, _, h, _ => h.elim
  | [], [], _ :: _, _, _, h, _ => h.elim
  | _ :: _, [], _, _, _, h, _ => h.elim
  | _ :: _, _ :: _, [], _, _, h, _ => h.elim

/-- THE LAW's POST: true, and the arguments read as before. -/
theorem law_post (hl : laidOutB P = true) {f : Func} {s : ChangeSpec} {fresh handsOn again : Bool} {tb : TypeId} (htb : P.underlying tb = some .bool) (hres : f.resultTypes = #[tb]) (hvars : s.vars = [])
    (hr : ∀ t, t ∈ f.params.toList → P.readableRec t = true ∧ t < P.types.size) (hfn : ∀ (H : Type) (ds : List (DataW H)), ds.length = f.params.size → s.fn H ds = { results := [.lit (.bool true)], args := ds })
    {W W' : World} {args : Array Value} {ds gs : List (DataW H)} {before : List MemPlace} (hW : DataW.Whole enc P f.params.toList s.vars false W args.toList ds gs before) (hb : Below W.heap.size W W') :
    s.post enc P f false fresh handsOn again W args (.bool true) W' := by
  have hlt := hW.lt
  have hW0 := hW
  obtain ⟨p, q, hA, hV, rfl, hz, hn⟩ := hW
  rw [hvars] at hV
  obtain ⟨rfl, rfl⟩ := trodVars_none hV
  have hlen : ds.length = f.params.size := by
    have : ∀ {ts : List TypeId} {vs : List Value} {ds : List (DataW H)} {ps : List MemPlace}, DataW.TrodAll enc P W 0 (fun _ => true) true ts vs ds ps → ds.length = ts.length := by
      intro ts
      induction ts with
      | nil => intro vs ds ps h; cases vs <;> cases ds <;> first | rfl | exact h.elim
      | cons t ts ih =>
        intro vs ds ps h
        cases vs <;> cases ds <;> first | exact h.elim | skip
        obtain ⟨_, _, _, h2, _⟩ := h
        simp [ih h2]
    simpa using this hA
  have hspec : s.fn H (ds ++ []) = { results := [.lit (.bool true)], args := ds } := by rw [List.append_nil]; exact hfn H ds hlen
  have hres' : ∀ (b : Nat) (sp : Nat → Bool) (hd : Bool), DataW.TrodAll enc P W' b sp hd f.resultTypes.toList ((Value.bool true).resultList f.resultTypes.size) (s.fn H (ds ++ [])).results [] := fun b sp hd => by
    rw [hspec, hres]
    exact trodAll_cons_mk (shut_bool htb _) trodAll_mk0
  have hargs : ∀ sp : Nat → Bool, (∀ x ∈ p ++ [], sp x.block = true) → DataW.TrodAll enc P W' 0 sp true f.params.toList args.toList (s.fn H (ds ++ [])).args p := fun sp hsp => by
    rw [hspec]
    exact trodAll_stays hl hb hr hA (fun x hx => ⟨hlt x (by simp [hx]), hsp x (by simp [hx])⟩)
  have hvars' : ∀ sp : Nat → Bool, DataW.TrodVars enc P W' sp s.vars (s.fn H (ds ++ [])).vars [] := fun sp => by rw [hvars, hspec]; rfl
  have hold : ∀ x ∈ p ++ [], (fun b => decide (b < W.heap.size)) x.block = true := fun x hx => by simpa using hlt x hx
  refine ⟨ds, [], p ++ [], [], p, [], hW0, hres' _ _ _, hargs _ hold, hvars' _, hb.frame _, fun _ => ?_⟩
  refine ⟨ok_one hres rfl (okWide_bool_mk htb _), _, _, ([] ++ p) ++ [], ⟨[] ++ p, [], trodAll_append (hargs _ (fun _ _ => rfl)) (hres' _ _ _), hvars' _, rfl, ?_, ?_⟩, ?_⟩
  · intro b off hp
    have hp' : MemPlace.cell b off ∈ p ++ [] := by simpa using hp
    rw [hb.frozen (p := ⟨b, off, none⟩) (hlt _ hp')]
    exact hz b off hp'
  · intro ha; cases ha
  · intro x hx _
    simpa using hx

/-- THE LAW's CONTRACT: whatever the arguments stand for, the function answers 'true'. -/
theorem law_contract (hl : laidOutB P = true) {f : FuncId} {fn : Func} {s : ChangeSpec} {fresh handsOn again : Bool} {tb : TypeId} (htb : P.underlying tb = some .bool) (hres : fn.resultTypes = #[tb]) (hvars : s.vars = [])
    {ts : List TypeId} (hcl : closedB P ts = true) (hts : ∀ t, t ∈ fn.params.toList → t ∈ ts) (hr : ∀ t, t ∈ fn.params.toList → P.readableRec t = true ∧ t < P.types.size)
    (hfn : ∀ (H : Type) (ds : List (DataW H)), ds.length = fn.params.size → s.fn H ds = { results := [.lit (.bool true)], args := ds })
    (hdata : ∀ xs : List D, xs.length = fn.params.toList.length → (∀ (j : Nat) t x, fn.params.toList[j]? = some t → xs[j]? = some x → ArgFits P t x) → DataSem P f xs (.v (.bool true)))
    {W : World} {base : Nat} {args : Array Value} {ds gs : List (DataW H)} {before : List MemPlace} (hval : ∀ (j : Nat) t v, fn.params[j]? = some t → args[j]? = some v → Value.okWide P W .any base t v)
    (hW : DataW.Whole enc P fn.params.toList s.vars false W args.toList ds gs before) :
    Calls P f args W fun e W' => ∃ v, e = .returned v ∧ s.post enc P fn false fresh handsOn again W args v W' := by
  have hW0 := hW
  obtain ⟨p, q, hA, _, _, _, _⟩ := hW
  obtain ⟨xs, hxs, hlen, hfit⟩ := args_fit hcl hts (fun j t v hj hv => ⟨.any, base, hval j t v (by simpa using hj) (by simpa using hv)⟩) hA
  have := (hdata xs hlen hfit).2 (w := W) (ok := okAll W) (fun b hb => hb) hxs
  have e : args.toList.toArray = args := by simp
  rw [e] at this
  refine this.mono ?_
  rintro e W' ⟨u, ok', rfl, hb, _, hu⟩
  cases hu
  exact ⟨_, rfl, law_post hl htb hres hvars hr hfn hW0 hb⟩
end
end Go.Ev

/-
  Tables of functions, built up one by one.
-/
namespace Go.Ev
open Go
variable {P : Program}
/-- Rounds enough for whatever a slice or a machine word asks. -/
def M : Nat := 18446744073709551616

theorem SpOk.nil : SpOk P [] := fun _ _ _ _ h => by cases h
theorem SpOk.cons {f : FuncId} {s : List D → Option D} {sp : SpTab} (h : ∀ ds d, s ds = some d → DataSem P f ds d) (hs : SpOk P sp) : SpOk P ((f, s) :: sp) := by
  intro g t ds d hl hd
  simp only [List.lookup] at hl
  split at hl
  · rename_i he
    cases hl
    rw [show g = f from by simpa using he]
    exact h ds d hd
  · exact hs g t ds d hl hd
theorem InlOk.nil {sp : SpTab} : InlOk P ⟨sp, []⟩ := fun _ _ _ h => by cases h
theorem InlOk.cons {f : FuncId} {fn : Func} {fh : FnH} {sp : SpTab} {l : List (FuncId × Func × FnH)} (hf : P.funcs[f]? = some fn) (he : Enters P f) (h : InlOk P ⟨sp, l⟩) : InlOk P ⟨sp, (f, fn, fh) :: l⟩ := by
  intro g gn gh hl
  simp only [List.lookup] at hl
  split at hl
  · rename_i hg
    cases hl
    rw [show g = f from by simpa using hg]
    exact ⟨hf, he⟩
  · exact h g gn gh hl
end Go.Ev
