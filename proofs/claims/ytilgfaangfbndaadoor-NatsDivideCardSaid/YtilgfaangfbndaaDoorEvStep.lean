/-
  One operation, whatever it is: sound. The rest of the operations.
-/
import Derived.Test.YtilgfaangfbndaaDoorEvOp
set_option linter.unusedSimpArgs false
set_option linter.unusedVariables false
namespace Go.Ev
open Go Go.RowKit
variable {R : Type} {P : Program} {base : Nat} {sp : SpTab} {fz : Bool}

theorem getElem_two {α : Type} {xs : Array α} {a b : α} (h : xs.toList = [a, b]) : xs = #[a, b] := by apply Array.ext'; simp [h]
theorem getElem_onel {α : Type} {xs : Array α} {a : α} (h : xs.toList = [a]) : xs = #[a] := by apply Array.ext'; simp [h]

theorem call_step {o : Oper} {c : Call} {f : Operand} {g : FuncId} {a : Act} {w : World} {vs : List Value} {B0 : Nat} {w0 : World} {ok : Nat → Prop} {E : Env} {L : Heap} {v : AV} (hop : o.op = .call c) (hc : c.callee = .value f) (hen : Enters P g) (hev : a.eval f = .func (.func g) #[] vs.toArray)
    (h : Calls P g (c.args.toList.map a.eval ++ vs).toArray w (fun e w' => ∃ u ok', e = .returned u ∧ Below w.heap.size w w' ∧ Mem B0 w0 ok' E L w' ∧ Grow E w ok E w' ok' ∧ (∀ b, ok' b → ok b ∨ B0 ≤ b) ∧ Rep E w' ok' u v))
    {K : Act → World → Prop} {Q : Exit → Act → World → Prop} (hK : ∀ u w', (∃ ok', Below w.heap.size w w' ∧ Mem B0 w0 ok' E L w' ∧ Grow E w ok E w' ok' ∧ (∀ b, ok' b → ok b ∨ B0 ≤ b) ∧ Rep E w' ok' u v) → K (a.put o.dst u) w') : o.wp P a w K Q := by
  have hrun : (execOp a.eval o).run P w = .ok (.enter g ((c.args.toList.map a.eval) ++ vs).toArray) w := by
    have h1 := run_callFunc (P := P) (w := w) (args := (c.args.toList.map a.eval ++ vs).toArray) hen
    simp only [execOp, hop, resolve, hc, hev, Deferred.ofValue]
    have e1 : #[] ++ c.args.map a.eval ++ vs.toArray = (c.args.toList.map a.eval ++ vs).toArray := by apply Array.ext'; simp
    simp only [invoke, Sem.run_pure, Sem.run_bind, Result.andThen, e1]
    exact h1
  unfold Oper.wp
  rw [hrun, Oper.upon_enter]
  refine h.mono ?_
  rintro e w' ⟨u, ok', rfl, h1⟩
  exact hK u w' ⟨ok', h1⟩

theorem call_sound (hsp : SpOk P sp) {or : Orc R} (hor : OrOk P or) {o : Oper} {c : Call} (hop : o.op = .call c) {sl : List AV} {L : Heap} {k : List AV → AV → Heap → Option R} {r : R} (h : callK P sp base fz or c o.type sl L k = some r) :
    ∃ sl' v L', k sl' v L' = some r ∧ OpSem P base o sl L sl' v L' := by
  unfold callK at h
  cases hc : c.callee with
  | invoke a b => rw [hc] at h; cases h
  | value f =>
    rw [hc] at h
    simp only at h
    cases hf : ev sl f <;> rw [hf] at h <;> try (simp only at h) <;> try (cases h; done)
    case d x =>
      cases x <;> try (simp only at h) <;> try (cases h; done)
      case fn g ds =>
        have hfn : ∀ {E : Env} {w : World} {ok : Nat → Prop} {a : Act}, SlRep E w ok a.tmps sl → ∃ vs : List Value, a.eval f = .func (.func g) #[] vs.toArray ∧ RepDs w ok vs ds := fun {E w ok a} hS => by
          have := hS.ev f
          rw [hf] at this
          generalize a.eval f = u at this ⊢
          cases this with
          | d h =>
            cases h with
            | fn hl hr =>
              rename_i vs
              exact ⟨vs, rfl, hl, hr⟩
        cases hl : sp.lookup g with
        | some s =>
          rw [hl] at h
          simp only at h
          split at h
          · obtain ⟨v, sl', hk, hlen', hen, hcall⟩ := spF_sound (fun ds d hd => hsp g s ds d hl hd) h
            refine ⟨_, v, _, hk, hlen', fun {B0 w0 ok E a w} hS K Q hK => ?_⟩
            obtain ⟨vs, hev, hcap⟩ := hfn hS.sl
            have hrun : (execOp a.eval o).run P w = .ok (.enter g ((c.args.toList.map a.eval) ++ vs).toArray) w := by
              have h1 := run_callFunc (P := P) (w := w) (args := (c.args.toList.map a.eval ++ vs).toArray) hen
              simp only [execOp, hop, resolve, hc, hev, Deferred.ofValue]
              have e1 : #[] ++ c.args.map a.eval ++ vs.toArray = (c.args.toList.map a.eval ++ vs).toArray := by apply Array.ext'; simp
              simp only [invoke, Sem.run_pure, Sem.run_bind, Result.andThen, e1]
              exact h1
            unfold Oper.wp
            rw [hrun, Oper.upon_enter]
            refine (hcall hS.mem (args_rep hS.sl c.args.toList) hcap hS.sl).mono ?_
            rintro e w' ⟨u, ok', E', rfl, hM, hu, hsl, g⟩
            exact hK ok' E' u w' hM hu hsl g
          obtain ⟨v, hk, hen, hpure⟩ := spK_sound (fun ds d hd => hsp g s ds d hl hd) h
          refine ⟨sl, v, L, hk, rfl, fun {B0 w0 ok E a w} hS K Q hK => ?_⟩
          obtain ⟨vs, hev, hcap⟩ := hfn hS.sl
          refine call_step hop hc hen hev (hpure hS.mem (args_rep hS.sl c.args.toList) hcap) ?_
          rintro u w' ⟨ok', hb, hM, g, ext, hu⟩
          exact hK ok' E u w' hM hu (hS.sl.grow g) (.of g ext)
        | none =>
        rw [hl] at h
        simp only at h
        obtain ⟨v, L', hk, hen, hcs⟩ := hor _ _ _ _ _ h
        refine ⟨sl, v, L', hk, call_sem hop hc rfl hen (fun {E w ok a} hS => ?_) hcs⟩
        obtain ⟨vs, hev, hcl, hcr⟩ := hfn hS
        refine ⟨vs, hev, by simpa using hcl, fun i x y hx hy => ?_⟩
        rw [List.getElem?_map] at hy
        cases hd : ds[i]? with
        | none => rw [hd] at hy; cases hy
        | some d => rw [hd] at hy; cases hy; exact .d (hcr i x d hx hd)
    case clo g cs =>
      obtain ⟨v, L', hk, hen, hcs⟩ := hor _ _ _ _ _ h
      refine ⟨sl, v, L', hk, call_sem hop hc rfl hen (fun {E w ok a} hS => ?_) hcs⟩
      have := hS.ev f
      rw [hf] at this
      generalize a.eval f = u at this ⊢
      cases this with
      | clo hl hr =>
        rename_i vs
        exact ⟨vs, rfl, hl, hr⟩
  | builtin b =>
    rw [hc] at h
    simp only at h
    cases b <;> try (simp only at h) <;> try (cases h; done)
    case append =>
      cases ha : c.args.toList with
      | nil => rw [ha] at h; cases h
      | cons s t1 =>
      cases t1 with
      | nil => rw [ha] at h; cases h
      | cons x t2 =>
      cases t2 with
      | cons y t3 => rw [ha] at h; cases h
      | nil =>
      cases ht : c.argTypes.toList with
      | nil => rw [ha, ht] at h; cases h
      | cons t t4 =>
      cases t4 with
      | nil => rw [ha, ht] at h; cases h
      | cons t' t5 =>
      cases t5 with
      | cons y t3 => rw [ha, ht] at h; cases h
      | nil =>
      rw [ha, ht] at h
      simp only at h
      by_cases htt : t = t'
      case neg => rw [if_neg htt] at h; cases h
      rw [if_pos htt] at h
      subst htt
      obtain ⟨sl', v, L', hk, hlen, hs⟩ := append_sound (ty := o.type) h
      refine ⟨sl', v, L', hk, hlen, fun {B0 w0 ok E a w} hS K Q hK => ?_⟩
      obtain ⟨y, w', E', hr, hM, hv, hsl, g⟩ := hs hS.mem (hS.sl.ev s) (hS.sl.ev x) hS.sl
      refine wp_value (u := y) (w' := w') ?_ (hK ok E' y w' hM hv hsl g)
      have e1 : c.args.map a.eval = #[a.eval s, a.eval x] := by rw [getElem_two ha]; simp
      simp [execOp, hop, resolve, hc, invoke, builtin, e1, getElem_two ht, hr]
    case copy =>
      cases ha : c.args.toList with
      | nil => rw [ha] at h; cases h
      | cons s t1 =>
      cases t1 with
      | nil => rw [ha] at h; cases h
      | cons x t2 =>
      cases t2 with
      | cons y t3 => rw [ha] at h; cases h
      | nil =>
      cases ht : c.argTypes.toList with
      | nil => rw [ha, ht] at h; cases h
      | cons t t4 =>
      cases t4 with
      | nil => rw [ha, ht] at h; cases h
      | cons t' t5 =>
      cases t5 with
      | cons y t3 => rw [ha, ht] at h; cases h
      | nil =>
      rw [ha, ht] at h
      simp only at h
      obtain ⟨v, L', hk, hs⟩ := copy_sound (ty := o.type) (t' := t') h
      refine ⟨sl, v, L', hk, .grow fun {B0 w0 ok E a w} hS => ?_⟩
      obtain ⟨y, w', hr, hM, hv, g⟩ := hs hS.mem (hS.sl.ev s) (hS.sl.ev x)
      have e1 : c.args.map a.eval = #[a.eval s, a.eval x] := by rw [getElem_two ha]; simp
      exact ⟨y, w', ok, E, by simp [execOp, hop, resolve, hc, invoke, builtin, e1, getElem_two ht, hr], hM, hv, g, fun _ h => .inl h⟩
    case len =>
      cases ha : c.args.toList with
      | nil => rw [ha] at h; cases h
      | cons x t1 =>
      cases t1 with
      | cons y t3 => rw [ha] at h; cases h
      | nil =>
      cases ht : c.argTypes.toList with
      | nil => rw [ha, ht] at h; cases h
      | cons t t4 =>
      cases t4 with
      | cons y t3 => rw [ha, ht] at h; cases h
      | nil =>
      rw [ha, ht] at h
      simp only at h
      obtain ⟨v, hk, hs⟩ := len_sound (ty := o.type) h
      refine ⟨sl, v, L, hk, .val fun {B0 w0 ok E a w} hS => ?_⟩
      obtain ⟨z, hz, hv⟩ := hs (hS.sl.ev x)
      have e1 : c.args.map a.eval = #[a.eval x] := by rw [getElem_onel ha]; simp
      exact ⟨z, by simp [execOp, hop, resolve, hc, invoke, builtin, e1, getElem_onel ht, hz], hv⟩
    case cap =>
      cases ha : c.args.toList with
      | nil => rw [ha] at h; cases h
      | cons x t1 =>
      cases t1 with
      | cons y t3 => rw [ha] at h; cases h
      | nil =>
      cases ht : c.argTypes.toList with
      | nil => rw [ha, ht] at h; cases h
      | cons t t4 =>
      cases t4 with
      | cons y t3 => rw [ha, ht] at h; cases h
      | nil =>
      rw [ha, ht] at h
      simp only at h
      obtain ⟨v, hk, hs⟩ := cap_sound (ty := o.type) h
      refine ⟨sl, v, L, hk, .val fun {B0 w0 ok E a w} hS => ?_⟩
      obtain ⟨z, hz, hv⟩ := hs (hS.sl.ev x)
      have e1 : c.args.map a.eval = #[a.eval x] := by rw [getElem_onel ha]; simp
      exact ⟨z, by simp [execOp, hop, resolve, hc, invoke, builtin, e1, getElem_onel ht, hz], hv⟩
    case min =>
      obtain ⟨v, hk, hs⟩ := minmax_sound (P := P) h
      refine ⟨sl, v, L, hk, .val fun {B0 w0 ok E a w} hS => ?_⟩
      obtain ⟨hl, hr⟩ := args_rep hS.sl c.args.toList
      obtain ⟨z, hz, hv⟩ := hs c.argTypes o.type hl hr
      have e1 : c.args.map a.eval = (c.args.toList.map a.eval).toArray := by apply Array.ext'; simp
      simp only [if_pos] at hz
      exact ⟨z, by simp only [execOp, hop, resolve, hc, Sem.run_bind, Sem.run_pure, Result.andThen, invoke, builtin, e1, hz], hv⟩
    case max =>
      obtain ⟨v, hk, hs⟩ := minmax_sound (P := P) h
      refine ⟨sl, v, L, hk, .val fun {B0 w0 ok E a w} hS => ?_⟩
      obtain ⟨hl, hr⟩ := args_rep hS.sl c.args.toList
      obtain ⟨z, hz, hv⟩ := hs c.argTypes o.type hl hr
      have e1 : c.args.map a.eval = (c.args.toList.map a.eval).toArray := by apply Array.ext'; simp
      simp only [Bool.false_eq_true, if_false] at hz
      exact ⟨z, by simp only [execOp, hop, resolve, hc, Sem.run_bind, Sem.run_pure, Result.andThen, invoke, builtin, e1, hz], hv⟩

theorem op_sound (hsp : SpOk P sp) {or : Orc R} (hor : OrOk P or) {o : Oper} {sl : List AV} {L : Heap} {k : List AV → AV → Heap → Option R} {r : R} (h : opK P sp base fz or o sl L k = some r) :
    ∃ sl' v L', k sl' v L' = some r ∧ OpSem P base o sl L sl' v L' := by
  have h0 := h
  unfold opK at h
  cases hop : o.op <;> simp only [hop] at h <;> try (cases h; done)
  case move x => exact ⟨_, _, _, h, .val fun hS => ⟨_, by simp [execOp, hop], hS.sl.ev x⟩⟩
  case assign x => exact ⟨_, _, _, h, .val fun hS => ⟨_, by simp [execOp, hop], hS.sl.ev x⟩⟩
  case pick c x y =>
    obtain ⟨t, ht, h1⟩ := Option.bind_eq_some_iff.1 h
    have hc := asB_some ht
    cases t with
    | true =>
      refine ⟨_, _, _, h1, .val fun {B0 w0 ok E a w} hS => ⟨_, ?_, hS.sl.ev x⟩⟩
      have := hS.sl.ev c
      rw [hc] at this
      simp [execOp, hop, this.v_inv.1, asBool]
    | false =>
      refine ⟨_, _, _, h1, .val fun {B0 w0 ok E a w} hS => ⟨_, ?_, hS.sl.ev y⟩⟩
      have := hS.sl.ev c
      rw [hc] at this
      simp [execOp, hop, this.v_inv.1, asBool]
  case alloc t => exact op_sound_make h0 (.inl ⟨_, hop⟩)
  case box t x => exact op_sound_make h0 (.inr (.inl ⟨_, _, hop⟩))
  case build t ps => exact op_sound_make h0 (.inr (.inr (.inl ⟨_, _, hop⟩)))
  case buildSlice t n ps => exact op_sound_make h0 (.inr (.inr (.inr (.inl ⟨_, _, _, hop⟩))))
  case makeSlice t n c => exact op_sound_make h0 (.inr (.inr (.inr (.inr (.inl ⟨_, _, _, hop⟩)))))
  case makeFunc g f c => exact op_sound_make h0 (.inr (.inr (.inr (.inr (.inr ⟨_, _, _, hop⟩)))))
  case load t x =>
    obtain ⟨v, hk, hs⟩ := load_sound h
    refine ⟨_, _, _, hk, .val fun {B0 w0 ok E a w} hS => ?_⟩
    obtain ⟨y, hy, hv⟩ := hs hS.mem (hS.sl.ev x)
    exact ⟨y, by simp [execOp, hop, hy], hv⟩
  case store t x y =>
    obtain ⟨L', hk, hs⟩ := store_sound h
    refine ⟨_, _, _, hk, .skip fun {B0 w0 ok E a w} hS => ?_⟩
    obtain ⟨w', hr, hM, g⟩ := hs hS.mem (hS.sl.ev x) (hS.sl.ev y)
    exact ⟨w', ok, E, by simp [execOp, hop, hr], hM, g, fun _ h => .inl h⟩
  case nilCheck x =>
    cases hx : ev sl x <;> rw [hx] at h <;> try (simp only at h) <;> try (cases h; done)
    case d y =>
      cases y <;> try (simp only at h) <;> try (cases h; done)
      case fn f cs =>
        refine ⟨_, _, _, h, .val fun {B0 w0 ok E a w} hS => ?_⟩
        have := hS.sl.ev x
        rw [hx] at this
        refine ⟨a.eval x, ?_, this⟩
        generalize hu : a.eval x = u at this ⊢
        cases this with
        | d hd => cases hd with
          | fn hl hr => simp [execOp, hop, hu]
    case ptr id off =>
      refine ⟨_, _, _, h, .val fun {B0 w0 ok E a w} hS => ?_⟩
      have := hS.sl.ev x
      rw [hx] at this
      refine ⟨a.eval x, ?_, this⟩
      generalize hu : a.eval x = u at this ⊢
      cases this with
      | ptr he => simp [execOp, hop, hu]
    case lp cs off =>
      refine ⟨_, _, _, h, .val fun {B0 w0 ok E a w} hS => ?_⟩
      have := hS.sl.ev x
      rw [hx] at this
      refine ⟨a.eval x, ?_, this⟩
      generalize hu : a.eval x = u at this ⊢
      cases this with
      | lp h1 h2 h3 h4 => simp [execOp, hop, hu]
    case clo f cs =>
      refine ⟨_, _, _, h, .val fun {B0 w0 ok E a w} hS => ?_⟩
      have := hS.sl.ev x
      rw [hx] at this
      refine ⟨a.eval x, ?_, this⟩
      generalize hu : a.eval x = u at this ⊢
      cases this with
      | clo hl hr => simp [execOp, hop, hu]
  case binOp op t x y z =>
    obtain ⟨v, hk, hs⟩ := bin_sound h
    refine ⟨_, _, _, hk, .val fun {B0 w0 ok E a w} hS => ?_⟩
    obtain ⟨u, hu, hv⟩ := hs x y (hS.sl.ev x) (hS.sl.ev y)
    exact ⟨u, by
      rw [show execOp a.eval o = (do pure (.value (← (do eqGuard op t x y (a.eval x) (a.eval y); binOp op t (a.eval x) (a.eval y) : Sem Value))) : Sem Next) from by simp only [execOp, hop]]
      rw [Sem.run_bind, hu]; rfl, hv⟩
  case unOp op t x =>
    obtain ⟨v, hk, hs⟩ := un_sound (P := P) h
    refine ⟨_, _, _, hk, .val fun {B0 w0 ok E a w} hS => ?_⟩
    obtain ⟨u, hu, hv⟩ := hs (hS.sl.ev x)
    exact ⟨u, by simp [execOp, hop, hu], hv⟩
  case convert s d x =>
    obtain ⟨v, hk, hs⟩ := conv_sound h
    refine ⟨_, _, _, hk, .grow fun {B0 w0 ok E a w} hS => ?_⟩
    obtain ⟨u, w', ok', hu, _, hM, g, e, hv⟩ := hs hS.mem (hS.sl.ev x)
    exact ⟨u, w', ok', E, by simp [execOp, hop, hu], hM, hv, g, e⟩
  case slice t x lo hi mx =>
    obtain ⟨v, hk, hs⟩ := slice_sound h
    refine ⟨_, _, _, hk, .val fun {B0 w0 ok E a w} hS => ?_⟩
    obtain ⟨u, hu, hv⟩ := hs hS.mem (hS.sl.ev x) (repO_map hS.sl lo) (repO_map hS.sl hi) (repO_map hS.sl mx)
    exact ⟨u, by simp [execOp, hop, hu], hv⟩
  case fieldAddr s x f =>
    obtain ⟨p, hp, h1⟩ := Option.bind_eq_some_iff.1 h
    cases hx : ev sl x <;> rw [hx] at h1 <;> try (simp only at h1) <;> try (cases h1; done)
    case ptr id off =>
      refine ⟨_, _, _, h1, .val fun {B0 w0 ok E a w} hS => ?_⟩
      have := hS.sl.ev x
      rw [hx] at this
      generalize hu : a.eval x = u at this
      cases this with
      | ptr he =>
        rename_i b m
        refine ⟨_, by simp [execOp, hop, hu, run_fieldAt hp]; rfl, ?_⟩
        rw [Addr.add_mid]
        exact .ptr he
    case lp cs off =>
      refine ⟨_, _, _, h1, .val fun {B0 w0 ok E a w} hS => ?_⟩
      have := hS.sl.ev x
      rw [hx] at this
      generalize hu : a.eval x = u at this
      cases this with
      | lp h1 h2 h3 h4 =>
        refine ⟨_, by simp [execOp, hop, hu, run_fieldAt hp]; rfl, ?_⟩
        have := Rep.lp (E := E) (off := off + p.1) h1 h2 h3 h4
        rw [Addr.add_mid, Nat.add_assoc]
        exact this
  case field s x f =>
    obtain ⟨v, hk, hs⟩ := field_sound h
    refine ⟨_, _, _, hk, .val fun {B0 w0 ok E a w} hS => ?_⟩
    obtain ⟨u, hu, hv⟩ := hs (hS.sl.ev x)
    exact ⟨u, by simp [execOp, hop, hu], hv⟩
  case indexAddr t x i =>
    obtain ⟨v, hk, hs⟩ := indexAddr_sound h
    refine ⟨_, _, _, hk, .val fun {B0 w0 ok E a w} hS => ?_⟩
    obtain ⟨u, hu, hv⟩ := hs (hS.sl.ev x) (hS.sl.ev i)
    exact ⟨u, by simp [execOp, hop, hu], hv⟩
  case index t x i =>
    obtain ⟨v, hk, hs⟩ := index_sound h
    refine ⟨_, _, _, hk, .val fun {B0 w0 ok E a w} hS => ?_⟩
    obtain ⟨u, hu, hv⟩ := hs (hS.sl.ev x) (hS.sl.ev i)
    exact ⟨u, by simp [execOp, hop, hu], hv⟩
  case extract t i =>
    cases hx : ev sl t <;> rw [hx] at h <;> try (simp only at h) <;> try (cases h; done)
    case d y =>
      cases y <;> try (simp only at h) <;> try (cases h; done)
      case tup ds =>
        obtain ⟨d, hd, h1⟩ := Option.bind_eq_some_iff.1 h
        refine ⟨_, _, _, h1, .val fun {B0 w0 ok E a w} hS => ?_⟩
        have := hS.sl.ev t
        rw [hx] at this
        generalize hu : a.eval t = u at this
        cases this with
        | d hD => cases hD with
          | tup hl hr =>
            rename_i vs
            have hlt : i < vs.length := by rw [hl]; exact (List.getElem?_eq_some_iff.1 hd).1
            have hv : vs[i]? = some vs[i] := List.getElem?_eq_getElem hlt
            exact ⟨vs[i], by simp [execOp, hop, hu, Instr.extract, hv], .d (hr i _ _ hv hd)⟩
    case tup ds =>
      obtain ⟨d, hd, h1⟩ := Option.bind_eq_some_iff.1 h
      refine ⟨_, _, _, h1, .val fun {B0 w0 ok E a w} hS => ?_⟩
      have := hS.sl.ev t
      rw [hx] at this
      generalize hu : a.eval t = u at this
      cases this with
      | tup hl hr =>
        rename_i vs
        have hlt : i < vs.length := by rw [hl]; exact (List.getElem?_eq_some_iff.1 hd).1
        have hv : vs[i]? = some vs[i] := List.getElem?_eq_getElem hlt
        exact ⟨vs[i], by simp [execOp, hop, hu, Instr.extract, hv], hr i _ _ hv hd⟩
  case call c => exact call_sound hsp hor hop h

end Go.Ev
