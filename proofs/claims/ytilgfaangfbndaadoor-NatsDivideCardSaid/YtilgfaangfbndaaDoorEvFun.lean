/-
  Code and functions: sound.
-/
import Derived.Test.YtilgfaangfbndaaDoorEvDraw
set_option linter.unusedSimpArgs false
set_option linter.unusedVariables false
namespace Go.Ev
open Go Go.RowKit
variable {R : Type} {P : Program} {base : Nat} {sp : SpTab}

def toExit : Ex → Exit
  | .normal => .normal
  | .exit id => .exit id
  | .goto l => .goto l
  | .ret => .ret

/-- What code leaves. -/
def CodeSem (P : Program) (base : Nat) (c : Code) (st : St) (e : Ex) (st' : St) : Prop :=
  st'.sl.length = st.sl.length ∧ ∀ {B0 w0 ok E a w}, Sim B0 w0 ok E st a w → ∀ (Q : Exit → Act → World → Prop),
    (∀ ok' E' a' w', Sim B0 w0 ok' E' st' a' w' → Step B0 base E w ok E' w' ok' → Q (toExit e) a' w') → c.wp P Q a w

/-- The round of a loop, begun. -/
def LoopWp (P : Program) (c : Code) (Q : Exit → Act → World → Prop) (a : Act) (w : World) : Prop :=
  ∀ (b : Frame) (k : List Item) (cs : List Frame), ∃ e a' w', Q e a' w' ∧ Arrives P (lone (b.at a (.code c :: .inLoop c :: k)) cs w) b k cs e a' w'

theorem LoopWp.loop {c : Code} {Q : Exit → Act → World → Prop} {a : Act} {w : World} (h : LoopWp P c Q a w) : (Code.loop c).wp P Q a w := fun b k cs =>
  let ⟨e, a', w', hq, harr⟩ := h b k cs
  ⟨e, a', w', hq, .of_steps (.one step_loop) harr⟩

theorem LoopWp.round {c : Code} {Q : Exit → Act → World → Prop} {a : Act} {w : World} (h : c.wp P (Exit.then (LoopWp P c Q) Q) a w) : LoopWp P c Q a w := by
  intro b k cs
  obtain ⟨e, a₁, w₁, hq, harr⟩ := h b (.inLoop c :: k) cs
  cases e with
  | normal =>
    obtain ⟨e₂, a₂, w₂, hq₂, harr₂⟩ := hq b k cs
    exact ⟨e₂, a₂, w₂, hq₂, .of_steps (Steps.trans harr (.one step_inLoop)) harr₂⟩
  | exit id => exact ⟨_, a₁, w₁, hq, .pass (x := .inLoop c) rfl (fun _ _ => .inl (by simp)) harr⟩
  | goto l => exact ⟨_, a₁, w₁, hq, .pass (x := .inLoop c) rfl (fun _ _ => .inl (by simp)) harr⟩
  | ret => exact ⟨_, a₁, w₁, hq, .pass (x := .inLoop c) rfl (fun _ _ => .inl (by simp)) harr⟩
  | panic ch => exact ⟨_, a₁, w₁, hq, .pass (x := .inLoop c) rfl (fun _ _ => .inl (by simp)) harr⟩
  | outgrown => exact ⟨_, a₁, w₁, hq, .pass (x := .inLoop c) rfl (fun _ _ => .inl (by simp)) harr⟩

/-- What a loop leaves, from a round's start. -/
def LoopSem (P : Program) (base : Nat) (c : Code) (st : St) (e : Ex) (st' : St) : Prop :=
  st'.sl.length = st.sl.length ∧ ∀ {B0 w0 ok E a w}, Sim B0 w0 ok E st a w → ∀ (Q : Exit → Act → World → Prop),
    (∀ ok' E' a' w', Sim B0 w0 ok' E' st' a' w' → Step B0 base E w ok E' w' ok' → Q (toExit e) a' w') → LoopWp P c Q a w

theorem loop_sound {c : Code} {keep : List Bool} {mm : Nat} {body : CO R} (hb : ∀ {st k r}, body st k = some r → ∃ e st', k e st' = some r ∧ CodeSem P base c st e st') :
    ∀ {n : Nat} {st : St} {k : Ex → St → Option R} {r : R}, loopIter keep base mm body n st k = some r → ∃ e st', k e st' = some r ∧ LoopSem P base c st e st'
  | 0, st, k, r, h => by cases h
  | n + 1, st, k, r, h => by
    obtain ⟨e, st2, h2, hl2, hs2⟩ := hb h
    have stop : ∀ {e : Ex}, (toExit e ≠ .normal) → (∀ {B0 w0 ok E a w}, Sim B0 w0 ok E st a w → ∀ (Q : Exit → Act → World → Prop), (∀ ok' E' a' w', Sim B0 w0 ok' E' st2 a' w' → Step B0 base E w ok E' w' ok' → Q (toExit e) a' w') → c.wp P Q a w) → LoopSem P base c st e st2 := fun {e} he hs => by
      refine ⟨hl2, fun {B0 w0 ok E a w} hS Q hQ => ?_⟩
      refine LoopWp.round (hs hS _ fun ok' E' a' w' hS' g => ?_)
      have := hQ ok' E' a' w' hS' g
      cases e <;> first | exact this | exact absurd rfl he
    cases e with
    | normal =>
      obtain ⟨st1, h1, hl1, hs1⟩ := mask_sound h2
      obtain ⟨e3, st3, h3, hl3, hs3⟩ := loop_sound hb h1
      refine ⟨e3, st3, h3, by rw [hl3, hl1, hl2], fun {B0 w0 ok E a w} hS Q hQ => ?_⟩
      refine LoopWp.round (hs2 hS _ fun ok' E' a' w' hS' g => ?_)
      obtain ⟨ok1, E1, hS1, g1⟩ := hs1 hS'
      exact hs3 hS1 Q fun ok2 E2 a2 w2 hS2 g2 => hQ ok2 E2 a2 w2 hS2 ((g.trans g1).trans g2)
    | exit id => exact ⟨_, st2, h2, stop (by simp [toExit]) hs2⟩
    | goto l => exact ⟨_, st2, h2, stop (by simp [toExit]) hs2⟩
    | ret => exact ⟨_, st2, h2, stop (by simp [toExit]) hs2⟩

theorem litB_same {sl : List AV} {c : Operand} {b : Bool} (h : ev sl c = .d (.v (.bool b))) : litB sl c b = sl := by
  cases c <;> try rfl
  rename_i t
  simp only [ev, List.getD] at h
  cases hs : sl[t]? with
  | none => rw [hs] at h; cases h
  | some x =>
    rw [hs] at h
    simp only [Option.getD_some] at h
    subst h
    exact set_same hs

theorem CodeSem.trans_seq {x y : Code} {st st1 st1' st2 : St} {e : Ex} (h1 : CodeSem P base x st .normal st1) (hl : st1'.sl.length = st1.sl.length)
    (hmid : ∀ {B0 w0 ok E a w}, Sim B0 w0 ok E st1 a w → ∃ ok' E', Sim B0 w0 ok' E' st1' a w ∧ Step B0 base E w ok E' w ok') (h2 : CodeSem P base y st1' e st2) : CodeSem P base (.seq x y) st e st2 := by
  refine ⟨by rw [h2.1, hl, h1.1], fun {B0 w0 ok E a w} hS Q hQ => wp_seq (h1.2 hS _ fun ok1 E1 a1 w1 hS1 g1 => ?_)⟩
  obtain ⟨ok2, E2, hS2, g2⟩ := hmid hS1
  exact h2.2 hS2 Q fun ok3 E3 a3 w3 hS3 g3 => hQ ok3 E3 a3 w3 hS3 ((g1.trans g2).trans g3)

theorem code_sound (hsp : SpOk P sp) (hm : P.follows .mixedOrders = true) {or : Orc R} (hor : OrOk P or) {m : Nat} {fh : FnH} : ∀ {c : Code} {st : St} {k : Ex → St → Option R} {r : R}, codeK P sp base or m fh c st k = some r →
    ∃ e st', k e st' = some r ∧ CodeSem P base c st e st' := by
  intro c
  induction c with
  | skip => exact fun h => ⟨_, _, h, rfl, fun hS Q hQ => wp_skip (hQ _ _ _ _ hS (.refl _ _ _ _ _))⟩
  | label l => exact fun h => ⟨_, _, h, rfl, fun hS Q hQ => wp_label (hQ _ _ _ _ hS (.refl _ _ _ _ _))⟩
  | ret => exact fun h => ⟨_, _, h, rfl, fun hS Q hQ => wp_ret (hQ _ _ _ _ hS (.refl _ _ _ _ _))⟩
  | exit id => exact fun h => ⟨_, _, h, rfl, fun hS Q hQ => wp_exit (hQ _ _ _ _ hS (.refl _ _ _ _ _))⟩
  | seq x y ihx ihy =>
    intro st k r h
    simp only [codeK] at h
    obtain ⟨e, st1, h1, hs1⟩ := ihx h
    have stop : ∀ {e : Ex}, toExit e ≠ .normal → CodeSem P base x st e st1 → CodeSem P base (.seq x y) st e st1 := fun {e} he hs => by
      refine ⟨hs.1, fun {B0 w0 ok E a w} hS Q hQ => wp_seq (hs.2 hS _ fun ok1 E1 a1 w1 hS1 g1 => ?_)⟩
      have := hQ ok1 E1 a1 w1 hS1 g1
      cases e <;> first | exact this | exact absurd rfl he
    cases e with
    | normal =>
      simp only at h1
      split at h1
      · obtain ⟨st2, h2, hl2, hs2⟩ := prom_sound h1
        obtain ⟨st3, h3, hl3, hs3⟩ := mask_sound h2
        obtain ⟨e, st4, h4, hs4⟩ := ihy (show codeK _ _ _ _ _ _ _ _ _ = _ from h3)
        exact ⟨e, st4, h4, hs1.trans_seq (by rw [hl3, hl2]) (fun hS => hs3 (hs2 hS)) hs4⟩
      · obtain ⟨e, st4, h4, hs4⟩ := ihy h1
        exact ⟨e, st4, h4, hs1.trans_seq rfl (fun hS => ⟨_, _, hS, .refl _ _ _ _ _⟩) hs4⟩
    | exit id => exact ⟨_, st1, h1, stop (by simp [toExit]) hs1⟩
    | goto l => exact ⟨_, st1, h1, stop (by simp [toExit]) hs1⟩
    | ret => exact ⟨_, st1, h1, stop (by simp [toExit]) hs1⟩
  | region id ops draw =>
    intro st k r h
    simp only [codeK] at h
    cases draw with
    | true =>
      simp only [if_true] at h
      split at h
      case isFalse => cases h
      rename_i hd
      obtain ⟨st', hk, hl, hs⟩ := draw_sound hsp hm hd h
      exact ⟨.normal, st', hk, hl, fun hS Q hQ => hs hS id Q hQ⟩
    | false =>
      simp only [Bool.false_eq_true, if_false] at h
      obtain ⟨st', hk, hl, hs⟩ := ops_sound hsp hor h
      exact ⟨.normal, st', hk, hl, fun hS Q hQ => wp_region_list (hs hS Q hQ)⟩
  | cond c x y ihx ihy =>
    intro st k r h
    simp only [codeK] at h
    split at h
    case h_2 => cases h
    rename_i b hc
    have hev : ∀ {B0 w0 ok E a w}, Sim B0 w0 ok E st a w → a.eval c = .bool b := fun hS => by
      have := hS.sl.ev c
      rw [hc] at this
      exact this.v_inv.1
    cases b with
    | true =>
      simp only [cond_true] at h
      rw [litB_same hc] at h
      obtain ⟨e, st', hk, hl, hs⟩ := ihx h
      exact ⟨e, st', hk, hl, fun hS Q hQ => wp_cond_true (hev hS) (hs hS Q hQ)⟩
    | false =>
      simp only [cond_false] at h
      rw [litB_same hc] at h
      obtain ⟨e, st', hk, hl, hs⟩ := ihy h
      exact ⟨e, st', hk, hl, fun hS Q hQ => wp_cond_false (hev hS) (hs hS Q hQ)⟩
  | block id body ih =>
    intro st k r h
    simp only [codeK] at h
    obtain ⟨e, st1, h1, hl, hs⟩ := ih h
    cases e with
    | normal => exact ⟨.normal, st1, h1, hl, fun hS Q hQ => wp_block (hs hS _ hQ)⟩
    | exit i =>
      simp only at h1
      split at h1
      · rename_i hi
        exact ⟨.normal, st1, h1, hl, fun hS Q hQ => wp_block (hs hS _ fun ok' E' a' w' hS' g => by
          simp only [toExit, Exit.inBlock, hi, if_true]; exact hQ _ _ _ _ hS' g)⟩
      · rename_i hi
        exact ⟨.exit i, st1, h1, hl, fun hS Q hQ => wp_block (hs hS _ fun ok' E' a' w' hS' g => by
          simp only [toExit, Exit.inBlock, hi, if_false]; exact hQ _ _ _ _ hS' g)⟩
    | goto l => exact ⟨_, st1, h1, hl, fun hS Q hQ => wp_block (hs hS _ hQ)⟩
    | ret => exact ⟨_, st1, h1, hl, fun hS Q hQ => wp_block (hs hS _ hQ)⟩
  | loop body ih =>
    intro st k r h
    simp only [codeK] at h
    split at h
    case h_2 => cases h
    obtain ⟨st1, h1, hl1, hs1⟩ := prom_sound h
    obtain ⟨st2, h2, hl2, hs2⟩ := mask_sound h1
    obtain ⟨e, st3, h3, hl3, hs3⟩ := loop_sound ih h2
    refine ⟨e, st3, h3, by rw [hl3, hl2, hl1], fun hS Q hQ => ?_⟩
    obtain ⟨ok2, E2, hS2, g2⟩ := hs2 (hs1 hS)
    exact (hs3 hS2 Q fun ok' E' a' w' hS' g => hQ ok' E' a' w' hS' (g2.trans g)).loop
  | _ => intro st k r h; cases h

/-! ### Results -/
theorem asAddr_of_loadAt {t : TypeId} {u y : Value} {w : World} (h : (Instr.loadAt t u).run P w = .ok y w) : ((do loadVar t (← asAddr u)) : Sem Value).run P w = .ok y w := by
  unfold Instr.loadAt at h
  cases u <;> try (simp [Instr.sureAddr, stuck, Sem.run_bind] at h; done)
  rename_i a
  cases a with
  | none => simp [Instr.sureAddr, stuck, Sem.run_bind] at h
  | some a => simpa [Instr.sureAddr, asAddr, Sem.run_bind] using h

def resultM (tmps : Array Value) : ResultVar → Sem Value
  | .tmp t => pure (tmps.getD t undef)
  | .cell a t => do loadVar t (← asAddr (tmps.getD a undef))

theorem res_sound {sl : List AV} {L : Heap} : ∀ {rs : List ResultVar} {k : List AV → Option R} {r : R}, resK P sl L rs k = some r →
    ∃ vs, k vs = some r ∧ ∀ {B0 w0 ok E w tmps}, Mem B0 w0 ok E L w → SlRep E w ok tmps sl → ∃ us : List Value, (rs.mapM (resultM tmps)).run P w = .ok us w ∧ Reps E w ok us vs
  | [], k, r, h => ⟨[], h, fun hM hS => ⟨[], by simp, rfl, fun i x c hx => by simp at hx⟩⟩
  | .tmp t :: rs, k, r, h => by
    simp only [resK] at h
    obtain ⟨vs, hk, hs⟩ := res_sound h
    refine ⟨_, hk, fun {B0 w0 ok E w tmps} hM hS => ?_⟩
    obtain ⟨us, hr, hl, hi⟩ := hs hM hS
    refine ⟨tmps.getD t undef :: us, by simp [List.mapM_cons, resultM, Sem.run_bind, hr], by simp [hl], fun i x c hx hc => ?_⟩
    cases i with
    | zero =>
      simp at hx hc
      subst hx hc
      have := SlRep.ev (a := ⟨tmps, []⟩) hS (.tmp t)
      simpa [Act.eval, ev] using this
    | succ i => exact hi i x c (by simpa using hx) (by simpa using hc)
  | .cell a t :: rs, k, r, h => by
    simp only [resK] at h
    obtain ⟨v, hk0, hld⟩ := load_sound h
    obtain ⟨vs, hk, hs⟩ := res_sound hk0
    refine ⟨_, hk, fun {B0 w0 ok E w tmps} hM hS => ?_⟩
    obtain ⟨us, hr, hl, hi⟩ := hs hM hS
    have hev := SlRep.ev (a := ⟨tmps, []⟩) hS (.tmp a)
    obtain ⟨y, hy, hv⟩ := hld hM (show Rep E w ok (tmps.getD a undef) (sl.getD a .junk) from hev)
    refine ⟨y :: us, by
      have h1 := asAddr_of_loadAt hy
      simp only [List.mapM_cons, resultM, Sem.run_bind] at h1 ⊢
      rw [h1]
      simp [Result.andThen, hr], by simp [hl], fun i x c hx hc => ?_⟩
    cases i with
    | zero =>
      simp at hx hc
      subst hx hc
      exact hv
    | succ i => exact hi i x c (by simpa using hx) (by simpa using hc)

theorem run_results {fn : Func} {tmps : Array Value} {w : World} {us : List Value} (h : (fn.results.toList.mapM (resultM tmps)).run P w = .ok us w) :
    (results fn tmps).run P w = .ok (if h : us.toArray.size = 1 then us.toArray[0] else .tuple us.toArray) w := by
  have e : fn.results.mapM (resultM tmps) = (do pure (← fn.results.toList.mapM (resultM tmps)).toArray : Sem (Array Value)) := by
    simp
    exact Array.mapM_eq_mapM_toList
  have h1 : (fn.results.mapM (resultM tmps)).run P w = .ok us.toArray w := by
    rw [e, Sem.run_bind, h]; rfl
  unfold results
  rw [Sem.run_bind]
  erw [h1]
  rfl

/-- One result alone, or a row of them. -/
def resV (us : List Value) : Value := if h : us.toArray.size = 1 then us.toArray[0] else .tuple us.toArray

def resA (vs : List AV) : AV := match vs with | [v] => v | vs => mkTup vs

theorem rep_res {E : Env} {w : World} {ok : Nat → Prop} {us : List Value} {vs : List AV} (h : Reps E w ok us vs) : Rep E w ok (resV us) (resA vs) := by
  unfold resA
  have tup : ∀ {us : List Value} {vs : List AV}, Reps E w ok us vs → Rep E w ok (.tuple us.toArray) (mkTup vs) := fun {us vs} h => by
    unfold mkTup
    cases hd : allD vs with
    | none => exact .tup h.1 h.2
    | some ds =>
      have := allD_some hd
      subst this
      refine .d (.tup (by simpa using h.1) fun i x d hx hd => ?_)
      have := h.2 i x (.d d) hx (by rw [List.getElem?_map, hd]; rfl)
      cases this with
      | d h => exact h
  match us, vs, h with
  | [], [], h => exact tup h
  | [u], [v], h => exact h.2 0 u v rfl rfl
  | u :: u' :: us, v :: v' :: vs, h =>
    have : ¬ ((u :: u' :: us).toArray.size = 1) := by simp
    rw [show resV (u :: u' :: us) = .tuple (u :: u' :: us).toArray from by unfold resV; rw [dif_neg this]]
    exact tup h
  | [], v :: vs, h => exact absurd h.1 (by simp)
  | u :: us, [], h => exact absurd h.1 (by simp)
  | [u], v :: v' :: vs, h => exact absurd h.1 (by simp)
  | u :: u' :: us, [v], h => exact absurd h.1 (by simp)

theorem fun_sound (hsp : SpOk P sp) (hm : P.follows .mixedOrders = true) {or : Orc R} (hor : OrOk P or) {m : Nat} {fh : FnH} {f : FuncId} {fn : Func} (hf : P.funcs[f]? = some fn) {args : List AV} {L : Heap} {k : AV → Heap → Option R} {r : R} (h : funK P sp or m fh fn args L k = some r) :
    ∃ v L', k v L' = some r ∧ CallSem P f args L v L' := by
  unfold funK at h
  cases hb : fn.body with
  | none => rw [hb] at h; cases h
  | some c =>
    rw [hb] at h
    simp only at h
    obtain ⟨e, st', h1, hl, hs⟩ := code_sound hsp hm hor h
    unfold endK at h1
    have fin : (e = .normal ∨ e = .ret) → (resK P st'.sl st'.L fn.results.toList fun vs => match vs with | [v] => k v st'.L | vs => k (mkTup vs) st'.L) = some r → ∃ v L', k v L' = some r ∧ CallSem P f args L v L' := fun he h2 => by
      obtain ⟨vs, hk, hres⟩ := res_sound h2
      have hk' : k (resA vs) st'.L = some r := by
        unfold resA
        split at hk <;> exact hk
      refine ⟨_, _, hk', fun {B0 w0 ok E w vals} hM hvl hvr => ?_⟩
      refine calls_of_wp hf hb ?_
      have hlen : (vals.toArray ++ Array.replicate (fn.ntmps - vals.toArray.size) undef).size = (args ++ List.replicate (fn.ntmps - args.length) AV.junk).length := by simp [hvl]
      have hS : Sim B0 w0 ok E ⟨args ++ List.replicate (fn.ntmps - args.length) .junk, L⟩ { tmps := vals.toArray ++ Array.replicate (fn.ntmps - vals.toArray.size) undef, defers := [] } w := by
        refine ⟨hM, fun t x hx => ?_, hlen, rfl⟩
        by_cases hlt : t < args.length
        · rw [List.getElem?_append_left hlt] at hx
          have hv : vals[t]? = some vals[t] := List.getElem?_eq_getElem (by omega)
          have := hvr t _ x hv hx
          have e1 : (vals.toArray ++ Array.replicate (fn.ntmps - vals.toArray.size) undef).getD t undef = vals[t] := by
            rw [Array.getD_eq_getD_getElem?, Array.getElem?_append_left (by simpa [hvl] using hlt)]
            simp [hv]
          rw [e1]; exact this
        · rw [List.getElem?_append_right (by omega), List.getElem?_replicate] at hx
          split at hx <;> cases hx
          exact .junk
      have post : ∀ ok' E' a' w', Sim B0 w0 ok' E' st' a' w' → Step B0 L.length E w ok E' w' ok' → a'.defers = [] ∧ ∃ v, (results fn a'.tmps).run P w' = .ok v w' ∧
          (∃ u ok' E', Ending.returned v = .returned u ∧ Mem B0 w0 ok' E' st'.L w' ∧ Rep E' w' ok' u (resA vs) ∧ Grow E w ok E' w' ok' ∧ ∀ b, ok' b → ok b ∨ B0 ≤ b) := fun ok' E' a' w' hS' g => by
        obtain ⟨us, hr, hrep⟩ := hres hS'.mem hS'.sl
        exact ⟨hS'.defers, _, run_results hr, _, ok', E', rfl, hS'.mem, rep_res hrep, ⟨fun id x hx => g.env id x (hM.idlt hx) hx, g.oks, g.heap⟩, g.ext⟩
      refine hs hS _ fun ok' E' a' w' hS' g => ?_
      rcases he with rfl | rfl
      · exact post ok' E' a' w' hS' g
      · exact post ok' E' a' w' hS' g
    cases e with
    | normal => exact fin (.inl rfl) h1
    | ret => exact fin (.inr rfl) h1
    | exit id => cases h1
    | goto l => cases h1

/-! ### Functions walked where they are called -/
/-- The functions are those of the program. -/
def InlOk (P : Program) (H : Hints) : Prop := ∀ f fn fh, H.inl.lookup f = some (fn, fh) → P.funcs[f]? = some fn ∧ Enters P f

theorem inl_sound {H : Hints} (hsp : SpOk P H.sp) (hm : P.follows .mixedOrders = true) (hi : InlOk P H) {m : Nat} : ∀ n, OrOk P (inlK (R := R) P H m n)
  | 0 => fun f args L k r h => by cases h
  | n + 1 => fun f args L k r h => by
    simp only [inlK] at h
    split at h
    · rename_i fn fh hl
      obtain ⟨hf, hen⟩ := hi f fn fh hl
      obtain ⟨v, L', hk, hcs⟩ := fun_sound hsp hm (inl_sound hsp hm hi n) hf h
      exact ⟨v, L', hk, hen, hcs⟩
    · cases h

theorem data_sound {H : Hints} (hsp : SpOk P H.sp) (hm : P.follows .mixedOrders = true) (hi : InlOk P H) {m n : Nat} {fh : FnH} {f : FuncId} {fn : Func} (hf : P.funcs[f]? = some fn) (hen : Enters P f) {ds : List D} {d : D} (h : funD P H m n fh fn ds = some d) : DataSem P f ds d := by
  unfold funD at h
  obtain ⟨v, L', hk, hcs⟩ := fun_sound hsp hm (inl_sound hsp hm hi n) hf h
  rw [viewK_eq] at hk
  replace hk : viewD L' 8 v = some d := by cases hv : viewD L' 8 v <;> rw [hv] at hk <;> exact hk
  refine ⟨hen, fun {w ok vals} hok hv => ?_⟩
  have hM : Mem w.heap.size w ok (fun _ => none) [] w := { below := Below.refl _ _, okb := fun b hb => ⟨hok b hb, fun id m he => nomatch he⟩, inj := fun i j b m m' hi => (nomatch hi), loc := fun id b m he => (nomatch he), b0 := Nat.le_refl _, wf := fun i B hB => by simp at hB }
  refine (hcs hM (by simpa using hv.1) (fun i x a hx ha => ?_)).mono ?_
  · rw [List.getElem?_map] at ha
    cases hd : ds[i]? with
    | none => rw [hd] at ha; cases ha
    | some d => rw [hd] at ha; cases ha; exact .d (hv.2 i x d hx hd)
  · rintro e w' ⟨u, ok', E', rfl, hM', hu, g, ext⟩
    refine ⟨u, fun b => b < w'.heap.size ∧ (ok b ∨ w.heap.size ≤ b), rfl, hM'.below, fun b hb => hb, viewD_sound hk hM' (fun b hb => ⟨(hM'.okb b hb).1, ext b hb⟩) (fun id b m he => ⟨hM'.lt he, .inr (hM'.loc id b m he).1⟩) hu⟩

end Go.Ev
