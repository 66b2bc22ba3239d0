/-
  Local slices that are written no more: frozen.
-/
import Derived.Test.YtilgfaangfbndaaDoorEvSp
set_option linter.unusedSimpArgs false
set_option linter.unusedVariables false
namespace Go.Ev
open Go Go.RowKit
variable {R : Type} {P : Program}

/-- The environment without one block; the blocks that nobody writes any more. -/
def Env.del (E : Env) (id : Nat) : Env := fun i => if i = id then none else E i
def okDel (E : Env) (id : Nat) (ok : Nat → Prop) : Nat → Prop := fun b => ok b ∨ ∃ q, E id = some (b, q)

theorem freeze1 {B0 : Nat} {w0 : World} {ok : Nat → Prop} {E : Env} {L : Heap} {w : World} (hM : Mem B0 w0 ok E L w) (id : Nat) :
    Mem B0 w0 (okDel E id ok) (E.del id) ((L.map (killB id)).set id .dead) w := by
  have hE : ∀ i x, i ≠ id → E i = some x → (E.del id) i = some x := fun i x hne hi => by simp only [Env.del, if_neg hne]; exact hi
  have hok : ∀ b, ok b → okDel E id ok b := fun b hb => .inl hb
  have hM1 := hM.killB id
  refine ⟨hM.below, fun b hb => ?_, fun i j b m m' hi hj => ?_, fun i b m hi => ?_, hM.b0, fun i B hi => ?_⟩
  · rcases hb with hb | ⟨q, hq⟩
    · refine ⟨(hM.okb b hb).1, fun i m he => ?_⟩
      simp only [Env.del] at he
      split at he
      · cases he
      · exact (hM.okb b hb).2 i m he
    · refine ⟨hM.lt hq, fun i m he => ?_⟩
      simp only [Env.del] at he
      split at he
      · cases he
      · rename_i hne; exact hne (hM.inj _ _ _ _ _ he hq)
  · simp only [Env.del] at hi hj
    split at hi <;> split at hj <;> first | exact hM.inj i j b m m' hi hj | cases hi | cases hj
  · simp only [Env.del] at hi
    split at hi
    · cases hi
    · rename_i hne
      obtain ⟨h0, c, e, B, hb, hs, h1, hB, hc⟩ := hM1.loc i b m hi
      have hnr : blkRef id B = false := by
        rw [List.getElem?_map] at hB
        cases hq : L[i]? with
        | none => rw [hq] at hB; cases hB
        | some B3 => rw [hq] at hB; cases hB; exact blkRef_kill id B3
      exact ⟨h0, c, e, B, hb, hs, h1, by rw [List.getElem?_set_ne (Ne.symm hne)]; exact hB, hc.move hE hok (fun _ _ => rfl) hnr⟩
  · by_cases hid : i = id
    · subst hid
      by_cases hlt : i < (L.map (killB i)).length
      · rw [List.getElem?_set_self hlt] at hi; cases hi; trivial
      · rw [List.getElem?_eq_none (by simp at hlt ⊢; omega)] at hi; cases hi
    · rw [List.getElem?_set_ne (Ne.symm hid)] at hi; exact hM1.wf i B hi

/-- Several blocks. -/
theorem freezes {B0 : Nat} {w0 : World} {w : World} {base : Nat} : ∀ {ids : List Nat} {ok : Nat → Prop} {E : Env} {L : Heap} {tmps : Array Value} {sl : List AV}, Mem B0 w0 ok E L w → SlRep E w ok tmps sl → (∀ id, id ∈ ids → base ≤ id) →
    ∃ ok' E', Mem B0 w0 ok' E' (frzL ids L) w ∧ SlRep E' w ok' tmps (frzSl ids sl) ∧ Step B0 base E w ok E' w ok' ∧ ∀ id, id ∈ ids → ∀ b q, E id = some (b, q) → ok' b
  | [], ok, E, L, tmps, sl, hM, hS, _ => ⟨ok, E, hM, hS, .refl _ _ _ _ _, fun id hid => by simp at hid⟩
  | id :: ids, ok, E, L, tmps, sl, hM, hS, hb => by
    have hE : ∀ i x, i ≠ id → E i = some x → (E.del id) i = some x := fun i x hne hi => by simp only [Env.del, if_neg hne]; exact hi
    have hok : ∀ b, ok b → okDel E id ok b := fun b hb => .inl hb
    have hS1 : SlRep (E.del id) w (okDel E id ok) tmps (kill id sl) := hS.move (id := id) hE hok (fun _ _ => rfl)
    obtain ⟨ok', E', h1, h2, h3, h4⟩ := freezes (ids := ids) (freeze1 hM id) hS1 (fun i hi => hb i (by simp [hi]))
    have g : Step B0 base E w ok (E.del id) w (okDel E id ok) := ⟨fun i x hi hx => hE i x (by have := hb id (by simp); omega) hx, hok, fun _ _ => rfl, fun b hbk => by
      rcases hbk with hbk | ⟨q, hq⟩
      · exact .inl hbk
      · exact .inr (hM.loc _ _ _ hq).1⟩
    refine ⟨ok', E', h1, h2, g.trans h3, fun i hi b q he => ?_⟩
    by_cases hii : i = id
    · subst hii; exact h3.oks b (.inr ⟨q, he⟩)
    · rcases List.mem_cons.1 hi with rfl | hi
      · exact absurd rfl hii
      · exact h4 i hi b q (hE i _ hii he)

/-- A local slice of data, seen: it leads to its own block alone. -/
theorem view_flat {B0 : Nat} {w0 : World} {ok ok' : Nat → Prop} {E : Env} {L : Heap} {w : World} {id off n sz m : Nat} {cap : Option Nat} {cs : List D} {u : Value} {d : D} (hM : Mem B0 w0 ok E L w) (hB : L[id]? = some (.d m cs)) (hv : viewD L 8 (.sl id off n cap sz) = some d)
    (hu : Rep E w ok u (.sl id off n cap sz)) (h1 : ∀ b, ok b → ok' b) (h2 : ∀ b q, E id = some (b, q) → ok' b) : RepD w ok' u d := by
  let E1 : Env := fun i => if i = id then E id else none
  have hM1 : Mem B0 w0 ok E1 L w := by
    refine ⟨hM.below, fun b hk => ⟨(hM.okb b hk).1, fun i q he => ?_⟩, fun i j b q q' hi hj => ?_, fun i b q he => ?_, hM.b0, hM.wf⟩
    · simp only [E1] at he
      split at he
      · exact (hM.okb b hk).2 _ _ he
      · cases he
    · simp only [E1] at hi hj
      split at hi <;> split at hj <;> first | omega | cases hi | cases hj
    · simp only [E1] at he
      split at he
      · rename_i hii
        subst hii
        obtain ⟨h0, c, e, B, hbb, hs, h1, hB', hcc⟩ := hM.loc i b q he
        rw [hB] at hB'; cases hB'
        exact ⟨h0, c, e, _, hbb, hs, h1, hB, hcc⟩
      · cases he
  have hu1 : Rep E1 w ok u (.sl id off n cap sz) := by
    cases hu with
    | sl hE a b c d => exact .sl (by simp only [E1, if_pos]; exact hE) a b c d
    | slz b => exact .slz b
  exact viewD_sound hv hM1 h1 (fun i b q he => by
    simp only [E1] at he
    split at he
    · exact h2 b q he
    · cases he) hu1

theorem slIds_mem : ∀ {args : List AV} {id off n sz : Nat} {cap : Option Nat}, AV.sl id off n cap sz ∈ args → id ∈ slIds args
  | [], _, _, _, _, _, h => by simp at h
  | x :: r, id, off, n, sz, cap, h => by
    rcases List.mem_cons.1 h with rfl | h
    · simp [slIds]
    · have := slIds_mem h
      cases x <;> simp [slIds, this]
theorem slIds_base {base : Nat} {L : Heap} : ∀ {args : List AV}, args.all (frzOk base L) = true → ∀ id, id ∈ slIds args → base ≤ id
  | [], _, id, h => by simp [slIds] at h
  | x :: r, ha, id, h => by
    simp only [List.all_cons, Bool.and_eq_true] at ha
    cases x <;> simp only [slIds] at h <;> try exact slIds_base ha.2 id h
    rcases List.mem_cons.1 h with rfl | h
    · have := ha.1
      simp only [frzOk, Bool.and_eq_true] at this
      exact Nat.le_of_ble_eq_true this.1
    · exact slIds_base ha.2 id h

/-- Where a slot leads into a frozen block. -/
def Seen (L : Heap) (ids : List Nat) (xs : List AV) (t : Nat) (c : AV) : Prop :=
  ∃ (id off n : Nat) (cap : Option Nat) (sz m : Nat) (cs : List D) (d : D), xs[t]? = some (.sl id off n cap sz) ∧ id ∈ ids ∧ L[id]? = some (.d m cs) ∧ viewD L 8 (.sl id off n cap sz) = some d ∧ c = .d d
theorem see_sound {L : Heap} {ids : List Nat} : ∀ {xs ys : List AV} {k : List AV → Option R} {r : R}, seeK L ids xs ys k = some r → ∃ zs, k zs = some r ∧ zs.length = ys.length ∧ ∀ (t : Nat) c, zs[t]? = some c → ys[t]? = some c ∨ Seen L ids xs t c
  | [], ys, k, r, h => ⟨ys, by simpa [seeK] using h, rfl, fun t c hc => .inl hc⟩
  | x :: xs, [], k, r, h => ⟨[], by simpa [seeK] using h, rfl, fun t c hc => .inl hc⟩
  | x :: xs, y :: ys, k, r, h => by
    have keep : (seeK L ids xs ys fun zs => k (y :: zs)) = some r → ∃ zs, k zs = some r ∧ zs.length = (y :: ys).length ∧ ∀ (t : Nat) c, zs[t]? = some c → (y :: ys)[t]? = some c ∨ Seen L ids (x :: xs) t c := fun h1 => by
      obtain ⟨zs, hk, hl, hz⟩ := see_sound h1
      refine ⟨y :: zs, hk, by simp [hl], fun t c hc => ?_⟩
      cases t with
      | zero => exact .inl hc
      | succ t =>
        rcases hz t c (by simpa using hc) with h2 | ⟨id, off, n, cap, sz, m, cs, d, h3⟩
        · exact .inl (by simpa using h2)
        · exact .inr ⟨id, off, n, cap, sz, m, cs, d, by simpa using h3.1, h3.2⟩
    unfold seeK at h
    cases x <;> simp only at h <;> try exact keep h
    rename_i id off n cap sz
    split at h
    case isFalse => exact keep h
    rename_i hid
    cases hB : L[id]? with
    | none => rw [hB] at h; exact keep h
    | some B =>
      rw [hB] at h
      cases B <;> simp only at h <;> try exact keep h
      rename_i m cs
      unfold cut at h
      split at h
      case isFalse => cases h
      rename_i hle
      obtain ⟨zs, hk, hl, hz⟩ := see_sound h
      refine ⟨_, hk, by simp [hl], fun t c hc => ?_⟩
      cases t with
      | zero =>
        simp only [List.getElem?_cons_zero, Option.some.injEq] at hc
        refine .inr ⟨id, off, n, cap, sz, m, cs, .list n cap (cutL m cs off (n * sz)), rfl, by simpa using hid, hB, ?_, hc.symm⟩
        simp only [viewD, hB, cut, if_pos hle]
      | succ t =>
        rcases hz t c (by simpa using hc) with h2 | ⟨id, off, n, cap, sz, m, cs, d, h3⟩
        · exact .inl (by simpa using h2)
        · exact .inr ⟨id, off, n, cap, sz, m, cs, d, by simpa using h3.1, h3.2⟩

theorem frzSl_length : ∀ (ids : List Nat) (sl : List AV), (frzSl ids sl).length = sl.length
  | [], sl => rfl
  | id :: ids, sl => by simp only [frzSl]; rw [frzSl_length ids]; simp [kill]

theorem spF_sound {g : FuncId} {base : Nat} {ty : TypeId} {s : List D → Option D} (hsp : ∀ ds d, s ds = some d → DataSem P g ds d) {args : List AV} {ds : List D} {sl : List AV} {L : Heap} {k : List AV → AV → Heap → Option R} {r : R} (h : spF P base ty s args ds sl L k = some r) :
    ∃ v sl', k sl' v (frzL (slIds args) L) = some r ∧ sl'.length = sl.length ∧ Enters P g ∧ ∀ {B0 w0 ok E w tmps} {vs cs : List Value}, Mem B0 w0 ok E L w → Reps E w ok vs args → RepDs w ok cs ds → SlRep E w ok tmps sl →
      Calls P g (vs ++ cs).toArray w (fun e w' => ∃ u ok' E', e = .returned u ∧ Mem B0 w0 ok' E' (frzL (slIds args) L) w' ∧ Rep E' w' ok' u v ∧ SlRep E' w' ok' tmps sl' ∧ Step B0 base E w ok E' w' ok') := by
  unfold spF at h
  rw [mapK_eq (viewK_eq 8)] at h
  obtain ⟨xs, hxs, h1⟩ := Option.bind_eq_some_iff.1 h
  split at h1
  case isFalse => cases h1
  rename_i hall
  obtain ⟨d, hd, h2⟩ := Option.bind_eq_some_iff.1 h1
  obtain ⟨sl', hk, hlen, hsee⟩ := see_sound (openK_some h2)
  refine ⟨.d d, sl', hk, by rw [hlen, frzSl_length], (hsp _ _ hd).1, fun {B0 w0 ok E w tmps vs cs} hM hr hcs hsl => ?_⟩
  obtain ⟨okF, EF, hMF, hSF, gF, hblk⟩ := freezes hM hsl (slIds_base hall)
  have hvals : RepDs w okF vs xs := by
    obtain ⟨hl, hi⟩ := mapO_some hxs
    refine ⟨by have := hr.1; omega, fun i x d hx hxd => ?_⟩
    have hlt : i < args.length := by have := (List.getElem?_eq_some_iff.1 hxd).1; omega
    have ha := List.getElem?_eq_getElem hlt
    have hv := hi i _ d ha hxd
    have hrep := hr.2 i x _ hx ha
    have hmem := List.getElem_mem hlt
    have hok := List.all_eq_true.1 hall _ hmem
    generalize args[i] = c at hv hrep hmem hok
    cases c <;> simp only [frzOk] at hok <;> try (cases hok; done)
    case d y =>
      simp only [viewD] at hv
      cases hv
      cases hrep with
      | d h => exact h.mono gF.oks (fun _ _ => rfl)
    case sl id off n cap sz =>
      simp only [Bool.and_eq_true] at hok
      cases hB : L[id]? with
      | none => rw [hB] at hok; cases hok.2
      | some B =>
        rw [hB] at hok
        cases B <;> try (cases hok.2; done)
        exact view_flat hM hB hv hrep gF.oks (fun b q he => hblk id (slIds_mem hmem) b q he)
  have hcs' : RepDs w okF cs ds := ⟨hcs.1, fun i x d hx hd => (hcs.2 i x d hx hd).mono gF.oks (fun _ _ => rfl)⟩
  refine ((hsp _ _ hd).2 (w := w) (ok := okF) (fun b hb => (hMF.okb b hb).1) (hvals.append hcs')).mono ?_
  rintro e w' ⟨u, ok', rfl, hb, hk, hu⟩
  obtain ⟨hM', g, ext⟩ := hMF.call hb hk
  refine ⟨u, _, EF, rfl, hM', .d (hu.mono (fun b hb => .inr hb) (fun _ _ => rfl)), fun t c hc => ?_, gF.trans (.of g ext)⟩
  rcases hsee t c hc with h1 | ⟨id, off, n, cap, sz, m, cs', d', hx, hid, hB, hv, rfl⟩
  · exact hSF.grow g t c h1
  · exact (Rep.d (E := EF) (view_flat hM hB hv (hsl t _ hx) gF.oks (fun b q he => hblk id hid b q he))).grow g

end Go.Ev
