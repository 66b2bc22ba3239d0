/-
  Operations one after another; masks.
-/
import Derived.Test.YtilgfaangfbndaaDoorEvStep
set_option linter.unusedSimpArgs false
set_option linter.unusedVariables false
namespace Go.Ev
open Go Go.RowKit
variable {R : Type} {P : Program} {base : Nat} {sp : SpTab} {fz : Bool}

theorem wanted_none {o : Oper} (h : o.guard = none) (y : Nat → Option Bool) : Region.wanted o y = true := by simp [Region.wanted, h]

theorem yielded_bool {ops : Array Oper} {E : Env} {w : World} {ok : Nat → Prop} {tmps : Array Value} {j : Nat} {g : Oper} {d : Tmp} {b : Bool} {sl : List AV} (hg : ops[j]? = some g) (hd : g.dst = some d) (hlt : d < tmps.size)
    (hr : Rep E w ok (tmps.getD d undef) (.d (.v (.bool b)))) : yielded ops tmps j = some b := by
  have h1 : tmps[d]? = some (tmps.getD d undef) := by simp [Array.getD, hlt]
  unfold yielded
  simp [hg, hd]
  rw [h1, hr.v_inv.1]

theorem yielded_skip {ops : Array Oper} {E : Env} {w : World} {ok : Nat → Prop} {tmps : Array Value} {j : Nat} {g : Oper} {d : Tmp} {sl : List AV} (hg : ops[j]? = some g) (hd : g.dst = some d) (hlt : d < tmps.size)
    (hr : Rep E w ok (tmps.getD d undef) skipped) : yielded ops tmps j = none := by
  have h1 : tmps[d]? = some (tmps.getD d undef) := by simp [Array.getD, hlt]
  unfold yielded
  simp [hg, hd]
  rw [h1]
  unfold skipped at hr
  generalize tmps.getD d undef = u at hr
  cases hr with
  | d hD => cases hD with
    | tup hl _ => rfl

/-- What a guard comes to. -/
inductive GuardIs (ops : Array Oper) (o : Oper) (sl : List AV) : Bool → Prop
  | none : o.guard = none → GuardIs ops o sl true
  | bool {j : Nat} {want : Bool} {g : Oper} {d : Tmp} {b : Bool} : o.guard = some (j, want) → ops[j]? = some g → g.dst = some d → sl[d]? = some (.d (.v (.bool b))) → GuardIs ops o sl (b == want)
  | skip {j : Nat} {want : Bool} {g : Oper} {d : Tmp} : o.guard = some (j, want) → ops[j]? = some g → g.dst = some d → sl[d]? = some skipped → GuardIs ops o sl false

/-- One operation of a region, run or skipped. -/
theorem opsK_cons {or : Orc R} {ops : Array Oper} {o : Oper} {rest : List Oper} {st : St} {k : St → Option R} {r : R} (h : opsK P sp base fz or ops (o :: rest) st k = some r) :
    (GuardIs ops o st.sl true ∧ opK P sp base fz or o st.sl st.L (fun sl v L => opsK P sp base fz or ops rest ⟨setSl sl o.dst v, L⟩ k) = some r) ∨
    (GuardIs ops o st.sl false ∧ opsK P sp base fz or ops rest ⟨setSl st.sl o.dst skipped, st.L⟩ k = some r) := by
  simp only [opsK] at h
  cases hg : o.guard with
  | none => rw [hg] at h; exact .inl ⟨.none hg, h⟩
  | some p =>
    obtain ⟨j, want⟩ := p
    rw [hg] at h
    simp only at h
    obtain ⟨g, hgj, h1⟩ := Option.bind_eq_some_iff.1 h
    obtain ⟨d, hd, h2⟩ := Option.bind_eq_some_iff.1 h1
    cases hs : st.sl[d]? with
    | none => rw [hs] at h2; cases h2
    | some c =>
      rw [hs] at h2
      cases c <;> try (simp only at h2) <;> try (cases h2; done)
      case d x =>
        cases x <;> try (simp only at h2) <;> try (cases h2; done)
        case v y =>
          cases y <;> try (simp only at h2) <;> try (cases h2; done)
          case bool b =>
            have hset : st.sl.set d (.d (.v (.bool b))) = st.sl := set_same hs
            have hG := GuardIs.bool hg hgj hd hs
            cases b <;> cases want <;> simp only [cond_true, cond_false] at h2 <;> rw [hset] at h2
            · exact .inl ⟨hG, h2⟩
            · exact .inr ⟨hG, h2⟩
            · exact .inr ⟨hG, h2⟩
            · exact .inl ⟨hG, h2⟩
        case tup cs =>
          cases cs with
          | nil => exact .inr ⟨.skip hg hgj hd hs, h2⟩
          | cons x xs => cases h2

theorem GuardIs.wanted {ops : Array Oper} {o : Oper} {sl : List AV} {b : Bool} (h : GuardIs ops o sl b) {E : Env} {w : World} {ok : Nat → Prop} {tmps : Array Value} (hs : tmps.size = sl.length)
    (hr : ∀ (j : Nat) want (g : Oper) d c, o.guard = some (j, want) → ops[j]? = some g → g.dst = some d → sl[d]? = some c → Rep E w ok (tmps.getD d undef) c) : Region.wanted o (yielded ops tmps) = b := by
  cases h with
  | none hg => exact wanted_none hg _
  | bool hg hj hd hsl =>
    have := yielded_bool (sl := sl) hj hd (by rw [hs]; exact (List.getElem?_eq_some_iff.1 hsl).1) (hr _ _ _ _ _ hg hj hd hsl)
    simp only [Region.wanted, hg, this]
    rename_i b; rename_i want _ _ _; cases b <;> cases want <;> rfl
  | skip hg hj hd hsl =>
    have := yielded_skip (sl := sl) hj hd (by rw [hs]; exact (List.getElem?_eq_some_iff.1 hsl).1) (hr _ _ _ _ _ hg hj hd hsl)
    simp only [Region.wanted, hg, this]
    rfl

theorem Sim.put {B0 : Nat} {w0 : World} {ok ok' : Nat → Prop} {E E' : Env} {st : St} {a : Act} {w w' : World} (h : Sim B0 w0 ok E st a w) {L' : Heap} {sl' : List AV} {u : Value} {v : AV} (hM : Mem B0 w0 ok' E' L' w') (hv : Rep E' w' ok' u v) (hsl : SlRep E' w' ok' a.tmps sl') (hl : sl'.length = st.sl.length) (dst : Option Tmp) :
    Sim B0 w0 ok' E' ⟨setSl sl' dst v, L'⟩ (a.put dst u) w' :=
  ⟨hM, hsl.put (by rw [h.size, hl]) hv dst, by rw [put_size, setSl_length, h.size, hl], by rw [put_defers]; exact h.defers⟩

theorem ops_sound (hsp : SpOk P sp) {or : Orc R} (hor : OrOk P or) {ops : Array Oper} : ∀ {rest : List Oper} {st : St} {k : St → Option R} {r : R}, opsK P sp base fz or ops rest st k = some r →
    ∃ st', k st' = some r ∧ st'.sl.length = st.sl.length ∧ ∀ {B0 w0 ok E a w}, Sim B0 w0 ok E st a w → ∀ (Q : Exit → Act → World → Prop),
      (∀ ok' E' a' w', Sim B0 w0 ok' E' st' a' w' → Step B0 base E w ok E' w' ok' → Q .normal a' w') → wpList P ops Q rest a w
  | [], st, k, r, h => ⟨st, h, rfl, fun {B0 w0 ok E a w} hS Q hQ => hQ ok E a w hS (.refl _ _ _ _ _)⟩
  | o :: rest, st, k, r, h => by
    rcases opsK_cons h with ⟨hG, h1⟩ | ⟨hG, h1⟩
    · obtain ⟨sl', v, L', h2, hl, hop⟩ := op_sound hsp hor h1
      obtain ⟨st', hk, hl', hs⟩ := ops_sound hsp hor h2
      refine ⟨st', hk, by rw [hl', setSl_length, hl], fun {B0 w0 ok E a w} hS Q hQ => ?_⟩
      have hw := hG.wanted hS.size (fun j want g d c _ _ _ hc => hS.sl d c hc)
      unfold wpList
      rw [if_pos hw]
      refine .inl (hop hS _ Q fun ok' E' u w' hM hv hsl hst => ?_)
      exact hs (hS.put hM hv hsl hl o.dst) Q fun ok2 E2 a2 w2 hS2 hst2 => hQ ok2 E2 a2 w2 hS2 (hst.trans hst2)
    · obtain ⟨st', hk, hl', hs⟩ := ops_sound hsp hor h1
      refine ⟨st', hk, by rw [hl', setSl_length], fun {B0 w0 ok E a w} hS Q hQ => ?_⟩
      have hw := hG.wanted hS.size (fun j want g d c _ _ _ hc => hS.sl d c hc)
      unfold wpList
      rw [if_neg (by simp [hw])]
      exact hs (hS.put hS.mem rep_skipped hS.sl rfl o.dst) Q hQ

/-! ### Masks -/
theorem keepSl_length : ∀ (ks : List Bool) (xs : List AV), (keepSl ks xs).length = xs.length
  | true :: ks, x :: xs => by simp [keepSl, keepSl_length ks xs]
  | false :: ks, _ :: xs => by simp [keepSl, keepSl_length ks xs]
  | [], xs => by simp [keepSl]
  | true :: _, [] => by simp [keepSl]
  | false :: _, [] => by simp [keepSl]

theorem keepSl_get : ∀ (ks : List Bool) (xs : List AV) (t : Nat) (c : AV), (keepSl ks xs)[t]? = some c → c = .junk ∨ xs[t]? = some c
  | true :: ks, x :: xs, t, c, h => by
    cases t with
    | zero => simp [keepSl] at h; simp [h]
    | succ t => exact keepSl_get ks xs t c (by simpa [keepSl] using h)
  | false :: ks, _ :: xs, t, c, h => by
    cases t with
    | zero => simp [keepSl] at h; exact .inl h.symm
    | succ t => exact keepSl_get ks xs t c (by simpa [keepSl] using h)
  | [], xs, t, c, h => by
    simp only [keepSl, List.getElem?_map] at h
    cases hx : xs[t]? with
    | none => rw [hx] at h; cases h
    | some x => rw [hx] at h; cases h; exact .inl rfl
  | true :: _, [], t, c, h => by simp [keepSl] at h
  | false :: _, [], t, c, h => by simp [keepSl] at h

theorem refsLts_mem {m : Nat} : ∀ {cs : List AV}, refsLt.refsLts m cs = true → ∀ (i : Nat) c, cs[i]? = some c → refsLt m c = true
  | [], _, i, c, hc => by simp at hc
  | x :: r, h, i, c, hc => by
    simp only [refsLt.refsLts, Bool.and_eq_true] at h
    cases i with
    | zero => simp at hc; subst hc; exact h.1
    | succ i => exact refsLts_mem h.2 i c (by simpa using hc)

/-- The environment below 'm'. -/
def Env.below (E : Env) (m : Nat) : Env := fun i => if i < m then E i else none

theorem Rep.lower {E : Env} {w : World} {ok : Nat → Prop} {m : Nat} {u : Value} {c : AV} (h : Rep E w ok u c) : refsLt m c = true → Rep (E.below m) w ok u c := by
  induction h with
  | d h => exact fun _ => .d h
  | agg hlen h1 _ ih => exact fun hr => .agg hlen h1 (fun i x c hx hc => ih i x c hx hc (refsLts_mem hr i c hc))
  | tup hlen _ ih => exact fun hr => .tup hlen (fun i x c hx hc => ih i x c hx hc (refsLts_mem hr i c hc))
  | ptr he => exact fun hr => .ptr (by simp [refsLt] at hr; simp only [Env.below, if_pos hr]; exact he)
  | sl he hn hc hm ho => exact fun hr => .sl (by simp [refsLt] at hr; simp only [Env.below, if_pos hr]; exact he) hn hc hm ho
  | slz hc => exact fun _ => .slz hc
  | lp hb h1 hcell hrep => exact fun _ => .lp hb h1 hcell hrep
  | clo hlen _ ih => exact fun hr => .clo hlen (fun i x c hx hc => ih i x c hx hc (refsLts_mem hr i c hc))
  | junk => exact fun _ => .junk

/-- The blocks that stand for the numbers from 'm' on. -/
def okFrom (E : Env) (m : Nat) (ok : Nat → Prop) : Nat → Prop := fun b => ok b ∨ ∃ id q, m ≤ id ∧ E id = some (b, q)

theorem frz_sound {m : Nat} {L : Heap} : ∀ {xs : List AV} {k : List AV → Option R} {r : R}, frzK m L xs k = some r →
    ∃ ys, k ys = some r ∧ ys.length = xs.length ∧ ∀ {B0 w0 ok E w}, Mem B0 w0 ok E L w → ∀ (t : Nat) c, ys[t]? = some c → ∃ x, xs[t]? = some x ∧ ∀ u, Rep E w ok u x → Rep E w (okFrom E m ok) u c
  | [], k, r, h => ⟨[], h, rfl, fun hM t c hc => by simp at hc⟩
  | x :: xs, k, r, h => by
    have same : frzK m L xs (fun ys => k (x :: ys)) = some r → ∃ ys, k ys = some r ∧ ys.length = (x :: xs).length ∧ ∀ {B0 w0 ok E w}, Mem B0 w0 ok E L w → ∀ (t : Nat) c, ys[t]? = some c → ∃ y, (x :: xs)[t]? = some y ∧ ∀ u, Rep E w ok u y → Rep E w (okFrom E m ok) u c := fun h1 => by
      obtain ⟨ys, hk, hl, hs⟩ := frz_sound h1
      refine ⟨x :: ys, hk, by simp [hl], fun {B0 w0 ok E w} hM t c hc => ?_⟩
      cases t with
      | zero =>
        simp at hc
        subst hc
        exact ⟨x, rfl, fun u hu => hu.grow (E' := E) (w' := w) ⟨fun _ _ h => h, fun b hb => .inl hb, fun _ _ => rfl⟩⟩
      | succ t => exact hs hM t c (by simpa using hc)
    cases x <;> try (exact same h)
    case sl id off n cap sz =>
      simp only [frzK] at h
      by_cases hid : Nat.ble m id = true
      case neg => rw [if_neg hid] at h; exact same h
      rw [if_pos hid] at h
      have hmid : m ≤ id := Nat.le_of_ble_eq_true hid
      cases hB : L[id]? with
      | none => rw [hB] at h; cases h
      | some B =>
        rw [hB] at h
        cases B <;> (try simp only at h) <;> try (cases h; done)
        case d b cs =>
          obtain ⟨q, h1, hq⟩ := cut_some h
          obtain ⟨ys, hk, hl, hs⟩ := frz_sound h1
          refine ⟨_, hk, by simp [hl], fun {B0 w0 ok E w} hM t c hc => ?_⟩
          cases t with
          | succ t => exact hs hM t c (by simpa using hc)
          | zero =>
            simp at hc
            subst hc
            refine ⟨_, rfl, fun u hu => .d ?_⟩
            -- the view of the slice
            have hv : viewD (L := [] ++ L) 1 (.sl id off n cap sz) = some (.list n cap q) := by
              obtain ⟨hfit, rfl⟩ := hq (hM.wf _ _ hB)
              simp only [viewD, List.nil_append, hB, cut, if_pos hfit]
              unfold cutL
              have hlen := hM.wf _ _ hB
              split
              · rename_i h0
                rw [h0.1, List.drop_zero, List.take_of_length_le (by have : cs.length = b := hlen; omega)]
              · rfl
            -- the environment with the one block alone
            let E1 : Env := fun i => if i = id then E id else none
            have hM1 : Mem B0 w0 ok E1 L w := by
              refine ⟨hM.below, fun b hk => ⟨(hM.okb b hk).1, fun i q he => ?_⟩, fun i j b q q' hi hj => ?_, fun i b q he => ?_, hM.b0, hM.wf⟩
              · simp only [E1] at he
                split at he
                · exact (hM.okb b hk).2 _ _ he
                · cases he
              · simp only [E1] at hi hj
                split at hi <;> split at hj <;> first | omega | cases hi | cases hj
              · simp only [E1] at he
                split at he
                · rename_i hii
                  subst hii
                  obtain ⟨h0, c, e, B, hbb, hs, h1, hB', hcc⟩ := hM.loc i b q he
                  rw [hB] at hB'; cases hB'
                  exact ⟨h0, c, e, _, hbb, hs, h1, hB, hcc⟩
                · cases he
            have hu1 : Rep E1 w ok u (.sl id off n cap sz) := by
              cases hu with
              | sl hE a b c d => exact .sl (by simp only [E1, if_pos]; exact hE) a b c d
              | slz b => exact .slz b
            exact viewD_sound hv (by simpa using hM1) (fun b hb => .inl hb) (fun i b q he => by
              simp only [E1] at he
              split at he
              · exact .inr ⟨id, q, hmid, he⟩
              · cases he) hu1

theorem mask_sound {keep : List Bool} {m : Nat} {st : St} {k : St → Option R} {r : R} (h : maskK keep base m st k = some r) :
    ∃ st', k st' = some r ∧ st'.sl.length = st.sl.length ∧ ∀ {B0 w0 ok E a w}, Sim B0 w0 ok E st a w → ∃ ok' E', Sim B0 w0 ok' E' st' a w ∧ Step B0 base E w ok E' w ok' := by
  unfold maskK at h
  obtain ⟨sl, h1, hlen, hfr⟩ := frz_sound h
  clear h
  dsimp only at h1
  split at h1
  case isFalse => cases h1
  rename_i hc
  simp only [Bool.and_eq_true] at hc
  obtain ⟨hb, hsl, hL⟩ := hc
  have hbm : base ≤ m := Nat.le_of_ble_eq_true hb
  refine ⟨_, h1, by rw [hlen, keepSl_length], fun {B0 w0 ok E a w} hS => ⟨okFrom E m ok, E.below m, ⟨⟨hS.mem.below, fun b hk => ?_, fun i j b q q' hi hj => ?_, fun id b q he => ?_, hS.mem.b0, fun i B hi => ?_⟩, fun t c hc => ?_, ?_, hS.defers⟩, ⟨fun id x hid he => ?_, fun _ h => .inl h, fun _ _ => rfl, fun b hb => ?_⟩⟩⟩
  · rcases hk with hk | ⟨i, q, hi, he⟩
    · refine ⟨(hS.mem.okb b hk).1, fun id q he => ?_⟩
      simp only [Env.below] at he
      split at he
      · exact (hS.mem.okb b hk).2 id q he
      · cases he
    · refine ⟨hS.mem.lt he, fun id q' he' => ?_⟩
      simp only [Env.below] at he'
      split at he'
      · have := hS.mem.inj _ _ _ _ _ he he'; omega
      · cases he'
  · simp only [Env.below] at hi hj
    split at hi <;> split at hj <;> first | exact hS.mem.inj i j b q q' hi hj | cases hi | cases hj
  · simp only [Env.below] at he
    split at he
    · rename_i hid
      obtain ⟨h0, c, e, B, hbb, hs, h1, hB, hcc⟩ := hS.mem.loc id b q he
      have hB' : (st.L.take m)[id]? = some B := by rw [List.getElem?_take, if_pos hid]; exact hB
      refine ⟨h0, c, e, B, hbb, hs, h1, hB', ?_⟩
      have hcc' : CellsRep E w (okFrom E m ok) c.toList B := hcc.grow (E' := E) (w' := w) ⟨fun _ _ h => h, fun b hb => .inl hb, fun _ _ => rfl⟩
      have hlt := List.all_eq_true.1 hL B (List.mem_of_getElem? hB')
      cases B with
      | dead => exact hcc'
      | d n cs => exact hcc'
      | a n cs =>
        refine ⟨hcc'.1, hcc'.2.1, fun j x hx => ?_⟩
        obtain ⟨v, hv, hr⟩ := hcc'.2.2 j x hx
        exact ⟨v, hv, hr.lower (List.all_eq_true.1 hlt x (List.mem_of_getElem? hx))⟩
    · cases he
  · rw [List.getElem?_take] at hi
    split at hi
    · exact hS.mem.wf i B hi
    · cases hi
  · obtain ⟨x, hx, hr⟩ := hfr hS.mem t c hc
    have hlow := List.all_eq_true.1 hsl c (List.mem_of_getElem? hc)
    refine (hr _ ?_).lower hlow
    rcases keepSl_get _ _ _ _ hx with rfl | h1
    · exact .junk
    · exact hS.sl t x h1
  · simp only [hlen, keepSl_length]; exact hS.size
  · simp only [Env.below, if_pos (show id < m by omega)]; exact he
  · rcases hb with hb | ⟨i, q, _, he⟩
    · exact .inl hb
    · exact .inr (hS.mem.loc _ _ _ he).1

theorem prom_sound : ∀ {ps : List (Nat × Nat)} {st : St} {k : St → Option R} {r : R}, promK ps st k = some r →
    ∃ st', k st' = some r ∧ st'.sl.length = st.sl.length ∧ ∀ {B0 w0 ok E a w}, Sim B0 w0 ok E st a w → Sim B0 w0 ok E st' a w
  | [], st, k, r, h => ⟨st, h, rfl, fun hS => hS⟩
  | (t, sz) :: ps, st, k, r, h => by
    simp only [promK] at h
    split at h
    · rename_i hs
      obtain ⟨st', hk, hl, hs'⟩ := prom_sound h
      refine ⟨st', hk, by simpa using hl, fun {B0 w0 ok E a w} hS => hs' ⟨⟨hS.mem.below, hS.mem.okb, hS.mem.inj, fun id b q he => ?_, hS.mem.b0, hS.mem.wf.push' rfl⟩, fun t' c hc => ?_, by simpa using hS.size, hS.defers⟩⟩
      · obtain ⟨h0, c, e, B, hbb, hs, h1, hB, hcc⟩ := hS.mem.loc id b q he
        exact ⟨h0, c, e, B, hbb, hs, h1, by rw [List.getElem?_append_left (hS.mem.idlt he)]; exact hB, hcc⟩
      · by_cases htt : t' = t
        · subst htt
          have hlt := (List.getElem?_eq_some_iff.1 hs).1
          rw [List.getElem?_set_self hlt] at hc
          cases hc
          have := hS.sl t' _ hs
          generalize a.tmps.getD t' undef = u at this
          cases this with
          | d hD => cases hD with
            | nil _ => exact .slz (fun q hq => by cases hq)
            | list hb hn hcap _ _ _ =>
              have := hcap 0 rfl
              subst this
              exact .slz (fun q hq => by cases hq)
        · rw [List.getElem?_set_ne (Ne.symm htt)] at hc
          exact hS.sl t' c hc
    · exact prom_sound h

end Go.Ev
