/-
  Functions from data to data, called.
-/
import Derived.Test.YtilgfaangfbndaaDoorEvOps8
set_option linter.unusedSimpArgs false
set_option linter.unusedVariables false
namespace Go.Ev
open Go Go.RowKit
variable {R : Type} {P : Program}

/-- A function with code of its own. -/
def Enters (P : Program) (f : FuncId) : Prop := ∃ fn, P.funcs[f]? = some fn ∧ fn.body.isSome = true ∧ (fn.name == "runtime.NumGoroutine") = false

/-- Values that stand for data, one by one. -/
def RepDs (w : World) (ok : Nat → Prop) (vs : List Value) (ds : List D) : Prop := vs.length = ds.length ∧ ∀ (i : Nat) x d, vs[i]? = some x → ds[i]? = some d → RepD w ok x d
def Reps (E : Env) (w : World) (ok : Nat → Prop) (vs : List Value) (cs : List AV) : Prop := vs.length = cs.length ∧ ∀ (i : Nat) x c, vs[i]? = some x → cs[i]? = some c → Rep E w ok x c

/-- What a function from data to data answers, in whatever memory. -/
def DataSem (P : Program) (f : FuncId) (ds : List D) (d : D) : Prop :=
  Enters P f ∧ ∀ {w : World} {ok : Nat → Prop} {vals : List Value}, (∀ b, ok b → b < w.heap.size) → RepDs w ok vals ds →
    Calls P f vals.toArray w (fun e w' => ∃ u ok', e = .returned u ∧ Below w.heap.size w w' ∧ (∀ b, ok' b → b < w'.heap.size ∧ (ok b ∨ w.heap.size ≤ b)) ∧ RepD w' ok' u d)

def SpOk (P : Program) (sp : SpTab) : Prop := ∀ f s ds d, sp.lookup f = some s → s ds = some d → DataSem P f ds d

theorem mapO_some {α β : Type} {f : α → Option β} : ∀ {xs : List α} {ys : List β}, mapO f xs = some ys → xs.length = ys.length ∧ ∀ (i : Nat) x y, xs[i]? = some x → ys[i]? = some y → f x = some y
  | [], ys, h => by simp [mapO] at h; subst h; exact ⟨rfl, fun i x y hx => by simp at hx⟩
  | a :: r, ys, h => by
    simp only [mapO] at h
    obtain ⟨b, hb, h1⟩ := Option.bind_eq_some_iff.1 h
    obtain ⟨bs, hbs, h2⟩ := Option.bind_eq_some_iff.1 h1
    cases h2
    obtain ⟨hl, hi⟩ := mapO_some hbs
    refine ⟨by simp [hl], fun i x y hx hy => ?_⟩
    cases i with
    | zero => simp at hx hy; subst hx hy; exact hb
    | succ i => exact hi i x y (by simpa using hx) (by simpa using hy)

/-- All blocks there are. -/
def okAll (w : World) : Nat → Prop := fun b => b < w.heap.size

theorem pw_get {w : World} {ok : Nat → Prop} {vs : List Value} {ds : List D} (hl : vs.length = ds.length) (h : PW (RepD w ok) vs ds) : ∀ (i : Nat) x d, vs[i]? = some x → ds[i]? = some d → RepD w ok x d := by
  intro i x d hx hd
  obtain ⟨y, hy, hr⟩ := h i d hd
  rw [hx] at hy; cases hy; exact hr

/-- Data made of cells that lie in a block. -/
theorem repD_cells {w : World} {ok : Nat → Prop} {b off n cp : Nat} {cap : Option Nat} {c : Array Value} {e : TypeId} {ds : List D} (hok : ok b) (hn : n ≤ cp) (hcap : ∀ q, cap = some q → q = cp) (h1 : ∀ d, d ∈ ds → d.one = true)
    (hb : w.heap[b]? = some (.cells c e (0, 0))) (hp : PW (RepD w ok) (c.toList.drop off) ds) : RepD w ok (.slice (some ⟨b, off, none⟩) n cp) (.list n cap ds) := by
  refine .list (f := fun j => c.toList.getD (off + j) undef) hok hn hcap h1 (fun j hj => ?_) (fun j d hd => ?_)
  · obtain ⟨x, hx, _⟩ := hp j _ (List.getElem?_eq_getElem hj)
    rw [cell_of_row w b (off + j) c e (0, 0) hb]
    rw [List.getElem?_drop] at hx
    simp [List.getD, ← Array.getElem?_toList, hx]
  · obtain ⟨x, hx, hr⟩ := hp j d hd
    rw [List.getElem?_drop] at hx
    simpa [List.getD, hx] using hr

theorem viewD_sound : ∀ {n : Nat} {B0 : Nat} {w0 : World} {ok ok' : Nat → Prop} {E : Env} {L : Heap} {w : World} {x : AV} {d : D} {u : Value}, viewD L n x = some d → Mem B0 w0 ok E L w → (∀ b, ok b → ok' b) → (∀ id b m, E id = some (b, m) → ok' b) → Rep E w ok u x → RepD w ok' u d
  | 0, _, _, _, _, _, _, _, _, _, _, h, _, _, _, _ => by cases h
  | n + 1, B0, w0, ok, ok', E, L, w, x, d, u, h, hM, h1, h2, hx => by
    have mono : ∀ {u d}, RepD w ok u d → RepD w ok' u d := fun h => h.mono h1 (fun _ _ => rfl)
    have many : ∀ {cs : List AV} {ds : List D} {vs : List Value}, mapO (viewD L n) cs = some ds → vs.length = cs.length → (∀ (i : Nat) x c, vs[i]? = some x → cs[i]? = some c → Rep E w ok x c) →
        vs.length = ds.length ∧ ∀ (i : Nat) x d, vs[i]? = some x → ds[i]? = some d → RepD w ok' x d := fun {cs ds vs} hm hl hr => by
      obtain ⟨hl', hi⟩ := mapO_some hm
      refine ⟨by omega, fun i x d hx hd => ?_⟩
      have hlt : i < cs.length := by have := (List.getElem?_eq_some_iff.1 hd).1; omega
      exact viewD_sound (hi i _ d (List.getElem?_eq_getElem hlt) hd) hM h1 h2 (hr i x _ hx (List.getElem?_eq_getElem hlt))
    simp only [viewD] at h
    cases hx with
    | d hD => cases h; exact mono hD
    | agg hl ho hr =>
      obtain ⟨ds, hds, h3⟩ := Option.bind_eq_some_iff.1 h
      split at h3
      · rename_i hall
        cases h3
        obtain ⟨a, b⟩ := many hds hl hr
        exact .agg a (fun d hd => List.all_eq_true.1 hall d hd) b
      · cases h3
    | tup hl hr =>
      obtain ⟨ds, hds, h3⟩ := Option.bind_eq_some_iff.1 h
      cases h3
      obtain ⟨a, b⟩ := many hds hl hr
      exact .tup a b
    | clo hl hr =>
      obtain ⟨ds, hds, h3⟩ := Option.bind_eq_some_iff.1 h
      cases h3
      obtain ⟨a, b⟩ := many hds hl hr
      exact .fn a b
    | ptr _ => cases h
    | lp => cases h
    | junk => cases h
    | slz hc0 =>
      rename_i id off sz cap a
      have fin : RepD w ok' (.slice a 0 0) (.list 0 cap []) := by
        exact .nil (by cases cap with
            | none => exact .inl rfl
            | some q => exact .inr (by rw [hc0 q rfl]))
      dsimp only at h
      cases hB : L[id]? with
      | none => rw [hB] at h; cases h
      | some B =>
        rw [hB] at h
        cases B <;> (try simp only at h) <;> try (cases h; done)
        case d m cs =>
          obtain ⟨xs, hk, hx⟩ := cut_some h
          cases hk
          obtain ⟨_, rfl⟩ := hx (hM.wf _ _ hB)
          simpa using fin
        case a m cs =>
          obtain ⟨xs, hk, hx⟩ := cut_some h
          obtain ⟨_, rfl⟩ := hx (hM.wf _ _ hB)
          simp [mapO] at hk
          subst hk
          exact fin
    | sl hE hn hcap hm hoff =>
      rename_i id off off' nn cp b m sz cap
      obtain ⟨_, c, e, B, hb, hs, ho, hB, hc⟩ := hM.loc _ _ _ hE
      dsimp only at h
      rw [hB] at h
      have fin : ∀ {ds : List D}, off + nn * sz ≤ c.size → (nn * sz = 0 → ds = []) → (∀ d, d ∈ ds → d.one = true) → PW (RepD w ok') (c.toList.drop off) ds → RepD w ok' (.slice (some ⟨b, off', none⟩) nn cp) (.list nn cap ds) := fun {ds} hfit h0 hone hp => by
        rcases hoff with rfl | hcp
        · exact repD_cells (h2 _ _ _ hE) hn hcap hone hb hp
        · have hnn : nn = 0 := by omega
          have : ds = [] := h0 (by rw [hnn, Nat.zero_mul])
          subst this
          exact .list (f := fun _ => undef) (h2 _ _ _ hE) hn hcap (by simp) (fun j hj => by simp at hj) (fun j d hd => by simp at hd)
      cases B <;> (try simp only at h) <;> try (cases h; done)
      case d q cs =>
        obtain ⟨xs, hk, hx⟩ := cut_some h
        cases hk
        obtain ⟨hlen, hle, hone, hcc⟩ := hc
        obtain ⟨hfit, rfl⟩ := hx hlen
        have hle' : q ≤ c.size := by simpa using hle
        refine fin (by omega) (fun h0 => by rw [h0]; simp) (fun d hd => hone d (List.mem_of_mem_drop (List.mem_of_mem_take hd))) (fun j d hd => ?_)
        rw [List.getElem?_take] at hd
        split at hd
        · rw [List.getElem?_drop] at hd
          obtain ⟨x, hx, hr⟩ := hcc _ d hd
          exact ⟨x, by rw [List.getElem?_drop]; exact hx, mono hr⟩
        · cases hd
      case a q cs =>
        obtain ⟨xs, hk, hx⟩ := cut_some h
        obtain ⟨ds, hds, h3⟩ := Option.bind_eq_some_iff.1 hk
        split at h3
        · rename_i hall
          cases h3
          obtain ⟨hlen, hle, hcc⟩ := hc
          obtain ⟨hfit, rfl⟩ := hx hlen
          have hle' : q ≤ c.size := by simpa using hle
          have hlx : ((cs.drop off).take (nn * sz)).length = nn * sz := by simp; omega
          obtain ⟨hl', hi⟩ := mapO_some hds
          refine fin (by omega) (fun h0 => List.eq_nil_of_length_eq_zero (by omega)) (fun d hd => List.all_eq_true.1 hall d hd) (fun j d hd => ?_)
          have hj := (List.getElem?_eq_some_iff.1 hd).1
          have hx0 := List.getElem?_eq_getElem (show j < ((cs.drop off).take (nn * sz)).length by omega)
          have hv := hi j _ d hx0 hd
          have hx1 := hx0
          rw [List.getElem?_take, if_pos (by omega), List.getElem?_drop] at hx1
          obtain ⟨x, hx, hr⟩ := hcc _ _ hx1
          exact ⟨x, by rw [List.getElem?_drop]; exact hx, viewD_sound hv hM h1 h2 hr⟩
        · cases h3

theorem cut_bind {α β : Type} {n off size : Nat} {cs : List α} {g : List α → Option β} {k : β → Option R} : cut n cs off size (fun r => (g r).bind k) = (cut n cs off size g).bind k := by
  unfold cut; split <;> rfl
theorem ite_bind {β : Type} {c : Prop} [Decidable c] {x : Option β} {k : β → Option R} : (if c then x.bind k else none) = (if c then x else none).bind k := by split <;> rfl

theorem mapK_eq {α β : Type} {f : α → (β → Option R) → Option R} {g : α → Option β} (h : ∀ x k, f x k = (g x).bind k) : ∀ (xs : List α) (k : List β → Option R), mapK f xs k = (mapO g xs).bind k
  | [], k => rfl
  | x :: r, k => by
    simp only [mapK, mapO, h]
    cases g x with
    | none => rfl
    | some y =>
      simp only [Option.bind_some]
      rw [mapK_eq h r]
      cases mapO g r <;> rfl

theorem viewK_eq {L : Heap} : ∀ (n : Nat) (x : AV) (k : D → Option R), viewK L n x k = (viewD L n x).bind k
  | 0, x, k => rfl
  | n + 1, x, k => by
    have hm : ∀ (xs : List AV) (k : List D → Option R), mapK (viewK L n) xs k = (mapO (viewD L n) xs).bind k := mapK_eq (viewK_eq n)
    cases x with
    | d x => rfl
    | sl id off len cap sz =>
      simp only [viewK, viewD]
      cases hB : L[id]? with
      | none => rfl
      | some B =>
        cases B with
        | dead => rfl
        | d m cs => exact cut_bind (g := fun r => some (D.list len cap r))
        | a m cs =>
          simp only [hm]
          rw [← cut_bind]
          congr 1
          funext r
          cases mapO (viewD L n) r with
          | none => rfl
          | some ds => simp only [Option.bind_some]; split <;> rfl
    | agg cs =>
      simp only [viewK, viewD, hm]
      cases mapO (viewD L n) cs with
      | none => rfl
      | some ds => simp only [Option.bind_some]; split <;> rfl
    | tup cs => simp only [viewK, viewD, hm]; cases mapO (viewD L n) cs <;> rfl
    | clo f cs => simp only [viewK, viewD, hm]; cases mapO (viewD L n) cs <;> rfl
    | _ => rfl

/-! ### Results laid open -/
theorem rdI_eq {k : IntKind} {x : Option D} {i : Int} (h : rdI k x = some i) : x = some (.v (.int k i)) := by
  unfold rdI at h
  split at h
  · rename_i k' j
    split at h
    · rename_i hk; cases h; rw [hk]
    · cases h
  · cases h
theorem rdB_eq {x : Option D} {b : Bool} (h : rdB x = some b) : x = some (.v (.bool b)) := by
  unfold rdB at h; split at h <;> cases h; rfl
theorem rdS_eq {x : Option D} {b : ByteArray} (h : rdS x = some b) : x = some (.v (.string b)) := by
  unfold rdS at h; split at h <;> cases h; rfl
theorem rdL_eq {x : Option D} {s : Sl} (h : rdL x = some s) : x = some (.list s.n s.cap s.cs) := by
  unfold rdL at h; split at h <;> cases h; rfl
theorem rdF_eq {x : Option D} {d : D} (h : rdF x = some d) : x = some d := by
  unfold rdF at h; split at h <;> cases h <;> rfl
theorem rdA_eq {x : Option D} {cs : List D} (h : rdA x = some cs) : x = some (.agg cs) := by
  unfold rdA at h; split at h <;> cases h; rfl

theorem open1_some {t : TypeId} {x : Option D} {k : D → Option R} {r : R} (h : open1 P t x k = some r) :
    ∃ d, x = some d ∧ k d = some r := by
  unfold open1 at h
  split at h
  · obtain ⟨i, hi, h1⟩ := Option.bind_eq_some_iff.1 h; exact ⟨_, rdI_eq hi, h1⟩
  · obtain ⟨i, hi, h1⟩ := Option.bind_eq_some_iff.1 h; exact ⟨_, rdB_eq hi, h1⟩
  · obtain ⟨i, hi, h1⟩ := Option.bind_eq_some_iff.1 h; exact ⟨_, rdS_eq hi, h1⟩
  · obtain ⟨i, hi, h1⟩ := Option.bind_eq_some_iff.1 h; exact ⟨_, rdL_eq hi, h1⟩
  · obtain ⟨i, hi, h1⟩ := Option.bind_eq_some_iff.1 h; exact ⟨_, rdF_eq hi, h1⟩
  · obtain ⟨i, hi, h1⟩ := Option.bind_eq_some_iff.1 h; exact ⟨_, rdA_eq hi, h1⟩
  · obtain ⟨i, hi, h1⟩ := Option.bind_eq_some_iff.1 h; exact ⟨_, rdA_eq hi, h1⟩
  · cases h

theorem openL_some {ds : List D} : ∀ {ts : List TypeId} {i : Nat} {k : List D → Option R} {r : R}, openL P ds i ts k = some r →
    ∃ xs, k xs = some r ∧ xs.length = ts.length ∧ ∀ j, j < ts.length → ds[i + j]? = xs[j]?
  | [], i, k, r, h => ⟨[], h, rfl, fun j hj => by simp at hj⟩
  | t :: ts, i, k, r, h => by
    simp only [openL] at h
    obtain ⟨d, hd, h1⟩ := open1_some h
    obtain ⟨xs, hk, hl, hg⟩ := openL_some h1
    refine ⟨d :: xs, hk, by simp [hl], fun j hj => ?_⟩
    cases j with
    | zero => simpa using hd
    | succ j => have := hg j (by simpa using hj); simp only [List.getElem?_cons_succ]; rw [← this, Nat.add_assoc, Nat.add_comm 1 j]

theorem openK_some {t : TypeId} {d : D} {k : AV → Option R} {r : R} (h : openK P t d k = some r) : k (.d d) = some r := by
  unfold openK at h
  split at h
  · rename_i ts hu
    obtain ⟨ds, hds, h1⟩ := Option.bind_eq_some_iff.1 h
    have : d = .tup ds := by
      unfold rdT at hds; split at hds <;> cases hds; rfl
    subst this
    split at h1
    · rename_i hl
      obtain ⟨xs, hk, hl', hg⟩ := openL_some h1
      have : xs = ds := by
        apply List.ext_getElem?
        intro j
        by_cases hj : j < ts.toList.length
        · have := hg j hj; rw [Nat.zero_add] at this; exact this.symm
        · rw [List.getElem?_eq_none (by omega), List.getElem?_eq_none (by simp at hj; omega)]
      rw [← this]; exact hk
    · cases h1
  · obtain ⟨x, hx, hk⟩ := open1_some h
    cases hx; exact hk

/-- Scalars hold no address. -/
theorem open_scalar {t : TypeId} {d : D} {k : AV → Option R} {r : R} (h : openK P t d k = some r) (hs : scalarT P t = true) {w w' : World} {ok ok' : Nat → Prop} {u : Value} (hu : RepD w ok u d) : RepD w' ok' u d := by
  have leaf1 : ∀ {t : TypeId} {x : D} {k : D → Option R} {u : Value}, (match P.underlying t with | some (.int _) | some .bool | some .string => true | _ => false) = true → open1 P t (some x) k = some r → RepD w ok u x → RepD w' ok' u x := by
    intro t x k u hs h hu
    unfold open1 at h
    split at h <;> try (rename_i hut; rw [hut] at hs; cases hs; done)
    · obtain ⟨i, hi, _⟩ := Option.bind_eq_some_iff.1 h
      have := rdI_eq hi; cases this; cases hu; exact .v rfl
    · obtain ⟨i, hi, _⟩ := Option.bind_eq_some_iff.1 h
      have := rdB_eq hi; cases this; cases hu; exact .v rfl
    · obtain ⟨i, hi, _⟩ := Option.bind_eq_some_iff.1 h
      have := rdS_eq hi; cases this; cases hu; exact .v rfl
    · cases h
  unfold openK at h
  split at h
  · rename_i ts hut
    unfold scalarT at hs
    rw [hut] at hs
    simp only at hs
    obtain ⟨ds, hds, h1⟩ := Option.bind_eq_some_iff.1 h
    have : d = .tup ds := by
      unfold rdT at hds; split at hds <;> cases hds; rfl
    subst this
    split at h1
    case isFalse => cases h1
    rename_i hl
    cases hu with
    | tup hlen hr =>
      refine .tup hlen fun i x d hx hd => ?_
      have hall := List.all_eq_true.1 hs
      -- one element
      have key : ∀ {l : List TypeId} {i0 : Nat} {k : List D → Option R}, openL P ds i0 l k = some r → (∀ t, t ∈ l → (match P.underlying t with | some (.int _) | some .bool | some .string => true | _ => false) = true) →
          ∀ j, j < l.length → ∀ d, ds[i0 + j]? = some d → ∀ {u}, RepD w ok u d → RepD w' ok' u d := by
        intro l
        induction l with
        | nil => intro i0 k _ _ j hj; simp at hj
        | cons t l ih =>
          intro i0 k h ha j hj d hd u hu
          simp only [openL] at h
          cases j with
          | zero =>
            rw [Nat.add_zero] at hd
            rw [hd] at h
            exact leaf1 (ha t (by simp)) h hu
          | succ j =>
            obtain ⟨x0, _, h2⟩ := open1_some h
            exact ih h2 (fun t ht => ha t (by simp [ht])) j (by simpa using hj) d (by rw [← hd]; congr 1; omega) hu
      have hi : i < ts.toList.length := by have := (List.getElem?_eq_some_iff.1 hd).1; simp; omega
      exact key h1 (fun t ht => hall t ht) i hi d (by rw [Nat.zero_add]; exact hd) (hr i x d hx hd)
  · rename_i hnt
    refine leaf1 (t := t) (x := d) ?_ h hu
    unfold scalarT at hs
    cases hut : P.underlying t with
    | none => rw [hut] at hs; cases hs
    | some q =>
      rw [hut] at hs
      cases q <;> first | rfl | (cases hs; done) | exact absurd hut (hnt _)

/-! ### The call -/
theorem allD_args {E : Env} {w : World} {ok : Nat → Prop} {vs : List Value} {args : List AV} {xs : List D} {L : Heap} (h : viewDs L args = some xs) (hd : args.all AV.isD = true) (hr : Reps E w ok vs args) : RepDs w ok vs xs := by
  obtain ⟨hl, hi⟩ := mapO_some h
  refine ⟨by have := hr.1; omega, fun i x d hx hxd => ?_⟩
  have hlt : i < args.length := by have := (List.getElem?_eq_some_iff.1 hxd).1; omega
  have ha := List.getElem?_eq_getElem hlt
  have hv := hi i _ d ha hxd
  have hr' := hr.2 i x _ hx ha
  have hD := List.all_eq_true.1 hd _ (List.getElem_mem hlt)
  generalize args[i] = c at hv hr' hD
  cases c <;> try (cases hD; done)
  simp only [viewD] at hv
  cases hv
  cases hr' with
  | d h => exact h

theorem RepDs.append {w : World} {ok : Nat → Prop} {vs vs' : List Value} {ds ds' : List D} (h : RepDs w ok vs ds) (h' : RepDs w ok vs' ds') : RepDs w ok (vs ++ vs') (ds ++ ds') := by
  refine ⟨by simp [h.1, h'.1], fun i x d hx hd => ?_⟩
  by_cases hlt : i < vs.length
  · rw [List.getElem?_append_left hlt] at hx
    rw [List.getElem?_append_left (by rw [← h.1]; exact hlt)] at hd
    exact h.2 i x d hx hd
  · rw [List.getElem?_append_right (by omega)] at hx
    rw [List.getElem?_append_right (by rw [← h.1]; omega), ← h.1] at hd
    exact h'.2 _ x d hx hd

theorem Mem.call {B0 : Nat} {w0 : World} {ok ok' : Nat → Prop} {E : Env} {L : Heap} {w w' : World} (h : Mem B0 w0 ok E L w) (hb : Below w.heap.size w w') (hk : ∀ b, ok' b → b < w'.heap.size ∧ (ok b ∨ w.heap.size ≤ b)) :
    Mem B0 w0 (fun b => ok b ∨ ok' b) E L w' ∧ Grow E w ok E w' (fun b => ok b ∨ ok' b) ∧ ∀ b, (ok b ∨ ok' b) → ok b ∨ B0 ≤ b := by
  have g : Grow E w ok E w' (fun b => ok b ∨ ok' b) := ⟨fun _ _ h => h, fun b hb => .inl hb, fun b hk => hb.block b (h.okb b hk).1⟩
  refine ⟨⟨h.below.trans (hb.mono h.b0), fun b hq => ?_, h.inj, fun id b m he => ?_, Nat.le_trans h.b0 hb.size, h.wf⟩, g, fun b hq => ?_⟩
  · have old : ok b → b < w'.heap.size ∧ ∀ id m, E id ≠ some (b, m) := fun hk => ⟨Nat.lt_of_lt_of_le (h.okb b hk).1 hb.size, (h.okb b hk).2⟩
    rcases hq with hq | hq
    · exact old hq
    · obtain ⟨h1, h2⟩ := hk b hq
      rcases h2 with h2 | h2
      · exact old h2
      · exact ⟨h1, fun id m he => by have := h.lt he; omega⟩
  · obtain ⟨h0, c, e, B, hbb, hs, h1, hB, hc⟩ := h.loc id b m he
    exact ⟨h0, c, e, B, (hb.block b (h.lt he)).trans hbb, hs, h1, hB, hc.grow g⟩
  · rcases hq with hq | hq
    · exact .inl hq
    · rcases (hk b hq).2 with h2 | h2
      · exact .inl h2
      · exact .inr (Nat.le_trans h.b0 h2)

/-- A call from data to data: it leaves the local blocks alone. -/
def PureCall (P : Program) (g : FuncId) (args : List AV) (ds : List D) (L : Heap) (v : AV) : Prop :=
  Enters P g ∧ ∀ {B0 w0 ok E w} {vs cs : List Value}, Mem B0 w0 ok E L w → Reps E w ok vs args → RepDs w ok cs ds →
    Calls P g (vs ++ cs).toArray w (fun e w' => ∃ u ok', e = .returned u ∧ Below w.heap.size w w' ∧ Mem B0 w0 ok' E L w' ∧ Grow E w ok E w' ok' ∧ (∀ b, ok' b → ok b ∨ B0 ≤ b) ∧ Rep E w' ok' u v)

theorem spK_sound {g : FuncId} {ty : TypeId} {s : List D → Option D} (hsp : ∀ ds d, s ds = some d → DataSem P g ds d) {args : List AV} {ds : List D} {L : Heap} {k : AV → Option R} {r : R} (h : spK P ty s args ds L k = some r) :
    ∃ v, k v = some r ∧ PureCall P g args ds L v := by
  unfold spK at h
  rw [mapK_eq (viewK_eq 8)] at h
  obtain ⟨xs, hxs, h1⟩ := Option.bind_eq_some_iff.1 h
  split at h1
  case isFalse => cases h1
  rename_i hc
  obtain ⟨d, hd, h2⟩ := Option.bind_eq_some_iff.1 h1
  refine ⟨.d d, openK_some h2, (hsp _ _ hd).1, fun {B0 w0 ok E w vs cs} hM hr hcs => ?_⟩
  by_cases hall : args.all AV.isD = true
  · refine ((hsp _ _ hd).2 (w := w) (ok := ok) (fun b hb => (hM.okb b hb).1) ((allD_args hxs hall hr).append hcs)).mono ?_
    rintro e w' ⟨u, ok', rfl, hb, hk, hu⟩
    obtain ⟨hM', g, ext⟩ := hM.call hb hk
    exact ⟨u, _, rfl, hb, hM', g, ext, .d (hu.mono (fun b hb => .inr hb) (fun _ _ => rfl))⟩
  · have hsc : scalarT P ty = true := by simpa [hall] using hc
    have hvals : RepDs w (okAll w) vs xs := by
      obtain ⟨hl, hi⟩ := mapO_some hxs
      refine ⟨by have := hr.1; omega, fun i x d hx hxd => ?_⟩
      have hlt : i < args.length := by have := (List.getElem?_eq_some_iff.1 hxd).1; omega
      have ha := List.getElem?_eq_getElem hlt
      exact viewD_sound (hi i _ d ha hxd) hM (fun b hb => (hM.okb b hb).1) (fun id b m he => hM.lt he) (hr.2 i x _ hx ha)
    have hcs' : RepDs w (okAll w) cs ds := ⟨hcs.1, fun i x d hx hd => (hcs.2 i x d hx hd).mono (fun b hb => (hM.okb b hb).1) (fun _ _ => rfl)⟩
    refine ((hsp _ _ hd).2 (w := w) (ok := okAll w) (fun b hb => hb) (hvals.append hcs')).mono ?_
    rintro e w' ⟨u, ok', rfl, hb, hk, hu⟩
    obtain ⟨hM', g, ext⟩ := hM.call (ok' := fun _ => False) hb (fun b hb => hb.elim)
    exact ⟨u, _, rfl, hb, hM', g, ext, .d (open_scalar h2 hsc hu)⟩

end Go.Ev
