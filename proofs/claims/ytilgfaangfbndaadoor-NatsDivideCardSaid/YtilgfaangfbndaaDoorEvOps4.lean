/-
  Slicing, indexing, fields, lengths.
-/
import Derived.Test.YtilgfaangfbndaaDoorEvOps3
set_option linter.unusedSimpArgs false
set_option linter.unusedVariables false
namespace Go.Ev
open Go Go.RowKit
variable {R : Type} {P : Program}

theorem asI_some {x : AV} {p : IntKind × Int} (h : asI x = some p) : x = .d (.v (.int p.1 p.2)) := by
  unfold asI at h
  split at h
  · cases h; rfl
  · cases h
theorem asB_some {x : AV} {b : Bool} (h : asB x = some b) : x = .d (.v (.bool b)) := by
  unfold asB at h
  split at h
  · cases h; rfl
  · cases h

/-- A bound of a slice expression, as the machine reads it. -/
def BoundOf (w : World) (P : Program) (u : Option Value) (top dflt : Nat) (n : Nat) : Prop :=
  (u = none ∧ n = dflt) ∨ (∃ k, u = some (.int k n) ∧ n ≤ top)

theorem bound_some {x : Option AV} {top dflt : Nat} {k : Nat → Option R} {r : R} (h : bound x top dflt k = some r) :
    ∃ n, k n = some r ∧ ((x = none ∧ n = dflt) ∨ (∃ kd, x = some (.d (.v (.int kd (n : Int)))) ∧ n ≤ top)) := by
  unfold bound at h
  split at h
  · exact ⟨_, h, .inl ⟨rfl, rfl⟩⟩
  · obtain ⟨p, hp, h'⟩ := Option.bind_eq_some_iff.1 h
    split at h'
    · rename_i hle
      refine ⟨_, h', .inr ⟨p.1, ?_, by omega⟩⟩
      rw [asI_some hp, show ((p.2.toNat : Nat) : Int) = p.2 by omega]
    · cases h'

/-- An optional operand stands for an optional value. -/
def RepO (E : Env) (w : World) (ok : Nat → Prop) : Option Value → Option AV → Prop
  | none, none => True
  | some u, some x => Rep E w ok u x
  | _, _ => False

theorem RepO.bound {E : Env} {w : World} {ok : Nat → Prop} {u : Option Value} {x : Option AV} (h : RepO E w ok u x) {n top dflt : Nat} (hx : (x = none ∧ n = dflt) ∨ (∃ kd, x = some (.d (.v (.int kd (n : Int)))) ∧ n ≤ top)) :
    (u = none ∧ n = dflt) ∨ ∃ kd, u = some (.int kd (n : Int)) ∧ n ≤ top := by
  rcases hx with ⟨rfl, h1⟩ | ⟨kd, rfl, h1⟩
  · cases u with
    | none => exact .inl ⟨rfl, h1⟩
    | some u => exact h.elim
  · cases u with
    | none => exact h.elim
    | some u => obtain ⟨rfl, _⟩ := (show Rep E w ok u _ from h).v_inv; exact .inr ⟨kd, rfl, h1⟩

theorem run_bound {w : World} {kd : IntKind} {n top : Nat} {code : BoundsCode} (h : n ≤ top) : (Instr.sliceBound (.int kd (n : Int)) top code).run P w = .ok n w := by
  have := run_sliceBound (P := P) w kd (n : Int) top code (by omega) (by omega)
  simpa using this

/-- The three bounds, where there is no third one. -/
theorem run_bounds2 {w : World} {isSlice : Bool} {len cap l h : Nat} {lo hi : Option Value} (hc : len ≤ cap)
    (hh : (hi = none ∧ h = len) ∨ ∃ kd, hi = some (.int kd (h : Int)) ∧ h ≤ len) (hl : (lo = none ∧ l = 0) ∨ ∃ kd, lo = some (.int kd (l : Int)) ∧ l ≤ h) :
    (Instr.sliceBounds isSlice len cap lo hi none).run P w = .ok (l, h, cap) w := by
  unfold Instr.sliceBounds
  rcases hh with ⟨rfl, rfl⟩ | ⟨k1, rfl, h1⟩ <;> rcases hl with ⟨rfl, rfl⟩ | ⟨k2, rfl, h2⟩
  · simp [Sem.run_bind]
  · simp [Sem.run_bind, run_bound h2]
  · simp [Sem.run_bind, run_bound (P := P) (w := w) (show h ≤ cap by omega)]
  · simp [Sem.run_bind, run_bound (P := P) (w := w) (show h ≤ cap by omega), run_bound h2]

theorem run_bounds3 {w : World} {isSlice : Bool} {len cap l h m : Nat} {lo : Option Value} {kh km : IntKind} (hm : m ≤ cap)
    (hh : h ≤ m) (hl : (lo = none ∧ l = 0) ∨ ∃ kd, lo = some (.int kd (l : Int)) ∧ l ≤ h) :
    (Instr.sliceBounds isSlice len cap lo (some (.int kh (h : Int))) (some (.int km (m : Int)))).run P w = .ok (l, h, m) w := by
  unfold Instr.sliceBounds
  rcases hl with ⟨rfl, rfl⟩ | ⟨k2, rfl, h2⟩
  · simp [Sem.run_bind, run_bound (P := P) (w := w) hm, run_bound (P := P) (w := w) hh]
  · simp [Sem.run_bind, run_bound (P := P) (w := w) hm, run_bound (P := P) (w := w) hh, run_bound h2]

theorem addr_add (b o j : Nat) : (⟨b, o, none⟩ : Addr).add j = ⟨b, o + j, none⟩ := Addr.add_mid b o j

/-- A part of data behind a slice. -/
theorem repD_slice {w : World} {ok : Nat → Prop} {n cap : Nat} {c : Option Nat} {cs : List D} {a : Option Addr} (h : RepD w ok (.slice a n cap) (.list n c cs)) {l hh s : Nat} (h1 : l ≤ hh) (h2 : hh ≤ n) {m : Nat} (hm : hh ≤ m) (hmc : m ≤ cap)
    {c' : Option Nat} (hc' : ∀ q, c' = some q → q = m - l) :
    RepD w ok (.slice (if m = l then a else a.map (·.add (l * s))) (hh - l) (m - l)) (.list (hh - l) c' ((cs.drop (l * s)).take ((hh - l) * s))) := by
  cases h with
  | nil hcap =>
    have : l = 0 := by omega
    subst this
    have : hh = 0 := by omega
    subst this
    have : m = 0 := by omega
    subst this
    simp
    refine .nil ?_
    cases c' with
    | none => exact .inl rfl
    | some q => have := hc' q rfl; simp at this; subst this; exact .inr rfl
  | list hb hn hcap h1' hcell hrep =>
    rename_i b off f
    by_cases hml : m = l
    · have : hh = l := by omega
      subst this
      subst hml
      simp only [if_true, Nat.sub_self, Nat.zero_mul, List.take_zero]
      exact .list (f := f) hb (Nat.le_refl _) (fun q hq => by have := hc' q hq; omega) (by simp) (by simp) (by simp)
    · rw [if_neg hml]
      simp only [Option.map_some, addr_add]
      refine .list (f := fun j => f (l * s + j)) hb (by omega) hc' (fun d hd => h1' d (List.mem_of_mem_drop (List.mem_of_mem_take hd))) (fun j hj => ?_) (fun j d hd => ?_)
      · simp at hj
        rw [Nat.add_assoc]
        exact hcell _ (by omega)
      · rw [List.getElem?_take] at hd
        split at hd
        · rw [List.getElem?_drop] at hd; exact hrep _ d hd
        · cases hd


theorem repD_cap {w : World} {ok : Nat → Prop} {n : Nat} {c : Option Nat} {cs : List D} {u : Value} (h : RepD w ok u (.list n c cs)) :
    ∃ a cap, u = .slice a n cap ∧ n ≤ cap ∧ ∀ q, c = some q → q = cap := by
  cases h with
  | nil hc => exact ⟨_, 0, rfl, Nat.le_refl _, fun q hq => by rcases hc with h | h <;> rw [h] at hq <;> cases hq; rfl⟩
  | list _ hn hc => exact ⟨_, _, rfl, hn, hc⟩

theorem run_slice_slice {t e : TypeId} {i : TypeInfo} (hu : P.underlying t = some (.slice e)) (hi : P.info? e = some i) {w : World} {a : Option Addr} {n cap l h m : Nat} {lo hi' mx : Option Value}
    (hb : (Instr.sliceBounds true n cap lo hi' mx).run P w = .ok (l, h, m) w) :
    (Instr.sliceAt t (.slice a n cap) lo hi' mx).run P w = .ok (.slice (if m = l then a else a.map (·.add (l * i.size))) (h - l) (m - l)) w := by
  simp [Instr.sliceAt, Instr.slice, Sem.run_bind, run_underlying hu, hb, sizeOf, typeInfo, hi]
theorem run_slice_array {t e : TypeId} {n : Nat} {i : TypeInfo} (hu : P.underlying t = some (.array n e)) (hi : P.info? e = some i) {w : World} {a : Addr} {l h m : Nat} {lo hi' mx : Option Value}
    (hb : (Instr.sliceBounds false n n lo hi' mx).run P w = .ok (l, h, m) w) :
    (Instr.sliceAt t (.pointer (some a)) lo hi' mx).run P w = .ok (.slice (some (if m = l then a else a.add (l * i.size))) (h - l) (m - l)) w := by
  simp [Instr.sliceAt, Instr.sureAddr, Sem.run_bind, run_underlying hu, hb, sizeOf, typeInfo, hi]

theorem RepO.none_right {E : Env} {w : World} {ok : Nat → Prop} {u : Option Value} (h : RepO E w ok u none) : u = none := by
  cases u with
  | none => rfl
  | some u => exact h.elim


/-- A part of a local block, cut again. -/
theorem rep_slice {E : Env} {w : World} {ok : Nat → Prop} {n cp id off : Nat} {cap : Option Nat} {sz : Nat} {a : Option Addr} (h : Rep E w ok (.slice a n cp) (.sl id off n cap sz)) {l hh m : Nat} (h1 : l ≤ hh) (hm : hh ≤ m) (hmc : m ≤ cp)
    {c' : Option Nat} (hc' : ∀ q, c' = some q → q = m - l) :
    Rep E w ok (.slice (if m = l then a else a.map (·.add (l * sz))) (hh - l) (m - l)) (.sl id (off + l * sz) (hh - l) c' sz) := by
  cases h with
  | slz hc =>
    have hm0 : m = 0 := by omega
    have hl0 : l = 0 := by omega
    have hh0 : hh = 0 := by omega
    subst hm0 hl0 hh0
    exact .slz (fun q hq => hc' q hq)
  | sl hE hn hcap hfit hoff =>
    rename_i off' b mm
    have hmul : l * sz + (m - l) * sz = m * sz := by rw [← Nat.add_mul, show l + (m - l) = m by omega]
    have hle : m * sz ≤ cp * sz := Nat.mul_le_mul_right _ hmc
    by_cases hml : m = l
    · subst hml
      simp only [if_true]
      exact .sl hE (by omega) hc' (by omega) (.inr (by omega))
    · rw [if_neg hml]
      simp only [Option.map_some, addr_add]
      refine .sl hE (by omega) hc' (by omega) ?_
      rcases hoff with h | h
      · exact .inl (by omega)
      · exact .inr (by omega)

theorem rep_sl_inv {E : Env} {w : World} {ok : Nat → Prop} {u : Value} {id off n sz : Nat} {cap : Option Nat} (h : Rep E w ok u (.sl id off n cap sz)) : ∃ a cp, u = .slice a n cp ∧ n ≤ cp ∧ ∀ q, cap = some q → q = cp := by
  cases h with
  | sl hE hn hcap hfit hoff => exact ⟨_, _, rfl, hn, hcap⟩
  | slz hc => exact ⟨_, 0, rfl, Nat.le_refl _, hc⟩

theorem cap_map {cap : Option Nat} {cp l : Nat} (h : ∀ q, cap = some q → q = cp) : ∀ q, cap.map (· - l) = some q → q = cp - l := by
  intro q hq
  cases cap with
  | none => cases hq
  | some c => cases hq; rw [h c rfl]

theorem slice_sound {t : TypeId} {x : AV} {L : Heap} {lo hi mx : Option AV} {k : AV → Option R} {r : R} (h0 : sliceK P t x L lo hi mx k = some r) :
    ∃ v, k v = some r ∧ ∀ {B0 w0 E w ok u lo' hi' mx'}, Mem B0 w0 ok E L w → Rep E w ok u x → RepO E w ok lo' lo → RepO E w ok hi' hi → RepO E w ok mx' mx → ∃ z, (Instr.sliceAt t u lo' hi' mx').run P w = .ok z w ∧ Rep E w ok z v := by
  unfold sliceK at h0
  cases hu : P.underlying t with
  | none => rw [hu] at h0; cases h0
  | some d =>
    rw [hu] at h0
    cases d <;> (try simp only at h0) <;> try (cases h0; done)
    case string =>
      cases x <;> (try simp only at h0) <;> try (cases h0; done)
      rename_i xd
      cases xd <;> (try simp only at h0) <;> try (cases h0; done)
      rename_i xv
      cases xv <;> (try simp only at h0) <;> try (cases h0; done)
      rename_i s
      cases mx with
      | some q => simp at h0
      | none =>
        simp only [Option.isSome_none, Bool.false_eq_true, if_false] at h0
        obtain ⟨hh, h1, hb⟩ := bound_some h0
        obtain ⟨l, hk, hb'⟩ := bound_some h1
        refine ⟨_, hk, fun {B0 w0 E w ok u lo' hi' mx'} hM hx hl hh' hm => ⟨_, ?_, .ofV rfl⟩⟩
        obtain ⟨rfl, _⟩ := hx.v_inv
        have := hm.none_right; subst this
        have hbd := run_bounds2 (P := P) (w := w) (isSlice := false) (Nat.le_refl s.size) (hh'.bound hb) (hl.bound hb')
        simp [Instr.sliceAt, Instr.slice, Sem.run_bind, run_underlying hu, hbd]
    case slice e =>
      obtain ⟨i, hi', h1⟩ := Option.bind_eq_some_iff.1 h0
      clear h0
      cases x <;> (try simp only at h1) <;> try (cases h1; done)
      case d xd =>
        cases xd <;> (try simp only at h1) <;> try (cases h1; done)
        rename_i n cap cs
        cases mx with
        | none =>
          obtain ⟨hh, h2, hb⟩ := bound_some h1
          obtain ⟨l, hk, hb'⟩ := bound_some h2
          refine ⟨_, hk, fun {B0 w0 E w ok u lo' hi2 mx'} hM hx hl hh' hm => ?_⟩
          have := hm.none_right; subst this
          cases hx with
          | d hx =>
            obtain ⟨a, cp, rfl, hn, hcap⟩ := repD_cap hx
            have g1 := hh'.bound hb
            have g2 := hl.bound hb'
            have hbd := run_bounds2 (P := P) (w := w) (isSlice := true) hn g1 g2
            have e1 : hh ≤ n := by rcases hb with ⟨_, h⟩ | ⟨_, _, h⟩ <;> omega
            have e2 : l ≤ hh := by rcases hb' with ⟨_, h⟩ | ⟨_, _, h⟩ <;> omega
            exact ⟨_, run_slice_slice hu hi' hbd, .d (repD_slice hx e2 e1 (by omega) (Nat.le_refl _) (cap_map hcap))⟩
        | some mq =>
          obtain ⟨m, h2, hbm⟩ := bound_some h1
          cases hi with
          | none => cases h2
          | some hq =>
            obtain ⟨hh, h3, hb⟩ := bound_some h2
            obtain ⟨l, hk, hb'⟩ := bound_some h3
            refine ⟨_, hk, fun {B0 w0 E w ok u lo' hi2 mx'} hM hx hl hh' hm => ?_⟩
            cases hx with
            | d hx =>
              obtain ⟨a, cp, rfl, hn, hcap⟩ := repD_cap hx
              have g1 := hh'.bound hb
              have g2 := hl.bound hb'
              have g3 := hm.bound hbm
              have e3 : m ≤ n := by rcases hbm with ⟨h, _⟩ | ⟨_, _, h⟩; cases h; exact h
              have e1 : hh ≤ m := by rcases hb with ⟨h, _⟩ | ⟨_, _, h⟩; cases h; exact h
              have e2 : l ≤ hh := by rcases hb' with ⟨_, h⟩ | ⟨_, _, h⟩ <;> omega
              rcases g1 with ⟨rfl, _⟩ | ⟨k1, rfl, _⟩
              · exact hh'.elim
              rcases g3 with ⟨rfl, _⟩ | ⟨k3, rfl, _⟩
              · exact hm.elim
              have hbd := run_bounds3 (P := P) (w := w) (isSlice := true) (cap := cp) (len := n) (kh := k1) (km := k3) (m := m) (by omega) e1 g2
              exact ⟨_, run_slice_slice hu hi' hbd, .d (repD_slice hx e2 (by omega) e1 (by omega) (fun q hq => by cases hq; rfl))⟩
      case sl id off n cap sz =>
        by_cases hsz : sz = i.size
        case neg => rw [if_neg hsz] at h1; cases h1
        rw [if_pos hsz] at h1
        subst hsz
        cases mx with
        | none =>
          obtain ⟨hh, h2, hb⟩ := bound_some h1
          obtain ⟨l, hk, hb'⟩ := bound_some h2
          refine ⟨_, hk, fun {B0 w0 E w ok u lo' hi2 mx'} hM hx hl hh' hm => ?_⟩
          have := hm.none_right; subst this
          obtain ⟨a, cp, rfl, hn, hcap⟩ := rep_sl_inv hx
          have g1 := hh'.bound hb
          have g2 := hl.bound hb'
          have hbd := run_bounds2 (P := P) (w := w) (isSlice := true) hn g1 g2
          have e1 : hh ≤ n := by rcases hb with ⟨_, h⟩ | ⟨_, _, h⟩ <;> omega
          have e2 : l ≤ hh := by rcases hb' with ⟨_, h⟩ | ⟨_, _, h⟩ <;> omega
          exact ⟨_, run_slice_slice hu hi' hbd, rep_slice hx e2 (by omega) (Nat.le_refl _) (cap_map hcap)⟩
        | some mq =>
          obtain ⟨m, h2, hbm⟩ := bound_some h1
          cases hi with
          | none => cases h2
          | some hq =>
            obtain ⟨hh, h3, hb⟩ := bound_some h2
            obtain ⟨l, hk, hb'⟩ := bound_some h3
            refine ⟨_, hk, fun {B0 w0 E w ok u lo' hi2 mx'} hM hx hl hh' hm => ?_⟩
            obtain ⟨a, cp, rfl, hn, hcap⟩ := rep_sl_inv hx
            have g1 := hh'.bound hb
            have g2 := hl.bound hb'
            have g3 := hm.bound hbm
            have e3 : m ≤ n := by rcases hbm with ⟨h, _⟩ | ⟨_, _, h⟩; cases h; exact h
            have e1 : hh ≤ m := by rcases hb with ⟨h, _⟩ | ⟨_, _, h⟩; cases h; exact h
            have e2 : l ≤ hh := by rcases hb' with ⟨_, h⟩ | ⟨_, _, h⟩ <;> omega
            rcases g1 with ⟨rfl, _⟩ | ⟨k1, rfl, _⟩
            · exact hh'.elim
            rcases g3 with ⟨rfl, _⟩ | ⟨k3, rfl, _⟩
            · exact hm.elim
            have hbd := run_bounds3 (P := P) (w := w) (isSlice := true) (cap := cp) (len := n) (kh := k1) (km := k3) (m := m) (by omega) e1 g2
            exact ⟨_, run_slice_slice hu hi' hbd, rep_slice hx e2 e1 (by omega) (fun q hq => by cases hq; rfl)⟩
    case array n e =>
      obtain ⟨i, hi', h1⟩ := Option.bind_eq_some_iff.1 h0
      clear h0
      cases x <;> (try simp only at h1) <;> try (cases h1; done)
      case ptr id off =>
        split at h1
        · cases h1
        rename_i hno
        have hmx : mx = none := by cases mx with
          | none => rfl
          | some _ => simp at hno
        subst hmx
        obtain ⟨hh, h2, hb⟩ := bound_some h1
        obtain ⟨l, hk, hb'⟩ := bound_some h2
        refine ⟨_, hk, fun {B0 w0 E w ok u lo' hi2 mx'} hM hx hl hh' hm => ?_⟩
        have := hm.none_right; subst this
        have g1 := hh'.bound hb
        have g2 := hl.bound hb'
        have e1 : hh ≤ n := by rcases hb with ⟨_, h⟩ | ⟨_, _, h⟩ <;> omega
        have e2 : l ≤ hh := by rcases hb' with ⟨_, h⟩ | ⟨_, _, h⟩ <;> omega
        cases hx with
        | ptr hE =>
          rename_i b m
          have hbd := run_bounds2 (P := P) (w := w) (isSlice := false) (Nat.le_refl n) g1 g2
          obtain ⟨_, c, e', B, _, hs, _, hB, hc⟩ := hM.loc _ _ _ hE
          have hfit : off + n * i.size ≤ m := by
            have h3 : off + n * i.size ≤ B.size := by simpa [hB] using hno
            have h4 : B.size ≤ c.size := by
              cases B with
              | dead => exact hc.elim
              | d q cs => have := hc.2.1; simp at this; simp [Blk.size]; omega
              | a q cs => have := hc.2.1; simp at this; simp [Blk.size]; omega
            omega
          have hS : Rep E w ok (.slice (some ⟨b, off, none⟩) n n) (.sl id off n (some n) i.size) := Rep.sl hE (Nat.le_refl n) (fun q hq => by cases hq; rfl) hfit (.inl rfl)
          have := rep_slice hS e2 e1 (Nat.le_refl n) (c' := some (n - l)) (fun q hq => by cases hq; rfl)
          refine ⟨_, run_slice_array hu hi' hbd, ?_⟩
          by_cases hnl : n = l
          · rw [if_pos hnl] at this ⊢; exact this
          · rw [if_neg hnl] at this ⊢; exact this
      case lp cs off =>
        split at h1
        · cases h1
        rename_i hno
        have hmx : mx = none := by cases mx with
          | none => rfl
          | some _ => simp at hno
        subst hmx
        obtain ⟨hh, h2, hb⟩ := bound_some h1
        obtain ⟨l, hk, hb'⟩ := bound_some h2
        refine ⟨_, hk, fun {B0 w0 E w ok u lo' hi2 mx'} hM hx hl hh' hm => ?_⟩
        have := hm.none_right; subst this
        have g1 := hh'.bound hb
        have g2 := hl.bound hb'
        have e1 : hh ≤ n := by rcases hb with ⟨_, h⟩ | ⟨_, _, h⟩ <;> omega
        have e2 : l ≤ hh := by rcases hb' with ⟨_, h⟩ | ⟨_, _, h⟩ <;> omega
        cases hx with
        | lp hok h1' hcell hrep =>
          rename_i b base f
          have hbd := run_bounds2 (P := P) (w := w) (isSlice := false) (Nat.le_refl n) g1 g2
          have hD : RepD w ok (.slice (some ⟨b, base + off, none⟩) n n) (.list n (some n) (cs.drop off)) := by
            refine .list (f := fun j => f (off + j)) hok (Nat.le_refl n) (fun q hq => by cases hq; rfl) (fun d hd => h1' d (List.mem_of_mem_drop hd)) (fun j hj => ?_) (fun j d hd => ?_)
            · simp at hj
              rw [Nat.add_assoc]; exact hcell _ (by omega)
            · rw [List.getElem?_drop] at hd; exact hrep _ d hd
          have := repD_slice (s := i.size) hD e2 e1 e1 (Nat.le_refl n) (c' := some (n - l)) (fun q hq => by cases hq; rfl)
          rw [List.drop_drop] at this
          refine ⟨_, run_slice_array hu hi' hbd, .d ?_⟩
          by_cases hnl : n = l
          · rw [if_pos hnl] at this ⊢; exact this
          · rw [if_neg hnl] at this ⊢; exact this

end Go.Ev
