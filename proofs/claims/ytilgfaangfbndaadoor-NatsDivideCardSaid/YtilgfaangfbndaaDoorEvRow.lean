/-
  What an argument of a row stands for; the law that says 'true' whatever the input.
-/
import Derived.Test.YtilgfaangfbndaaDoorEvFun
import Derived.ProofKit
import Derived.OpenShut
import Derived.Carry
set_option linter.unusedSimpArgs false
set_option linter.unusedVariables false
namespace Go.Ev
open Go Go.RowKit Go.ChangeShapes Go.WideShapes Go.ChangeAt
variable {P : Program}

/-- Fields one behind the other, from 'off' to 'n'. -/
def offsB (P : Program) : Nat → List Field → Nat → Bool
  | off, [], n => off == n
  | off, f :: fs, n => f.offset == off && offsB P (off + P.cellsOf f.type) fs n

/-- Types of data, closed under their parts. -/
def closedB (P : Program) (ts : List TypeId) : Bool := ts.all fun t =>
  match P.underlying t with
  | some .bool | some .string => P.cellsOf t == 1
  | some (.int _) => P.cellsOf t == 1
  | some (.slice e) => P.cellsOf t == 1 && ts.contains e && decide (0 < P.cellsOf e)
  | some (.struct fs) => offsB P 0 fs.toList (P.cellsOf t) && fs.toList.all fun f => ts.contains f.type
  | some (.array n e) => ts.contains e && P.cellsOf t == n * P.cellsOf e
  | _ => false

/-- The shape of a type's cells. -/
def Fits (P : Program) : Nat → TypeId → List D → Prop
  | 0, _, _ => False
  | n + 1, t, ds =>
    match P.underlying t with
    | some .bool => ∃ b, ds = [.v (.bool b)]
    | some (.int k) => ∃ i, ds = [.v (.int k i)] ∧ (Lit.int k i).wf = true
    | some .string => ∃ s, ds = [.v (.string s)] ∧ s.size ≤ maxLen
    | some (.slice e) => ∃ m cp cs, ds = [.list m (some cp) cs] ∧ m ≤ cp ∧ cp ≤ maxLen ∧ cs.length = m * P.cellsOf e ∧ ∀ i, i < m → Fits P n e ((cs.drop (i * P.cellsOf e)).take (P.cellsOf e))
    | some (.struct fs) => ds.length = P.cellsOf t ∧ ∀ f, f ∈ fs.toList → Fits P n f.type ((ds.drop f.offset).take (P.cellsOf f.type))
    | some (.array m e) => ds.length = P.cellsOf t ∧ ∀ i, i < m → Fits P n e ((ds.drop (i * P.cellsOf e)).take (P.cellsOf e))
    | _ => False

/-- Rows chosen one by one, laid one behind the other. -/
theorem rows_of {c : Nat} {Q : Nat → List D → Prop} : ∀ (m : Nat), (∀ i, i < m → ∃ l : List D, l.length = c ∧ Q i l) → ∃ L : List D, L.length = m * c ∧ ∀ i, i < m → Q i ((L.drop (i * c)).take c)
  | 0, _ => ⟨[], by simp, fun i hi => by omega⟩
  | m + 1, h => by
    obtain ⟨L, hL, hQ⟩ := rows_of m (fun i hi => h i (by omega))
    obtain ⟨l, hl, hq⟩ := h m (by omega)
    have hmul : (m + 1) * c = m * c + c := Nat.succ_mul m c
    refine ⟨L ++ l, by simp [hL, hl, hmul], fun i hi => ?_⟩
    by_cases him : i < m
    · have h1 : (i + 1) * c ≤ m * c := Nat.mul_le_mul_right _ him
      have h2 : (i + 1) * c = i * c + c := Nat.succ_mul i c
      rw [List.drop_append_of_le_length (by omega), List.take_append_of_le_length (by simp; omega)]
      exact hQ i him
    · have : i = m := by omega
      subst this
      rw [show i * c = L.length from hL.symm, List.drop_left, List.take_of_length_le (by omega)]
      exact hq

section
variable {H : Type} {enc : TypeId × Value → H} {w : World} {held : Bool}

theorem getElem?_rows {α : Type} {L : List α} {c j : Nat} (hc : 0 < c) {x : α} (h : L[j]? = some x) : ((L.drop ((j / c) * c)).take c)[j % c]? = some x := by
  rw [List.getElem?_take, if_pos (Nat.mod_lt _ hc), List.getElem?_drop]
  have : j / c * c + j % c = j := by rw [Nat.mul_comm]; exact Nat.div_add_mod j c
  rw [this]; exact h

/-- What reads as data stands for data. -/
theorem trod_fits {ts : List TypeId} (hcl : closedB P ts = true) : ∀ (fuel : Nat) (t : TypeId) (cs : List Value) (x : DataW H × List MemPlace), t ∈ ts →
    DataW.trod enc P w 0 (fun _ => true) held fuel t cs = some x → ∃ ds, RepDs w (okAll w) cs ds ∧ (∀ d, d ∈ ds → d.one = true) ∧ Fits P fuel t ds ∧ cs.length = P.cellsOf t
  | 0, t, cs, x, _, h => by simp [DataW.trod] at h
  | n + 1, t, cs, x, ht, h => by
    have hc := List.all_eq_true.1 hcl t ht
    have one : ∀ {v : Value}, leaf v = true → cs = [v] → P.cellsOf t = 1 → (Fits P (n + 1) t [.v v]) → ∃ ds, RepDs w (okAll w) cs ds ∧ (∀ d, d ∈ ds → d.one = true) ∧ Fits P (n + 1) t ds ∧ cs.length = P.cellsOf t := fun {v} hl hcs h1 hf =>
      ⟨[.v v], by
        subst hcs
        refine ⟨rfl, fun i x d hx hd => ?_⟩
        cases i with
        | zero => simp at hx hd; subst hx hd; exact .v hl
        | succ i => simp at hx, by simp [D.one], hf, by rw [hcs, h1]; rfl⟩
    cases hu : P.underlying t with
    | none => rw [hu] at hc; cases hc
    | some d =>
      rw [hu] at hc
      cases d <;> simp only at hc <;> try (cases hc; done)
      case bool =>
        obtain ⟨b, rfl, _⟩ := DataW.trod_bool hu h
        exact one rfl rfl (by simpa using hc) (by simp only [Fits, hu]; exact ⟨b, rfl⟩)
      case int k =>
        obtain ⟨i, rfl, _, hw⟩ := DataW.trod_int hu h
        exact one rfl rfl (by simpa using hc) (by simp only [Fits, hu]; exact ⟨i, rfl, hw⟩)
      case string =>
        obtain ⟨s, rfl, _, hs⟩ := DataW.trod_string hu h
        exact one rfl rfl (by simpa using hc) (by simp only [Fits, hu]; exact ⟨s, rfl, hs⟩)
      case slice e =>
        simp only [Bool.and_eq_true, beq_iff_eq, decide_eq_true_eq] at hc
        obtain ⟨⟨hc1, hce⟩, hpos⟩ := hc
        have hem : e ∈ ts := by simpa using hce
        have fin : ∀ {a : Option Addr} {m cp : Nat} {cs' : List D}, cs = [.slice a m cp] → RepD w (okAll w) (.slice a m cp) (.list m (some cp) cs') → m ≤ cp → cp ≤ maxLen → cs'.length = m * P.cellsOf e →
            (∀ i, i < m → Fits P n e ((cs'.drop (i * P.cellsOf e)).take (P.cellsOf e))) → ∃ ds, RepDs w (okAll w) cs ds ∧ (∀ d, d ∈ ds → d.one = true) ∧ Fits P (n + 1) t ds ∧ cs.length = P.cellsOf t := fun {a m cp cs'} hcs hr h1 h2 h3 h4 =>
          ⟨[.list m (some cp) cs'], by
            subst hcs
            refine ⟨rfl, fun i x d hx hd => ?_⟩
            cases i with
            | zero => simp at hx hd; subst hx hd; exact hr
            | succ i => simp at hx, by simp [D.one], by simp only [Fits, hu]; exact ⟨m, cp, cs', rfl, h1, h2, h3, h4⟩, by rw [hcs, hc1]; rfl⟩
        rcases DataW.trod_slice hu h with ⟨rfl, _⟩ | ⟨a, len, cap, elems, rest, n', hn', rfl, _, _, hlc, hcm, hlen, hel, hsp, _⟩
        · exact fin rfl (.nil (.inr rfl)) (Nat.le_refl _) (Nat.zero_le _) (by simp) (fun i hi => by omega)
        · have hnn : n' = n := by omega
          subst hnn
          obtain ⟨hrl, hrest⟩ := hsp rfl
          -- each element
          have each : ∀ i, i < len → ∃ l : List D, l.length = P.cellsOf e ∧ ((∀ d, d ∈ l → d.one = true) ∧ Fits P n' e l ∧ ∀ (j : Nat) d, l[j]? = some d → ∃ v, w.cell? (a.add (i * P.cellsOf e + j)) = some v ∧ RepD w (okAll w) v d) := fun i hi => by
            have h1 := hel i hi
            rw [List.getElem?_eq_getElem (by omega)] at h1
            obtain ⟨vs, hvs, h2⟩ := Option.bind_eq_some_iff.1 h1
            obtain ⟨ds, hr, ho, hf, hl⟩ := trod_fits hcl n' e vs _ hem h2
            obtain ⟨_, hvl, hcell⟩ := World.cells?_some hvs
            refine ⟨ds, by rw [← hr.1, hvl], ho, hf, fun j d hj => ?_⟩
            have hjl : j < vs.length := by rw [hr.1]; exact (List.getElem?_eq_some_iff.1 hj).1
            have hv := List.getElem?_eq_getElem hjl
            refine ⟨vs[j], ?_, hr.2 j _ d hv hj⟩
            rw [← hv, ← hcell j (by omega)]
            congr 1
            unfold Addr.add
            by_cases h0 : i * P.cellsOf e = 0
            · simp [h0]
            · by_cases hj0 : j = 0
              · simp [hj0]
              · simp [h0, hj0, Nat.add_assoc]
          obtain ⟨L, hL, hQ⟩ := rows_of len each
          by_cases hcap : cap = 0
          · have hl0 : len = 0 := by omega
            subst hcap hl0
            have : L = [] := List.eq_nil_of_length_eq_zero (by rw [hL]; simp)
            subst this
            exact fin rfl (.nil (.inr rfl)) (Nat.le_refl _) hcm (by simp) (fun i hi => by omega)
          · -- the address has no spot, and its block is there
            have hcell0 : ∃ v, w.cell? a = some v := by
              by_cases hl0 : len = 0
              · subst hl0
                have h1 := hrest 0 (by omega)
                rw [List.getElem?_eq_getElem (by omega)] at h1
                obtain ⟨vs, hvs, _⟩ := Option.bind_eq_some_iff.1 h1
                obtain ⟨_, hvl, hcell⟩ := World.cells?_some hvs
                have := hcell 0 hpos
                rw [List.getElem?_eq_getElem (by omega)] at this
                exact ⟨_, by simpa [Addr.add] using this⟩
              · have h1 := hel 0 (by omega)
                rw [List.getElem?_eq_getElem (by omega)] at h1
                obtain ⟨vs, hvs, _⟩ := Option.bind_eq_some_iff.1 h1
                obtain ⟨_, hvl, hcell⟩ := World.cells?_some hvs
                have := hcell 0 hpos
                rw [List.getElem?_eq_getElem (by omega)] at this
                exact ⟨_, by simpa [Addr.add] using this⟩
            obtain ⟨v0, hv0⟩ := hcell0
            obtain ⟨b, off, spot⟩ := a
            have hsb : spot = none ∧ b < w.heap.size := by
              unfold World.cell? at hv0
              split at hv0
              · rename_i c _ _ hb
                cases spot with
                | none => exact ⟨rfl, (Array.getElem?_eq_some_iff.1 hb).1⟩
                | some s => simp at hv0
              · cases hv0
            obtain ⟨rfl, hblt⟩ := hsb
            refine fin rfl (.list (f := fun j => (w.cell? ⟨b, off + j, none⟩).getD undef) hblt hlc (fun c hc => by cases hc; rfl) (fun d hd => ?_) (fun j hj => ?_) (fun j d hd => ?_)) hlc hcm hL (fun i hi => (hQ i hi).2.1)
            · obtain ⟨j, hj⟩ := List.getElem?_of_mem hd
              have hjl := (List.getElem?_eq_some_iff.1 hj).1
              have hdiv : j / P.cellsOf e < len := Nat.div_lt_of_lt_mul (by rw [Nat.mul_comm]; omega)
              exact (hQ _ hdiv).1 d (List.mem_of_getElem? (getElem?_rows hpos hj))
            · have hj' := List.getElem?_eq_getElem hj
              have hdiv : j / P.cellsOf e < len := Nat.div_lt_of_lt_mul (by rw [Nat.mul_comm]; omega)
              obtain ⟨v, hv, _⟩ := (hQ _ hdiv).2.2 _ _ (getElem?_rows hpos hj')
              have e1 : j / P.cellsOf e * P.cellsOf e + j % P.cellsOf e = j := by rw [Nat.mul_comm]; exact Nat.div_add_mod j _
              rw [e1, Addr.add_mid] at hv
              rw [hv]; rfl
            · have hjl := (List.getElem?_eq_some_iff.1 hd).1
              have hdiv : j / P.cellsOf e < len := Nat.div_lt_of_lt_mul (by rw [Nat.mul_comm]; omega)
              obtain ⟨v, hv, hr⟩ := (hQ _ hdiv).2.2 _ _ (getElem?_rows hpos hd)
              have e1 : j / P.cellsOf e * P.cellsOf e + j % P.cellsOf e = j := by rw [Nat.mul_comm]; exact Nat.div_add_mod j _
              rw [e1, Addr.add_mid] at hv
              rw [hv]; exact hr
      case struct fs =>
        simp only [Bool.and_eq_true] at hc
        obtain ⟨hoff, hall⟩ := hc
        obtain ⟨xs, n', hn', _, hcl', hxl, hf⟩ := DataW.trod_struct hu h
        have hnn : n' = n := by omega
        subst hnn
        have key : ∀ (gs : List Field) (off : Nat), (∀ f, f ∈ gs → f ∈ fs.toList) → offsB P off gs (P.cellsOf t) = true → off ≤ cs.length → ∃ ds, RepDs w (okAll w) (cs.drop off) ds ∧ (∀ d, d ∈ ds → d.one = true) ∧
            ∀ f, f ∈ gs → off ≤ f.offset ∧ Fits P n' f.type ((ds.drop (f.offset - off)).take (P.cellsOf f.type)) := by
          intro gs
          induction gs with
          | nil =>
            intro off _ ho hle
            have : off = P.cellsOf t := by simpa [offsB] using ho
            exact ⟨[], ⟨by simp [this, hcl'], fun i x d _ hd => by simp at hd⟩, by simp, fun f hf => by simp at hf⟩
          | cons f gs ih =>
            intro off hm ho hle
            simp only [offsB, Bool.and_eq_true, beq_iff_eq] at ho
            obtain ⟨hfo, hrest⟩ := ho
            obtain ⟨i, hi⟩ := List.getElem?_of_mem (hm f (by simp))
            have h1 := hf i f (by simpa using hi)
            have hil : i < xs.length := by rw [hxl]; have := (List.getElem?_eq_some_iff.1 hi).1; simpa using this
            rw [List.getElem?_eq_getElem hil] at h1
            have hft : f.type ∈ ts := by simpa using List.all_eq_true.1 hall f (hm f (by simp))
            obtain ⟨d1, hr1, ho1, hf1, hl1⟩ := trod_fits hcl n' f.type _ _ hft h1
            have hle2 : off + P.cellsOf f.type ≤ cs.length := by
              rw [hfo] at hl1
              simp at hl1
              omega
            obtain ⟨d2, hr2, ho2, hf2⟩ := ih (off + P.cellsOf f.type) (fun f hf => hm f (by simp [hf])) hrest hle2
            have hd1 : d1.length = P.cellsOf f.type := by rw [← hr1.1, hl1]
            have hsplit : cs.drop off = (cs.drop f.offset).take (P.cellsOf f.type) ++ cs.drop (off + P.cellsOf f.type) := by
              rw [hfo, ← List.drop_drop]
              exact (List.take_append_drop _ _).symm
            refine ⟨d1 ++ d2, by rw [hsplit]; exact hr1.append hr2, fun d hd => ?_, fun g hg => ?_⟩
            · rcases List.mem_append.1 hd with hd | hd
              · exact ho1 d hd
              · exact ho2 d hd
            · rcases List.mem_cons.1 hg with rfl | hg
              · refine ⟨by omega, ?_⟩
                rw [hfo, Nat.sub_self, List.drop_zero, ← hd1, List.take_left]
                exact hf1
              · obtain ⟨hge, hfit⟩ := hf2 g hg
                refine ⟨by omega, ?_⟩
                rw [List.drop_append, List.drop_eq_nil_of_le (by omega), List.nil_append, hd1]
                rw [show g.offset - off - P.cellsOf f.type = g.offset - (off + P.cellsOf f.type) by omega]
                exact hfit
        obtain ⟨ds, hr, ho, hfit⟩ := key fs.toList 0 (fun _ h => h) hoff (Nat.zero_le _)
        rw [List.drop_zero] at hr
        exact ⟨ds, hr, ho, by simp only [Fits, hu]; exact ⟨by rw [← hr.1, hcl'], fun f hf => by simpa using (hfit f hf).2⟩, hcl'⟩
      case array m e =>
        simp only [Bool.and_eq_true, beq_iff_eq] at hc
        obtain ⟨hce, hsz⟩ := hc
        have hem : e ∈ ts := by simpa using hce
        obtain ⟨xs, n', hn', _, hcl', hxl, hf⟩ := DataW.trod_array hu h
        have hnn : n' = n := by omega
        subst hnn
        have each : ∀ i, i < m → ∃ l : List D, l.length = P.cellsOf e ∧ ((∀ d, d ∈ l → d.one = true) ∧ Fits P n' e l ∧ RepDs w (okAll w) ((cs.drop (i * P.cellsOf e)).take (P.cellsOf e)) l) := fun i hi => by
          have h1 := hf i hi
          rw [List.getElem?_eq_getElem (by omega)] at h1
          obtain ⟨ds, hr, ho, hfit, hl⟩ := trod_fits hcl n' e _ _ hem h1
          exact ⟨ds, by rw [← hr.1, hl], ho, hfit, hr⟩
        obtain ⟨L, hL, hQ⟩ := rows_of m each
        have hlen : cs.length = L.length := by rw [hcl', hsz, hL]
        have hpos : ∀ (j : Nat), j < L.length → 0 < P.cellsOf e := fun j hj => by
          rcases Nat.eq_zero_or_pos (P.cellsOf e) with h0 | h0
          · rw [h0, Nat.mul_zero] at hL; omega
          · exact h0
        refine ⟨L, ⟨hlen, fun j x d hx hd => ?_⟩, fun d hd => ?_, by simp only [Fits, hu]; exact ⟨by rw [← hlen, hcl'], fun i hi => (hQ i hi).2.1⟩, hcl'⟩
        · have hjl := (List.getElem?_eq_some_iff.1 hd).1
          have hp := hpos j hjl
          have hdiv : j / P.cellsOf e < m := Nat.div_lt_of_lt_mul (by rw [Nat.mul_comm]; omega)
          exact (hQ _ hdiv).2.2.2 _ x d (getElem?_rows hp hx) (getElem?_rows hp hd)
        · obtain ⟨j, hj⟩ := List.getElem?_of_mem hd
          have hjl := (List.getElem?_eq_some_iff.1 hj).1
          have hp := hpos j hjl
          have hdiv : j / P.cellsOf e < m := Nat.div_lt_of_lt_mul (by rw [Nat.mul_comm]; omega)
          exact (hQ _ hdiv).1 d (List.mem_of_getElem? (getElem?_rows hp hj))

/-- What an argument stands for, by its type. -/
def ArgFits (P : Program) (t : TypeId) (d : D) : Prop :=
  ∃ n, match P.underlying t with
    | some (.struct _) | some (.array _ _) => ∃ cs, d = .agg cs ∧ Fits P n t cs
    | _ => Fits P n t [d]

/-- An argument: what it stands for. -/
theorem arg_fits {ts : List TypeId} (hcl : closedB P ts = true) {t : TypeId} (ht : t ∈ ts) {r : Reach} {b0 : Nat} {v : Value} {d : DataW H} {ps : List MemPlace} (hval : Value.okWide P w r b0 t v) (h : DataW.Trod enc P w 0 (fun _ => true) held t v d ps) :
    ∃ x, RepD w (okAll w) v x ∧ ArgFits P t x := by
  obtain ⟨fuel, h⟩ := h
  obtain ⟨ds, h1, h2, h3, h4⟩ := trod_fits hcl fuel t _ _ ht h
  have hc := List.all_eq_true.1 hcl t ht
  have row : (∃ cs, v = .agg cs) → RepD w (okAll w) v (.agg ds) := by
    rintro ⟨cs, rfl⟩
    have e : (Value.agg cs).cells.toList = cs.toList := rfl
    rw [e] at h1
    have := RepD.agg (w := w) (ok := okAll w) h1.1 h2 h1.2
    simpa using this
  have cell : v.oneCell' = true → P.cellsOf t = 1 → ∃ d, ds = [d] ∧ RepD w (okAll w) v d := fun hv hone => by
    rw [cells_one hv] at h1
    match ds, h1 with
    | [d], h1 => exact ⟨d, rfl, h1.2 0 v d rfl rfl⟩
    | [], h1 => exact absurd h1.1 (by simp)
    | _ :: _ :: _, h1 => exact absurd h1.1 (by simp)
  cases hu : P.underlying t with
  | none => rw [hu] at hc; cases hc
  | some q =>
    unfold Value.okWide at hval
    rw [hu] at hc hval
    cases q <;> simp only at hc hval <;> try (cases hc; done)
    case struct fs => obtain ⟨cs, rfl, _⟩ := hval; exact ⟨_, row ⟨cs, rfl⟩, fuel, by rw [hu]; exact ⟨ds, rfl, h3⟩⟩
    case array m e => obtain ⟨cs, rfl, _⟩ := hval; exact ⟨_, row ⟨cs, rfl⟩, fuel, by rw [hu]; exact ⟨ds, rfl, h3⟩⟩
    all_goals
      have hv : v.oneCell' = true := by
        unfold Cell.okWide Cell.ok at hval
        rw [hu] at hval
        cases v <;> first | rfl | exact hval.elim
      have h1c : P.cellsOf t = 1 := by
        first
          | exact of_decide_eq_true (by simpa using hc)
          | (simp only [Bool.and_eq_true, beq_iff_eq] at hc; exact hc.1.1)
          | simpa using hc
      obtain ⟨d, rfl, hd⟩ := cell hv h1c
      exact ⟨d, hd, fuel, by rw [hu]; exact h3⟩

theorem args_fit {ts : List TypeId} (hcl : closedB P ts = true) : ∀ {ps : List TypeId} {vs : List Value} {ds : List (DataW H)} {pl : List MemPlace}, (∀ t, t ∈ ps → t ∈ ts) →
    (∀ (j : Nat) t v, ps[j]? = some t → vs[j]? = some v → ∃ r b0, Value.okWide P w r b0 t v) → DataW.TrodAll enc P w 0 (fun _ => true) held ps vs ds pl →
    ∃ xs : List D, RepDs w (okAll w) vs xs ∧ xs.length = ps.length ∧ ∀ (j : Nat) t x, ps[j]? = some t → xs[j]? = some x → ArgFits P t x
  | [], [], [], pl, _, _, _ => ⟨[], ⟨rfl, fun i x d hx => by simp at hx⟩, rfl, fun j t x hj => by simp at hj⟩
  | t :: ps, v :: vs, d :: ds, pl, hts, hval, h => by
    obtain ⟨p, q, h1, h2, _⟩ := h
    obtain ⟨r, b0, hv⟩ := hval 0 t v rfl rfl
    obtain ⟨x, hx, hf⟩ := arg_fits hcl (hts t (by simp)) hv h1
    obtain ⟨xs, hxs, hl, hfs⟩ := args_fit hcl (fun t ht => hts t (by simp [ht])) (fun j t v hj hv => hval (j + 1) t v (by simpa using hj) (by simpa using hv)) h2
    refine ⟨x :: xs, ⟨by simp [hxs.1], fun i y d hy hd => ?_⟩, by simp [hl], fun j t' y hj hy => ?_⟩
    · cases i with
      | zero => simp at hy hd; subst hy hd; exact hx
      | succ i => exact hxs.2 i y d (by simpa using hy) (by simpa using hd)
    · cases j with
      | zero => simp at hj hy; subst hj hy; exact hf
      | succ j => exact hfs j t' y (by simpa using hj) (by simpa using hy)
  | [], _ :: _, _, _, _, _, h => h.elim
  | [], [], _ :: _, _, _, _, h => h.elim
  | _ :: _, [], _, _, _, _, h => h.elim
  | _ :: _, _ :: _, [], _, _, _, h => h.elim

/-- Behind the call the arguments read as before it. -/
theorem trodAll_stays (hl : laidOutB P = true) {W W' : World} {sp : Nat → Bool} (hb : Below W.heap.size W W') : ∀ {ts : List TypeId} {vs : List Value} {ds : List (DataW H)} {ps : List MemPlace}, (∀ t, t ∈ ts → P.readableRec t = true ∧ t < P.types.size) →
    DataW.TrodAll enc P W 0 (fun _ => true) true ts vs ds ps → (∀ p, p ∈ ps → p.block < W.heap.size ∧ sp p.block = true) → DataW.TrodAll enc P W' 0 sp true ts vs ds ps
  | [], [], [], ps, _, h, _ => h
  | t :: ts, v :: vs, d :: ds, ps, hr, ⟨p, q, h1, h2, he⟩, hp => by
    subst he
    exact ⟨p, q, WideElems.Trod_stays hl (hr t (by simp)).1 (hr t (by simp)).2 h1 (fun x hx => hb.same (hp x (by simp [hx])).1) (fun x hx => (hp x (by simp [hx])).2),
      trodAll_stays hl hb (fun t ht => hr t (by simp [ht])) h2 (fun x hx => hp x (by simp [hx])), rfl⟩
  | [], _ :: _, _, _, _, h, _ => h.elim
  | [], [], _ :: _, _, _, h, _ => h.elim
  | _ :: _, [], _, _, _, h, _ => h.elim
  | _ :: _, _ :: _, [], _, _, h, _ => h.elim

/-- THE LAW's POST: true, and the arguments read as before. -/
theorem law_post (hl : laidOutB P = true) {f : Func} {s : ChangeSpec} {fresh handsOn again : Bool} {tb : TypeId} (htb : P.underlying tb = some .bool) (hres : f.resultTypes = #[tb]) (hvars : s.vars = [])
    (hr : ∀ t, t ∈ f.params.toList → P.readableRec t = true ∧ t < P.types.size) (hfn : ∀ (H : Type) (ds : List (DataW H)), ds.length = f.params.size → s.fn H ds = { results := [.lit (.bool true)], args := ds })
    {W W' : World} {args : Array Value} {ds gs : List (DataW H)} {before : List MemPlace} (hW : DataW.Whole enc P f.params.toList s.vars false W args.toList ds gs before) (hb : Below W.heap.size W W') :
    s.post enc P f false fresh handsOn again W args (.bool true) W' := by
  have hlt := hW.lt
  have hW0 := hW
  obtain ⟨p, q, hA, hV, rfl, hz, hn⟩ := hW
  rw [hvars] at hV
  obtain ⟨rfl, rfl⟩ := trodVars_none hV
  have hlen : ds.length = f.params.size := by
    have : ∀ {ts : List TypeId} {vs : List Value} {ds : List (DataW H)} {ps : List MemPlace}, DataW.TrodAll enc P W 0 (fun _ => true) true ts vs ds ps → ds.length = ts.length := by
      intro ts
      induction ts with
      | nil => intro vs ds ps h; cases vs <;> cases ds <;> first | rfl | exact h.elim
      | cons t ts ih =>
        intro vs ds ps h
        cases vs <;> cases ds <;> first | exact h.elim | skip
        obtain ⟨_, _, _, h2, _⟩ := h
        simp [ih h2]
    simpa using this hA
  have hspec : s.fn H (ds ++ []) = { results := [.lit (.bool true)], args := ds } := by rw [List.append_nil]; exact hfn H ds hlen
  have hres' : ∀ (b : Nat) (sp : Nat → Bool) (hd : Bool), DataW.TrodAll enc P W' b sp hd f.resultTypes.toList ((Value.bool true).resultList f.resultTypes.size) (s.fn H (ds ++ [])).results [] := fun b sp hd => by
    rw [hspec, hres]
    exact trodAll_cons_mk (shut_bool htb _) trodAll_mk0
  have hargs : ∀ sp : Nat → Bool, (∀ x ∈ p ++ [], sp x.block = true) → DataW.TrodAll enc P W' 0 sp true f.params.toList args.toList (s.fn H (ds ++ [])).args p := fun sp hsp => by
    rw [hspec]
    exact trodAll_stays hl hb hr hA (fun x hx => ⟨hlt x (by simp [hx]), hsp x (by simp [hx])⟩)
  have hvars' : ∀ sp : Nat → Bool, DataW.TrodVars enc P W' sp s.vars (s.fn H (ds ++ [])).vars [] := fun sp => by rw [hvars, hspec]; rfl
  have hold : ∀ x ∈ p ++ [], (fun b => decide (b < W.heap.size)) x.block = true := fun x hx => by simpa using hlt x hx
  refine ⟨ds, [], p ++ [], [], p, [], hW0, hres' _ _ _, hargs _ hold, hvars' _, hb.frame _, fun _ => ?_⟩
  refine ⟨ok_one hres rfl (okWide_bool_mk htb _), _, _, ([] ++ p) ++ [], ⟨[] ++ p, [], trodAll_append (hargs _ (fun _ _ => rfl)) (hres' _ _ _), hvars' _, rfl, ?_, ?_⟩, ?_⟩
  · intro b off hp
    have hp' : MemPlace.cell b off ∈ p ++ [] := by simpa using hp
    rw [hb.frozen (p := ⟨b, off, none⟩) (hlt _ hp')]
    exact hz b off hp'
  · intro ha; cases ha
  · intro x hx _
    simpa using hx

/-- THE LAW's CONTRACT: whatever the arguments stand for, the function answers 'true'. -/
theorem law_contract (hl : laidOutB P = true) {f : FuncId} {fn : Func} {s : ChangeSpec} {fresh handsOn again : Bool} {tb : TypeId} (htb : P.underlying tb = some .bool) (hres : fn.resultTypes = #[tb]) (hvars : s.vars = [])
    {ts : List TypeId} (hcl : closedB P ts = true) (hts : ∀ t, t ∈ fn.params.toList → t ∈ ts) (hr : ∀ t, t ∈ fn.params.toList → P.readableRec t = true ∧ t < P.types.size)
    (hfn : ∀ (H : Type) (ds : List (DataW H)), ds.length = fn.params.size → s.fn H ds = { results := [.lit (.bool true)], args := ds })
    (hdata : ∀ xs : List D, xs.length = fn.params.toList.length → (∀ (j : Nat) t x, fn.params.toList[j]? = some t → xs[j]? = some x → ArgFits P t x) → DataSem P f xs (.v (.bool true)))
    {W : World} {base : Nat} {args : Array Value} {ds gs : List (DataW H)} {before : List MemPlace} (hval : ∀ (j : Nat) t v, fn.params[j]? = some t → args[j]? = some v → Value.okWide P W .any base t v)
    (hW : DataW.Whole enc P fn.params.toList s.vars false W args.toList ds gs before) :
    Calls P f args W fun e W' => ∃ v, e = .returned v ∧ s.post enc P fn false fresh handsOn again W args v W' := by
  have hW0 := hW
  obtain ⟨p, q, hA, _, _, _, _⟩ := hW
  obtain ⟨xs, hxs, hlen, hfit⟩ := args_fit hcl hts (fun j t v hj hv => ⟨.any, base, hval j t v (by simpa using hj) (by simpa using hv)⟩) hA
  have := (hdata xs hlen hfit).2 (w := W) (ok := okAll W) (fun b hb => hb) hxs
  have e : args.toList.toArray = args := by simp
  rw [e] at this
  refine this.mono ?_
  rintro e W' ⟨u, ok', rfl, hb, _, hu⟩
  cases hu
  exact ⟨_, rfl, law_post hl htb hres hvars hr hfn hW0 hb⟩
end
end Go.Ev
