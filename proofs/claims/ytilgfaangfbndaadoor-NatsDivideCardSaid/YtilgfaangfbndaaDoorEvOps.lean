/-
  Each operation that only makes a value is sound: what it comes to in the abstract, the machine's operation comes to.
-/
import Derived.Test.YtilgfaangfbndaaDoorEvRep
import Derived.Deep.MidRow
namespace Go.Ev
open Go Go.RowKit
variable {R : Type} {P : Program}

theorem cut_some {α : Type} {n off size : Nat} {cs : List α} {k : List α → Option R} {r : R} (h : cut n cs off size k = some r) :
    ∃ xs, k xs = some r ∧ (cs.length = n → off + size ≤ n ∧ xs = (cs.drop off).take size) := by
  unfold cut at h
  split at h
  · rename_i hc
    refine ⟨_, h, fun hl => ⟨hc, ?_⟩⟩
    unfold cutL
    split
    · rename_i h0; rw [h0.1, List.drop_zero, List.take_of_length_le (by omega)]
    · rfl
  · cases h

theorem put_some {α : Type} {n off size : Nat} {cs xs : List α} {k : List α → Option R} {r : R} (h : put n cs off size xs k = some r) :
    ∃ ys, k ys = some r ∧ (cs.length = n → xs.length = size → off + size ≤ n ∧ ys = cs.take off ++ (xs ++ cs.drop (off + size))) := by
  unfold put at h
  split at h
  · rename_i hc
    refine ⟨_, h, fun hl hx => ⟨hc, ?_⟩⟩
    unfold putL
    split
    · rename_i h0; rw [h0.1, List.take_zero, List.nil_append, List.drop_of_length_le (by omega), List.append_nil]
    · rfl
  · cases h

theorem rdK_some {t : TypeDesc} {x : Option D} {k : AV → Option R} {r : R} (h : rdK t x k = some r) : ∃ d, x = some d ∧ k (.d d) = some r ∧ isRow t = false := by
  unfold rdK at h
  split at h
  · obtain ⟨i, hi, h'⟩ := Option.bind_eq_some_iff.1 h; clear h; have h := h'; clear h'
    unfold rdI at hi; split at hi
    · split at hi
      · rename_i he; cases hi; subst he; exact ⟨_, rfl, h, rfl⟩
      · cases hi
    · cases hi
  · obtain ⟨i, hi, h'⟩ := Option.bind_eq_some_iff.1 h; clear h; have h := h'; clear h'
    unfold rdB at hi; split at hi
    · cases hi; exact ⟨_, rfl, h, rfl⟩
    · cases hi
  · obtain ⟨i, hi, h'⟩ := Option.bind_eq_some_iff.1 h; clear h; have h := h'; clear h'
    unfold rdS at hi; split at hi
    · cases hi; exact ⟨_, rfl, h, rfl⟩
    · cases hi
  · obtain ⟨i, hi, h'⟩ := Option.bind_eq_some_iff.1 h; clear h; have h := h'; clear h'
    unfold rdL at hi; split at hi
    · cases hi; exact ⟨_, rfl, h, rfl⟩
    · cases hi
  · obtain ⟨i, hi, h'⟩ := Option.bind_eq_some_iff.1 h; clear h; have h := h'; clear h'
    unfold rdF at hi; split at hi
    · cases hi; exact ⟨_, rfl, h, rfl⟩
    · cases hi; exact ⟨_, rfl, h, rfl⟩
    · cases hi
  · cases h

theorem run_isAgg {t : TypeId} {d : TypeDesc} (hu : P.underlying t = some d) (w : World) : (isAgg t).run P w = .ok (isRow d) w := by
  unfold isAgg
  rw [Sem.run_bind, run_underlying hu w]
  cases d <;> simp [isRow]

theorem isRow_eq (d : TypeDesc) : d.isRow = isRow d := by cases d <;> rfl

theorem allD_some : ∀ {cs : List AV} {ds : List D}, allD cs = some ds → cs = ds.map .d
  | [], ds, h => by simp [allD] at h; simp [← h]
  | .d x :: r, ds, h => by
    simp only [allD] at h
    obtain ⟨e, he, h⟩ := Option.bind_eq_some_iff.1 h
    cases h
    simp [allD_some he]
  | .agg _ :: _, _, h | .tup _ :: _, _, h | .ptr _ _ :: _, _, h | .sl _ _ _ _ _ :: _, _, h | .lp _ _ :: _, _, h | .clo _ _ :: _, _, h | .junk :: _, _, h => by simp [allD] at h

section
variable {w : World} {ok : Nat → Prop} {E : Env}

theorem rep_mkAgg {vs : List Value} {cs : List AV} (hl : vs.length = cs.length) (h1 : ∀ c, c ∈ cs → c.one = true) (hr : ∀ (i : Nat) x c, vs[i]? = some x → cs[i]? = some c → Rep E w ok x c) :
    Rep E w ok (.agg vs.toArray) (mkAgg cs) := by
  unfold mkAgg
  cases hd : allD cs with
  | none => exact .agg hl h1 hr
  | some ds =>
    have := allD_some hd
    subst this
    refine .d (.agg (by simpa using hl) (fun d hd => by simpa [AV.one] using h1 (.d d) (List.mem_map_of_mem hd)) (fun i x d hx hd => ?_))
    have := hr i x (.d d) hx (by simp [hd])
    cases this; assumption

theorem rep_mkTup {vs : List Value} {cs : List AV} (hl : vs.length = cs.length) (hr : ∀ (i : Nat) x c, vs[i]? = some x → cs[i]? = some c → Rep E w ok x c) :
    Rep E w ok (.tuple vs.toArray) (mkTup cs) := by
  unfold mkTup
  cases hd : allD cs with
  | none => exact .tup hl hr
  | some ds =>
    have := allD_some hd
    subst this
    refine .d (.tup (by simpa using hl) (fun i x d hx hd => ?_))
    have := hr i x (.d d) hx (by simp [hd])
    cases this; assumption

/-- A run of cells, read as a row. -/
theorem row_of_cells {b o : Nat} {c : Array Value} {e : TypeId} {fr : Nat × Nat} (hb : w.heap[b]? = some (.cells c e fr)) (n : Nat) : w.rangeAt b o ((c.toList.drop o).take n) := by
  intro j v hv
  rw [cell_of_row w b (o + j) c e fr hb]
  rw [List.getElem?_take] at hv
  split at hv
  · rw [List.getElem?_drop] at hv; simpa using hv
  · cases hv
end

theorem load_sound {t : TypeId} {x : AV} {L : Heap} {k : AV → Heap → Option R} {r : R} (h0 : loadK P t x L k = some r) :
    ∃ v, k v L = some r ∧ ∀ {B0 w0 ok E w u}, Mem B0 w0 ok E L w → Rep E w ok u x → ∃ y, (Instr.loadAt t u).run P w = .ok y w ∧ Rep E w ok y v := by
  unfold loadK at h0
  obtain ⟨d, hu, h1⟩ := Option.bind_eq_some_iff.1 h0
  obtain ⟨i, hi, h⟩ := Option.bind_eq_some_iff.1 h1
  clear h0 h1
  have plain : ∀ {w : World} {b off : Nat} {z : Value}, isRow d = false → w.cell? ⟨b, off, none⟩ = some z → (Instr.loadAt t (.pointer (some ⟨b, off, none⟩))).run P w = .ok z w := by
    intro w b off z hrow hcell
    simp [Instr.loadAt, Instr.sureAddr, loadVar, Sem.run_bind, run_isAgg hu, hrow, load, Sem.run, hcell]
  cases x with
  | ptr id off =>
    simp only at h
    cases hB : L[id]? with
    | none => rw [hB] at h; cases h
    | some B =>
      rw [hB] at h
      cases B with
      | dead => cases h
      | d n cs =>
        simp only at h
        cases hrow : isRow d with
        | true =>
          rw [hrow, if_pos rfl] at h
          obtain ⟨xs, hk, hx⟩ := cut_some h
          refine ⟨_, hk, fun {B0 w0 ok E w u} hM hu' => ?_⟩
          cases hu' with
          | ptr he =>
            rename_i b m
            obtain ⟨_, c, e, B, hb, hs, h1, hB', hc⟩ := hM.loc _ _ _ he
            rw [hB] at hB'; cases hB'
            obtain ⟨hn, hm, ho, hc⟩ := hc
            obtain ⟨hle, rfl⟩ := hx hn
            have hlen : ((c.toList.drop off).take i.size).length = i.size := by simp at hm ⊢; omega
            refine ⟨_, run_loadAt_mid w b off t _ d (row_of_cells hb i.size) hu (by rw [isRow_eq]; exact hrow) (by rw [hi, hlen]; rfl), .d (.agg (by rw [hlen]; simp; omega) (fun d hd => ho d ?_) (fun j y d hy hd => ?_))⟩
            · exact List.mem_of_mem_drop (List.mem_of_mem_take hd)
            · rw [List.getElem?_take] at hy hd
              split at hy
              · rename_i hj
                rw [if_pos hj, List.getElem?_drop] at hd
                rw [List.getElem?_drop] at hy
                obtain ⟨z, hz, hr⟩ := hc _ _ hd
                rw [hy] at hz; cases hz; exact hr
              · cases hy
        | false =>
          rw [hrow] at h; simp only [Bool.false_eq_true, if_false] at h
          obtain ⟨d', hd', hk, _⟩ := rdK_some h
          refine ⟨_, hk, fun {B0 w0 ok E w u} hM hu' => ?_⟩
          cases hu' with
          | ptr he =>
            rename_i b m
            obtain ⟨_, c, e, B, hb, hs, h1, hB', hc⟩ := hM.loc _ _ _ he
            rw [hB] at hB'; cases hB'
            obtain ⟨hn, hm, ho, hc⟩ := hc
            obtain ⟨z, hz, hr⟩ := hc _ _ hd'
            exact ⟨z, plain hrow (by rw [cell_of_row w b off c e _ hb]; simpa using hz), .d hr⟩
      | a n cs =>
        simp only at h
        cases hrow : isRow d with
        | true =>
          rw [hrow, if_pos rfl] at h
          obtain ⟨xs, hk, hx⟩ := cut_some h
          split at hk
          · rename_i h1''
            have h1' : ∀ c, c ∈ xs → c.one = true := fun c hc => List.all_eq_true.1 h1'' c hc
            refine ⟨_, hk, fun {B0 w0 ok E w u} hM hu' => ?_⟩
            cases hu' with
            | ptr he =>
              rename_i b m
              obtain ⟨_, c, e, B, hb, hs, h1, hB', hc⟩ := hM.loc _ _ _ he
              rw [hB] at hB'; cases hB'
              obtain ⟨hn, hm, hc⟩ := hc
              obtain ⟨hle, rfl⟩ := hx hn
              have hlen : ((c.toList.drop off).take i.size).length = i.size := by simp at hm ⊢; omega
              refine ⟨_, run_loadAt_mid w b off t _ d (row_of_cells hb i.size) hu (by rw [isRow_eq]; exact hrow) (by rw [hi, hlen]; rfl), rep_mkAgg (by rw [hlen]; simp; omega) h1' (fun j y d hy hd => ?_)⟩
              rw [List.getElem?_take] at hy hd
              split at hy
              · rename_i hj
                rw [if_pos hj, List.getElem?_drop] at hd
                rw [List.getElem?_drop] at hy
                obtain ⟨z, hz, hr⟩ := hc _ _ hd
                rw [hy] at hz; cases hz; exact hr
              · cases hy
          · cases hk
        | false =>
          rw [hrow] at h; simp only [Bool.false_eq_true, if_false] at h
          cases hcs : cs[off]? with
          | none => rw [hcs] at h; cases h
          | some a =>
            have key : ∃ v, k v L = some r ∧ v = a := by
              rw [hcs] at h
              cases a with
              | d x =>
                simp only at h
                obtain ⟨d', hd', hk, _⟩ := rdK_some h
                cases hd'
                exact ⟨_, hk, rfl⟩
              | _ => exact ⟨_, h, rfl⟩
            obtain ⟨v, hk, rfl⟩ := key
            refine ⟨_, hk, fun {B0 w0 ok E w u} hM hu' => ?_⟩
            cases hu' with
            | ptr he =>
              rename_i b m
              obtain ⟨_, c, e, B, hb, hs, h1, hB', hc⟩ := hM.loc _ _ _ he
              rw [hB] at hB'; cases hB'
              obtain ⟨hn, hm, hc⟩ := hc
              obtain ⟨z, hz, hr⟩ := hc _ _ hcs
              exact ⟨z, plain hrow (by rw [cell_of_row w b off c e _ hb]; simpa using hz), hr⟩
  | lp cs off =>
    simp only at h
    cases hrow : isRow d with
    | true =>
      rw [hrow, if_pos rfl] at h
      split at h
      · rename_i hle
        refine ⟨_, h, fun {B0 w0 ok E w u} hM hu' => ?_⟩
        cases hu' with
        | lp hb h1 hcell hrep =>
          rename_i b base f
          have hlen : ((List.range i.size).map fun j => f (off + j)).length = i.size := by simp
          have hlen2 : ((cs.drop off).take i.size).length = i.size := by simp; omega
          refine ⟨_, run_loadAt_mid w b (base + off) t ((List.range i.size).map fun j => f (off + j)) d (fun j v hv => ?_) hu (by rw [isRow_eq]; exact hrow) (by rw [hi, hlen]; rfl), .d (.agg (by rw [hlen, hlen2]) (fun d hd => h1 d (List.mem_of_mem_drop (List.mem_of_mem_take hd))) (fun j y d hy hd => ?_))⟩
          · rw [List.getElem?_map] at hv
            cases hr : (List.range i.size)[j]? with
            | none => rw [hr] at hv; cases hv
            | some q =>
              rw [hr] at hv; cases hv
              obtain ⟨hq, rfl⟩ := List.getElem?_eq_some_iff.1 hr
              simp at hq ⊢
              rw [Nat.add_assoc]; exact hcell (off + j) (by omega)
          · rw [List.getElem?_map] at hy
            cases hr : (List.range i.size)[j]? with
            | none => rw [hr] at hy; cases hy
            | some q =>
              rw [hr] at hy; cases hy
              obtain ⟨hq, rfl⟩ := List.getElem?_eq_some_iff.1 hr
              simp at hq ⊢
              rw [List.getElem?_take, if_pos hq, List.getElem?_drop] at hd
              exact hrep _ _ hd
      · cases h
    | false =>
      rw [hrow] at h; simp only [Bool.false_eq_true, if_false] at h
      obtain ⟨d', hd', hk, _⟩ := rdK_some h
      refine ⟨_, hk, fun {B0 w0 ok E w u} hM hu' => ?_⟩
      cases hu' with
      | lp hb h1 hcell hrep =>
        rename_i b base f
        have hlt := (List.getElem?_eq_some_iff.1 hd').1
        exact ⟨f off, plain hrow (hcell off hlt), .d (hrep off _ hd')⟩
  | _ => cases h

/-! ### Stores -/
theorem all_oneCell {cs : List Value} (h : ∀ v, v ∈ cs → v.oneCell' = true) : ∀ v ∈ cs, v.oneCell' = true := h

/-- Pointwise: each of 'cs' stands over its fellow in 'c'. -/
def PW {α : Type} (ρ : Value → α → Prop) (c : List Value) (cs : List α) : Prop := ∀ (j : Nat) a, cs[j]? = some a → ∃ x, c[j]? = some x ∧ ρ x a

theorem PW.splice {α : Type} {ρ : Value → α → Prop} {c xs : List Value} {cs ys : List α} {off : Nat} (h : PW ρ c cs) (hx : PW ρ xs ys) (hl : xs.length = ys.length) (ho : off + ys.length ≤ cs.length) (hc : cs.length ≤ c.length) :
    PW ρ (c.take off ++ xs ++ c.drop (off + xs.length)) (cs.take off ++ (ys ++ cs.drop (off + ys.length))) := by
  intro j a ha
  rw [List.append_assoc]
  by_cases h1 : j < off
  · rw [List.getElem?_append_left (by simp; omega), List.getElem?_take, if_pos h1] at ha ⊢
    exact h j a ha
  · rw [List.getElem?_append_right (by simp; omega)] at ha ⊢
    simp only [List.length_take] at ha ⊢
    rw [show min off cs.length = off by omega] at ha
    rw [show min off c.length = off by omega]
    by_cases h2 : j - off < ys.length
    · rw [List.getElem?_append_left (by omega)] at ha ⊢
      exact hx _ a ha
    · rw [List.getElem?_append_right (by omega)] at ha ⊢
      rw [List.getElem?_drop] at ha ⊢
      rw [hl]
      exact h _ a ha

theorem length_splice {α : Type} {cs ys : List α} {off : Nat} (ho : off + ys.length ≤ cs.length) : (cs.take off ++ (ys ++ cs.drop (off + ys.length))).length = cs.length := by
  simp; omega

theorem set_splice {α : Type} (cs : List α) (off : Nat) (y : α) (h : off < cs.length) : cs.set off y = cs.take off ++ ([y] ++ cs.drop (off + [y].length)) := by
  rw [List.set_eq_take_append_cons_drop, if_pos h]; rfl

theorem splice_mem {α : Type} {p : α → Prop} {cs ys : List α} {off m : Nat} (h : ∀ d, d ∈ cs → p d) (hy : ∀ d, d ∈ ys → p d) : ∀ d, d ∈ cs.take off ++ (ys ++ cs.drop m) → p d := by
  intro d hd
  rcases List.mem_append.1 hd with hd | hd
  · exact h d (List.mem_of_mem_take hd)
  · rcases List.mem_append.1 hd with hd | hd
    · exact hy d hd
    · exact h d (List.mem_of_mem_drop hd)

/-- A local block is written. -/
theorem Mem.set {B0 : Nat} {w0 : World} {ok : Nat → Prop} {E : Env} {L : Heap} {w : World} (h : Mem B0 w0 ok E L w) {id b m : Nat} (he : E id = some (b, m))
    {c : Array Value} {e : TypeId} (hb : w.heap[b]? = some (.cells c e (0, 0))) {c' : Array Value} (hs : c'.size = m) (h1 : ∀ x, x ∈ c'.toList → x.oneCell' = true) {B : Blk} (hB : CellsRep E w ok c'.toList B) :
    Mem B0 w0 ok E (L.set id B) (w.setRow b c') ∧ Grow E w ok E (w.setRow b c') ok := by
  have hid := h.idlt he
  have g : Grow E w ok E (w.setRow b c') ok := ⟨fun _ _ h => h, fun _ h => h, fun q hq => setRow_other w b q c' (fun e => by subst e; exact (h.okb _ hq).2 _ _ he)⟩
  refine ⟨⟨?_, fun q hq => by simpa using h.okb q hq, h.inj, fun i q m' hi => ?_, by simpa using h.b0, h.wf.set hB id⟩, g⟩
  · refine h.below.trans ⟨rfl, rfl, rfl, by simp, fun q hq => setRow_other w b q c' (fun e => ?_)⟩
    have := (h.loc _ _ _ he).1; omega
  · by_cases hii : i = id
    · subst hii
      rw [he] at hi; cases hi
      exact ⟨(h.loc _ _ _ he).1, c', e, B, setRow_heap w _ c c' e _ hb, hs, h1, by simp [hid], hB.grow g⟩
    · obtain ⟨h0, c2, e2, B2, hb2, hs2, h12, hB2, hc2⟩ := h.loc i q m' hi
      have hq : q ≠ b := fun e => hii (h.inj i id q m' m hi (by rw [e]; exact he))
      exact ⟨h0, c2, e2, B2, (setRow_other w b q c' hq).trans hb2, hs2, h12, by rw [List.getElem?_set_ne (Ne.symm hii)]; exact hB2, hc2.grow g⟩

theorem run_storeAt_row {w : World} {b off : Nat} {t : TypeId} {i : TypeInfo} (hi : P.info? t = some i) {c : Array Value} {e : TypeId} (hb : w.heap[b]? = some (.cells c e (0, 0))) {x : Value} (hs : x.cells.size = i.size) (hfit : off + x.cells.size ≤ c.size)
    (h1 : ∀ v ∈ x.cells.toList, v.oneCell' = true) :
    (Instr.storeAt t (.pointer (some ⟨b, off, none⟩)) x).run P w = .ok () (w.setRow b (c.toList.take off ++ x.cells.toList ++ c.toList.drop (off + x.cells.toList.length)).toArray) := by
  have := run_storeCells_at (P := P) b off e x.cells.toList 0 c w hb (by simpa using hfit) h1
  simp only [Nat.add_zero] at this
  simp [Instr.storeAt, Instr.sureAddr, storeVar, Sem.run_bind, sizeOf, typeInfo, hi, hs, this]

/-- What a store leaves: the block spliced. -/
theorem Mem.splice {B0 : Nat} {w0 : World} {ok : Nat → Prop} {E : Env} {L : Heap} {w : World} (h : Mem B0 w0 ok E L w) {id b m : Nat} (he : E id = some (b, m))
    {c : Array Value} {e : TypeId} (hb : w.heap[b]? = some (.cells c e (0, 0))) (hs : c.size = m) (h1 : ∀ x, x ∈ c.toList → x.oneCell' = true)
    {off : Nat} {xs : List Value} (hx1 : ∀ x, x ∈ xs → x.oneCell' = true) (hfit : off + xs.length ≤ c.size) {B : Blk}
    (hB : CellsRep E w ok (c.toList.take off ++ xs ++ c.toList.drop (off + xs.length)) B) :
    Mem B0 w0 ok E (L.set id B) (w.setRow b (c.toList.take off ++ xs ++ c.toList.drop (off + xs.length)).toArray) ∧ Grow E w ok E (w.setRow b (c.toList.take off ++ xs ++ c.toList.drop (off + xs.length)).toArray) ok := by
  refine h.set he hb (c' := (c.toList.take off ++ xs ++ c.toList.drop (off + xs.length)).toArray) (by simp; omega) (fun x hx => ?_) (by simpa using hB)
  simp only [List.append_assoc] at hx
  exact splice_mem (p := fun x => x.oneCell' = true) h1 hx1 x hx

theorem repD_agg_inv {w : World} {ok : Nat → Prop} {x : Value} {ys : List D} (h : RepD w ok x (.agg ys)) :
    x.cells.toList.length = ys.length ∧ PW (RepD w ok) x.cells.toList ys ∧ (∀ d, d ∈ ys → d.one = true) ∧ (∀ v, v ∈ x.cells.toList → v.oneCell' = true) := by
  cases h with
  | agg hl h1 hr =>
    rename_i vs
    refine ⟨by simpa [Value.cells] using hl, fun j d hd => ?_, h1, fun v hv => ?_⟩
    · have hj : j < vs.length := by have := (List.getElem?_eq_some_iff.1 hd).1; omega
      exact ⟨vs[j], by simp [Value.cells, hj], hr j _ d (List.getElem?_eq_getElem hj) hd⟩
    · simp only [Value.cells] at hv
      have hv' : v ∈ vs := by simpa using hv
      obtain ⟨j, hj, rfl⟩ := List.getElem_of_mem hv'
      have hj' : j < ys.length := by omega
      exact (hr j _ _ (List.getElem?_eq_getElem hj) (List.getElem?_eq_getElem hj')).one (h1 _ (List.getElem_mem hj'))

theorem rep_agg_inv {E : Env} {w : World} {ok : Nat → Prop} {x : Value} {ys : List AV} (h : Rep E w ok x (.agg ys)) :
    x.cells.toList.length = ys.length ∧ PW (Rep E w ok) x.cells.toList ys ∧ (∀ d, d ∈ ys → d.one = true) ∧ (∀ v, v ∈ x.cells.toList → v.oneCell' = true) := by
  cases h with
  | agg hl h1 hr =>
    rename_i vs
    refine ⟨by simpa [Value.cells] using hl, fun j d hd => ?_, h1, fun v hv => ?_⟩
    · have hj : j < vs.length := by have := (List.getElem?_eq_some_iff.1 hd).1; omega
      exact ⟨vs[j], by simp [Value.cells, hj], hr j _ d (List.getElem?_eq_getElem hj) hd⟩
    · simp only [Value.cells] at hv
      have hv' : v ∈ vs := by simpa using hv
      obtain ⟨j, hj, rfl⟩ := List.getElem_of_mem hv'
      have hj' : j < ys.length := by omega
      exact (hr j _ _ (List.getElem?_eq_getElem hj) (List.getElem?_eq_getElem hj')).one (h1 _ (List.getElem_mem hj'))

theorem PW.toAV {E : Env} {w : World} {ok : Nat → Prop} {c : List Value} {cs : List D} (h : PW (RepD w ok) c cs) : PW (Rep E w ok) c (cs.map AV.d) := by
  intro j a ha
  rw [List.getElem?_map] at ha
  cases hc : cs[j]? with
  | none => rw [hc] at ha; cases ha
  | some d => rw [hc] at ha; cases ha; obtain ⟨x, hx, hr⟩ := h j d hc; exact ⟨x, hx, .d hr⟩


theorem CellsRep.splice_d {E : Env} {w : World} {ok : Nat → Prop} {c xs : List Value} {n off : Nat} {cs ys : List D} (h : CellsRep E w ok c (.d n cs)) (ho : off + ys.length ≤ n) (hl : xs.length = ys.length) (hx : PW (RepD w ok) xs ys) (h1 : ∀ d, d ∈ ys → d.one = true) :
    CellsRep E w ok (c.take off ++ xs ++ c.drop (off + xs.length)) (.d n (cs.take off ++ (ys ++ cs.drop (off + ys.length)))) := by
  obtain ⟨hn, hm, hd, hc⟩ := h
  exact ⟨by rw [length_splice (by omega)]; exact hn, by simp; omega, splice_mem hd h1, PW.splice hc hx hl (by omega) (by omega)⟩
theorem CellsRep.splice_a {E : Env} {w : World} {ok : Nat → Prop} {c xs : List Value} {n off : Nat} {cs ys : List AV} (h : CellsRep E w ok c (.a n cs)) (ho : off + ys.length ≤ n) (hl : xs.length = ys.length) (hx : PW (Rep E w ok) xs ys) :
    CellsRep E w ok (c.take off ++ xs ++ c.drop (off + xs.length)) (.a n (cs.take off ++ (ys ++ cs.drop (off + ys.length)))) := by
  obtain ⟨hn, hm, hc⟩ := h
  exact ⟨by rw [length_splice (by omega)]; exact hn, by simp; omega, PW.splice hc hx hl (by omega) (by omega)⟩
theorem CellsRep.toA {E : Env} {w : World} {ok : Nat → Prop} {c : List Value} {n : Nat} {cs : List D} (h : CellsRep E w ok c (.d n cs)) : CellsRep E w ok c (.a n (cs.map AV.d)) := by
  obtain ⟨hn, hm, hd, hc⟩ := h
  exact ⟨by simpa using hn, hm, PW.toAV hc⟩

theorem pw_one {α : Type} {ρ : Value → α → Prop} {x : Value} {a : α} (h : ρ x a) : PW ρ [x] [a] := by
  intro j b hb
  match j, hb with
  | 0, hb => cases hb; exact ⟨x, rfl, h⟩

/-- A store, all told: the block is spliced as the cells are. -/
theorem store_at {B0 : Nat} {w0 : World} {ok : Nat → Prop} {E : Env} {L : Heap} {w : World} {t : TypeId} {i : TypeInfo} (hi : P.info? t = some i) (hM : Mem B0 w0 ok E L w) {u v : Value} {id off : Nat} (hu : Rep E w ok u (.ptr id off))
    (hs : v.cells.toList.length = i.size) (h1 : ∀ x, x ∈ v.cells.toList → x.oneCell' = true) {B B' : Blk} (hB : L[id]? = some B)
    (hfit : ∀ c, CellsRep E w ok c B → off + i.size ≤ c.length ∧ CellsRep E w ok (c.take off ++ v.cells.toList ++ c.drop (off + v.cells.toList.length)) B') :
    ∃ w', (Instr.storeAt t u v).run P w = .ok () w' ∧ Mem B0 w0 ok E (L.set id B') w' ∧ Grow E w ok E w' ok := by
  cases hu with
  | ptr he =>
    obtain ⟨_, c, e, B1, hb, hs', h1', hB', hc⟩ := hM.loc _ _ _ he
    rw [hB] at hB'; cases hB'
    obtain ⟨hle, hc'⟩ := hfit _ hc
    have := hM.splice he hb hs' h1' (off := off) h1 (by simp at hle hs ⊢; omega) hc'
    exact ⟨_, run_storeAt_row hi hb (by simpa using hs) (by simp at hle hs ⊢; omega) h1, this.1, this.2⟩

theorem store_sound {t : TypeId} {a x : AV} {L : Heap} {k : AV → Heap → Option R} {r : R} (h0 : storeK P t a x L k = some r) :
    ∃ L', k .junk L' = some r ∧ ∀ {B0 w0 ok E w u v}, Mem B0 w0 ok E L w → Rep E w ok u a → Rep E w ok v x → ∃ w', (Instr.storeAt t u v).run P w = .ok () w' ∧ Mem B0 w0 ok E L' w' ∧ Grow E w ok E w' ok := by
  unfold storeK at h0
  obtain ⟨d, hu, h1⟩ := Option.bind_eq_some_iff.1 h0
  obtain ⟨i, hi, h⟩ := Option.bind_eq_some_iff.1 h1
  clear h0 h1
  cases a with
  | ptr id off =>
    simp only at h
    cases hB : L[id]? with
    | none => rw [hB] at h; cases h
    | some B =>
      rw [hB] at h
      cases B with
      | dead => cases h
      | d n cs =>
        simp only at h
        cases hrow : isRow d with
        | true =>
          rw [hrow, if_pos rfl] at h
          split at h
          · rename_i ys
            split at h
            · rename_i hys
              obtain ⟨zs, hk, hz⟩ := put_some h
              refine ⟨_, hk, fun hM hu' hv => ?_⟩
              cases hv with
              | d hv =>
                obtain ⟨v1, v2, v3, v4⟩ := repD_agg_inv hv
                refine store_at hi hM hu' (by omega) v4 hB (fun c hc => ?_)
                obtain ⟨hle, rfl⟩ := hz hc.1 hys
                have hm := hc.2.1
                exact ⟨by omega, by rw [← hys]; exact hc.splice_d (by omega) v1 v2 v3⟩
            · cases h
          · rename_i ys
            split at h
            · rename_i hys
              obtain ⟨zs, hk, hz⟩ := put_some h
              refine ⟨_, hk, fun hM hu' hv => ?_⟩
              obtain ⟨v1, v2, v3, v4⟩ := rep_agg_inv hv
              refine store_at hi hM hu' (by omega) v4 hB (fun c hc => ?_)
              obtain ⟨hle, rfl⟩ := hz (by simpa using hc.1) hys
              have hm := hc.2.1
              exact ⟨by omega, by rw [← hys]; exact hc.toA.splice_a (by omega) v1 v2⟩
            · cases h
          · cases h
        | false =>
          rw [hrow] at h; simp only [Bool.false_eq_true, if_false] at h
          split at h
          · rename_i hsz
            obtain ⟨hsz, hoff⟩ := hsz
            split at h
            · rename_i y
              split at h
              · rename_i hy
                refine ⟨_, h, fun hM hu' hv => ?_⟩
                cases hv with
                | d hv =>
                  have hc1 := cells_one (hv.one hy)
                  refine store_at hi hM hu' (by simp [hc1, hsz]) (by simp [hc1, hv.one hy]) hB (fun c hc => ?_)
                  have hm := hc.2.1
                  refine ⟨by omega, ?_⟩
                  rw [hc1, set_splice cs off y (by have := hc.1; omega)]
                  exact hc.splice_d (xs := [_]) (by simp; omega) (by simp) (pw_one hv) (by simp [hy])
              · cases h
            · rename_i x hx
              split at h
              · rename_i hy
                refine ⟨_, h, fun hM hu' hv => ?_⟩
                have hc1 := cells_one (hv.one hy)
                refine store_at hi hM hu' (by simp [hc1, hsz]) (by simp [hc1, hv.one hy]) hB (fun c hc => ?_)
                have hm := hc.2.1
                refine ⟨by omega, ?_⟩
                rw [hc1, set_splice (cs.map AV.d) off _ (by have := hc.1; simp; omega)]
                exact hc.toA.splice_a (xs := [_]) (by simp; omega) (by simp) (pw_one hv)
              · cases h
          · cases h
      | a n cs =>
        simp only at h
        cases hrow : isRow d with
        | true =>
          rw [hrow, if_pos rfl] at h
          split at h
          · rename_i ys
            split at h
            · rename_i hys
              obtain ⟨zs, hk, hz⟩ := put_some h
              refine ⟨_, hk, fun hM hu' hv => ?_⟩
              cases hv with
              | d hv =>
                obtain ⟨v1, v2, v3, v4⟩ := repD_agg_inv hv
                refine store_at hi hM hu' (by omega) v4 hB (fun c hc => ?_)
                obtain ⟨hle, rfl⟩ := hz hc.1 (by simpa using hys)
                have hm := hc.2.1
                have := hc.splice_a (off := off) (ys := ys.map AV.d) (xs := _) (by simp; omega) (by simpa using v1) (PW.toAV v2)
                exact ⟨by omega, by simpa [hys] using this⟩
            · cases h
          · rename_i ys
            split at h
            · rename_i hys
              obtain ⟨zs, hk, hz⟩ := put_some h
              refine ⟨_, hk, fun hM hu' hv => ?_⟩
              obtain ⟨v1, v2, v3, v4⟩ := rep_agg_inv hv
              refine store_at hi hM hu' (by omega) v4 hB (fun c hc => ?_)
              obtain ⟨hle, rfl⟩ := hz hc.1 hys
              have hm := hc.2.1
              exact ⟨by omega, by rw [← hys]; exact hc.splice_a (by omega) v1 v2⟩
            · cases h
          · cases h
        | false =>
          rw [hrow] at h; simp only [Bool.false_eq_true, if_false] at h
          split at h
          · rename_i hsz
            obtain ⟨hsz, hoff, hy⟩ := hsz
            refine ⟨_, h, fun hM hu' hv => ?_⟩
            have hc1 := cells_one (hv.one hy)
            refine store_at hi hM hu' (by simp [hc1, hsz]) (by simp [hc1, hv.one hy]) hB (fun c hc => ?_)
            have hm := hc.2.1
            refine ⟨by omega, ?_⟩
            rw [hc1, set_splice cs off x (by have := hc.1; omega)]
            exact hc.splice_a (xs := [_]) (by simp; omega) (by simp) (pw_one hv)
          · cases h
  | _ => cases h
end Go.Ev
