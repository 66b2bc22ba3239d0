/-
  append and copy, told whole.
-/
import Derived.Test.YtilgfaangfbndaaDoorEvOps7
set_option linter.unusedSimpArgs false
set_option linter.unusedVariables false
namespace Go.Ev
open Go Go.RowKit
variable {R : Type} {P : Program}

theorem firstCells_drew {w : World} {u : Value} {size : Nat} {vs : List Value} {m : Nat} (h : ∀ n', n' ≤ m → ∀ w' : World, w'.heap = w.heap → (Builtin.firstCells size n' u).run P w' = .ok (vs.take (n' * size)).toArray w') (hl : vs.length = m * size) (w' : World) (hw : w'.heap = w.heap) :
    (Builtin.firstCells size m u).run P w' = .ok vs.toArray w' := by
  have := h m (Nat.le_refl _) w' hw
  rw [this, List.take_of_length_le (by omega)]

theorem set_same {α : Type} {L : List α} {i : Nat} {x : α} (h : L[i]? = some x) : L.set i x = L := by
  apply List.ext_getElem?
  intro j
  by_cases hj : j = i
  · subst hj
    rw [List.getElem?_set_self (List.getElem?_eq_some_iff.1 h).1, h]
  · rw [List.getElem?_set_ne (Ne.symm hj)]

theorem zero_list {α : Type} {xs : List α} {m s : Nat} (h : xs.length = m * s) (hm : m = 0) : xs = [] := List.eq_nil_of_length_eq_zero (by rw [h, hm, Nat.zero_mul])

/-- A slice grown into new memory: the new block is the next one. -/
theorem append_new {t ty e : TypeId} (hu : P.underlying t = some (.slice e)) {z : Nat × List D} (hz : zerosOf P e = some z) {i : TypeInfo} (hi : P.info? e = some i) {B0 : Nat} {w0 : World} {ok : Nat → Prop} {E : Env} {L : Heap} {w : World} (hM : Mem B0 w0 ok E L w)
    {base : Option Addr} {n cp m : Nat} {a : Option Addr} {c : Nat} (hg : cp < n + m) (hf : fitsRow (n + m) i.bytes) {olds news : List Value} {cs new : List D}
    (l1 : olds.length = cs.length) (l2 : cs.length = n * i.size) (l3 : news.length = new.length) (l4 : new.length = m * i.size) (p1 : PW (RepD w ok) olds cs) (p2 : PW (RepD w ok) news new) (o1 : ∀ d, d ∈ cs → d.one = true) (o2 : ∀ d, d ∈ new → d.one = true)
    (q1 : ∀ v, v ∈ olds → v.oneCell' = true) (q2 : ∀ v, v ∈ news → v.oneCell' = true)
    (ho : ∀ w' : World, w'.heap = w.heap → (Builtin.firstCells i.size n (.slice base n cp)).run P w' = .ok olds.toArray w') (hn : ∀ w' : World, w'.heap = w.heap → (Builtin.firstCells i.size m (.slice a m c)).run P w' = .ok news.toArray w') :
    ∃ y w' E', (Builtin.append_ #[t, t] ty #[.slice base n cp, .slice a m c]).run P w = .ok y w' ∧ Mem B0 w0 ok E' (L ++ [.d ((n + m) * i.size) (cs ++ new)]) w' ∧ Grow E w ok E' w' ok ∧ Rep E' w' ok y (.sl L.length 0 (n + m) none i.size) ∧
      Below w.heap.size w w' ∧ (∀ id, E id = none → id ≠ L.length → E' id = none) := by
  obtain ⟨zv, hzv, hgb⟩ := grown_block hz hi
  have hge := grownCap_ge w (n + m) cp e
  obtain ⟨g1, g2, g3⟩ := hgb (w := w) (ok := ok) (E := E) l1 l2 l3 l4 hge p1 p2 o1 o2 q1 q2
  have hrun := run_append_realloc (ty := ty) hu hi hzv (base := base) (a := a) (c := c) hg hf.2 hf.1 (ho w.drew rfl) (hn w.drew rfl)
  obtain ⟨E', hM', g, hE, hb, hnn⟩ := new_block hM.drew _ e (.d ((n + m) * i.size) (cs ++ new)) g1 (g2.grow (Grow.drew E w ok)) rfl
  refine ⟨_, _, E', hrun, hM', (Grow.drew E w ok).trans g, .sl hE hge (fun q hq => by cases hq) (by rw [g3]; omega) (.inl rfl), ?_, hnn⟩
  exact (Below.refl w.heap.size w).drew.trans hb

theorem CellsRep.killB {E : Env} {w : World} {ok : Nat → Prop} {c : List Value} {B : Blk} (h : CellsRep E w ok c B) (id : Nat) : CellsRep E w ok c (killB id B) := by
  cases B with
  | dead => exact h
  | d n cs => exact h
  | a n cs =>
    refine ⟨by simpa using h.1, h.2.1, fun j a ha => ?_⟩
    rw [List.getElem?_map] at ha
    cases hj : cs[j]? with
    | none => rw [hj] at ha; cases ha
    | some x =>
      rw [hj] at ha
      obtain ⟨v, hv, hr⟩ := h.2.2 j x hj
      refine ⟨v, hv, ?_⟩
      simp only [Option.map_some, Option.some.injEq] at ha
      subst ha
      split
      · exact .junk
      · exact hr

theorem blkRef_kill (id : Nat) (B : Blk) : blkRef id (killB id B) = false := by
  cases B with
  | dead => rfl
  | d n cs => rfl
  | a n cs =>
    simp only [killB, blkRef, List.any_eq_false, List.mem_map]
    rintro x ⟨y, _, rfl⟩
    by_cases h : hasRef id y = true
    · simp [h, hasRef]
    · simp [h]

theorem Mem.killB {B0 : Nat} {w0 : World} {ok : Nat → Prop} {E : Env} {L : Heap} {w : World} (h : Mem B0 w0 ok E L w) (id : Nat) : Mem B0 w0 ok E (L.map (killB id)) w := by
  refine ⟨h.below, h.okb, h.inj, fun i b m he => ?_, h.b0, fun i B' hi => ?_⟩
  · obtain ⟨h0, c, e, B, hb, hs, h1, hB, hc⟩ := h.loc i b m he
    exact ⟨h0, c, e, Ev.killB id B, hb, hs, h1, by rw [List.getElem?_map, hB]; rfl, hc.killB id⟩
  · rw [List.getElem?_map] at hi
    cases hq : L[i]? with
    | none => rw [hq] at hi; cases hi
    | some B =>
      rw [hq] at hi
      have := h.wf i _ hq
      cases hi
      cases B with
      | dead => trivial
      | d n' cs' => exact this
      | a n' cs' => simpa [Ev.killB, Blk.ok] using this

theorem append_sound {t ty : TypeId} {sl : List AV} {s x : AV} {L : Heap} {k : List AV → AV → Heap → Option R} {r : R} {base : Nat} (h0 : appendK P base t sl s x L k = some r) :
    ∃ sl' v L', k sl' v L' = some r ∧ sl'.length = sl.length ∧ ∀ {B0 w0 ok E w u us}, Mem B0 w0 ok E L w → Rep E w ok u s → Rep E w ok us x → ∀ {tmps}, SlRep E w ok tmps sl →
      ∃ y w' E', (Builtin.append_ #[t, t] ty #[u, us]).run P w = .ok y w' ∧ Mem B0 w0 ok E' L' w' ∧ Rep E' w' ok y v ∧ SlRep E' w' ok tmps sl' ∧ Step B0 base E w ok E' w' ok := by
  unfold appendK at h0
  cases hu : P.underlying t with
  | none => rw [hu] at h0; cases h0
  | some d =>
    rw [hu] at h0
    cases d <;> (try simp only at h0) <;> try (cases h0; done)
    rename_i e
    obtain ⟨z, hz, h1⟩ := Option.bind_eq_some_iff.1 h0
    obtain ⟨i, hi, h2⟩ := Option.bind_eq_some_iff.1 h1
    obtain ⟨m, new, h3, hsrc⟩ := src_sound (P := P) h2
    clear h0 h1 h2
    cases s <;> (try simp only at h3) <;> try (cases h3; done)
    case d sd =>
      cases sd <;> (try simp only at h3) <;> try (cases h3; done)
      rename_i n cap cs
      cases cap with
      | none => cases h3
      | some c =>
        simp only at h3
        by_cases hcn : c = n
        case neg => rw [if_neg hcn] at h3; cases h3
        rw [if_pos hcn] at h3
        subst hcn
        by_cases hm0 : m = 0
        · rw [if_pos hm0] at h3
          refine ⟨_, _, _, h3, by simp [kill], fun {B0 w0 ok E w u us} hM hu' hx tmps hsl => ?_⟩
          obtain ⟨a, c', vs, rfl, l3, l4, p2, o2, q2, hf⟩ := hsrc hM hx
          cases hu' with
          | d hD =>
            obtain ⟨ab, cp, rfl, hn, hcap⟩ := repD_cap hD
            subst hm0
            have hvs : vs = [] := by have := zero_list l4 rfl; subst this; exact List.eq_nil_of_length_eq_zero l3
            subst hvs
            exact ⟨_, w, E, run_append_zero hu hi hn (by simpa using hf 0 (Nat.le_refl _) w rfl), hM, .d hD, hsl, .refl _ _ _ _ _⟩
        · rw [if_neg hm0] at h3
          split at h3
          · rename_i hc
            obtain ⟨hfit, hl1, hl2⟩ := hc
            refine ⟨_, _, _, h3, by simp [kill], fun {B0 w0 ok E w u us} hM hu' hx tmps hsl => ?_⟩
            obtain ⟨a, c', vs, rfl, l3, l4, p2, o2, q2, hf⟩ := hsrc hM hx
            obtain ⟨m1, new1, hk1, hs1⟩ := src_sound (P := P) (show srcK (.d (.list c (some c) cs)) L i.size (fun m new => some (m, new)) = some (c, cs) by simp [srcK, hl1])
            cases hk1
            obtain ⟨ab, cp, olds, rfl, e1, e2, e3, e4, e5, e6⟩ := hs1 hM hu'
            cases hu' with
            | d hD =>
              obtain ⟨_, _, hh, hn, hcap⟩ := repD_cap hD
              cases hh
              have hcp : c = cp := hcap c rfl
              subst hcp
              obtain ⟨y, w', E', r1, r2, r3, r4, _⟩ := append_new (ty := ty) hu hz hi hM (base := ab) (cp := c) (a := a) (c := c') (by omega) hfit e1 e2 l3 l4 e3 p2 e4 o2 e5 q2
                (fun w' hw' => firstCells_drew e6 (by omega) w' hw') (fun w' hw' => firstCells_drew hf (by omega) w' hw')
              exact ⟨y, w', E', r1, r2, r4, hsl.grow r3, .of' r3⟩
          · cases h3
    case sl id off n cap sz =>
      cases cap with
      | some c =>
        simp only at h3
        by_cases hsz : sz = i.size
        case neg => rw [if_neg hsz] at h3; cases h3
        rw [if_pos hsz] at h3
        subst hsz
        cases hB : L[id]? with
        | none => rw [hB] at h3; cases h3
        | some B =>
          rw [hB] at h3
          cases B <;> (try simp only at h3) <;> try (cases h3; done)
          rename_i b cs
          by_cases hroom : n + m ≤ c
          · rw [if_pos hroom] at h3
            split at h3
            · rename_i hc
              obtain ⟨hfitb, hnl⟩ := hc
              refine ⟨_, _, _, h3, by simp [kill], fun {B0 w0 ok E w u us} hM hu' hx tmps hsl => ?_⟩
              obtain ⟨a, c', vs, rfl, l3, l4, p2, o2, q2, hf⟩ := hsrc hM hx
              cases hu' with
              | slz hc0 =>
                have hc00 := hc0 c rfl
                obtain rfl : m = 0 := by omega
                have hnew := zero_list l4 rfl
                subst hnew
                have hvs : vs = [] := List.eq_nil_of_length_eq_zero l3
                subst hvs
                have hspl : cs.take (off + 0 * i.size) ++ ([] ++ cs.drop (off + (0 + 0) * i.size)) = cs := by simp
                rw [hspl, set_same hB]
                exact ⟨_, w, E, run_append_zero hu hi (Nat.le_refl _) (by simpa using hf 0 (Nat.le_refl _) w rfl), hM, .slz hc0, hsl, .refl _ _ _ _ _⟩
              | sl hE hn hcap hm hoff =>
                rename_i off' cp bb mm
                obtain rfl : c = cp := hcap c rfl
                obtain ⟨_, cc, e', B, hb, hs', h1, hB', hcc⟩ := hM.loc _ _ _ hE
                rw [hB] at hB'; cases hB'
                have hle : b ≤ cc.size := by have := hcc.2.1; simpa using this
                by_cases hm0 : m = 0
                · subst hm0
                  have hnew := zero_list l4 rfl
                  subst hnew
                  have hvs : vs = [] := List.eq_nil_of_length_eq_zero l3
                  subst hvs
                  have hspl : cs.take (off + n * i.size) ++ ([] ++ cs.drop (off + (n + 0) * i.size)) = cs := by simp
                  rw [hspl, set_same hB]
                  exact ⟨_, w, E, run_append_zero hu hi hn (by simpa using hf 0 (Nat.le_refl _) w rfl), hM, .sl hE hn hcap hm hoff, hsl, .refl _ _ _ _ _⟩
                · have hoff' : off' = off := by
                    rcases hoff with h | h
                    · exact h
                    · omega
                  subst hoff'
                  have hmul : (n + m) * i.size = n * i.size + m * i.size := Nat.add_mul _ _ _
                  have hrun := run_append_in (ty := ty) hu hi (a := a) (c := c') hroom hb (o := off') (firstCells_drew hf (by omega) w rfl) q2 (by omega)
                  have hsp := hcc.splice_d (off := off' + n * i.size) (ys := new) (xs := vs) (by omega) l3 p2 o2
                  have hfin : off' + n * i.size + new.length = off' + (n + m) * i.size := by omega
                  rw [hfin] at hsp
                  obtain ⟨hM', g⟩ := hM.splice hE hb hs' h1 (off := off' + n * i.size) q2 (by omega) hsp
                  exact ⟨_, _, E, hrun, hM', .sl hE hroom (fun q hq => by cases hq; rfl) hm (.inl rfl), hsl.grow g, .of' g⟩
            · cases h3
          · rw [if_neg hroom] at h3
            split at h3
            · rename_i hc
              obtain ⟨hfit, hnl⟩ := hc
              have h4 : srcK (.sl id off n (some c) i.size) L i.size (fun _ old => k sl (.sl L.length 0 (n + m) none i.size) (L ++ [.d ((n + m) * i.size) (old ++ new)])) = some r := by
                simpa [srcK, hB] using h3
              obtain ⟨m1, old, hk, hs1⟩ := src_sound (P := P) h4
              refine ⟨_, _, _, hk, by simp [kill], fun {B0 w0 ok E w u us} hM hu' hx tmps hsl => ?_⟩
              obtain ⟨a, c', vs, rfl, l3, l4, p2, o2, q2, hf⟩ := hsrc hM hx
              obtain ⟨ab, cp, olds, rfl, e1, e2, e3, e4, e5, e6⟩ := hs1 hM hu'
              obtain ⟨_, _, hh, hn, hcap⟩ := rep_sl_inv hu'
              cases hh
              have hcp : c = cp := hcap c rfl
              subst hcp
              obtain ⟨y, w', E', r1, r2, r3, r4, _⟩ := append_new (ty := ty) hu hz hi hM (base := ab) (cp := c) (a := a) (c := c') (by omega) hfit e1 e2 l3 l4 e3 p2 e4 o2 e5 q2
                (fun w' hw' => firstCells_drew e6 (by omega) w' hw') (fun w' hw' => firstCells_drew hf (by omega) w' hw')
              exact ⟨y, w', E', r1, r2, r4, hsl.grow r3, .of' r3⟩
            · cases h3
      | none =>
        simp only at h3
        split at h3
        case isFalse => cases h3
        rename_i hso
        obtain ⟨hsz, hoff0⟩ := hso
        subst hsz
        subst hoff0
        cases hB0 : L[id]? with
        | none => rw [hB0] at h3; cases h3
        | some B =>
          rw [hB0] at h3
          cases B <;> (try simp only at h3) <;> try (cases h3; done)
          rename_i b cs
          split at h3
          case isFalse => cases h3
          rename_i hc
          obtain ⟨hbase, hbn, hfit, hnl⟩ := hc
          refine ⟨_, _, _, h3, by simp [kill], fun {B0 w0 ok E w u us} hM0 hu' hx tmps hsl => ?_⟩
          obtain ⟨a, c', vs, rfl, l3, l4, p2, o2, q2, hf⟩ := hsrc hM0 hx
          have h4 : srcK (.sl id 0 n none i.size) L i.size (fun m old => some (m, old)) = some (n, cs) := by
            simp [srcK, hB0, cut, cutL, hbn]
          obtain ⟨m1, old, hk, hs1⟩ := src_sound (P := P) h4
          cases hk
          obtain ⟨ab, cp, olds, rfl, e1, e2, e3, e4, e5, e6⟩ := hs1 hM0 hu'
          have hM := hM0.killB id
          have hB : (L.map (killB id))[id]? = some (.d b cs) := by rw [List.getElem?_map, hB0]; rfl
          have hmul : (n + m) * i.size = n * i.size + m * i.size := Nat.add_mul _ _ _
          by_cases hroom : n + m ≤ cp
          · by_cases hm0 : m = 0
            · subst hm0
              have hnew := zero_list l4 rfl
              subst hnew
              have hvs : vs = [] := List.eq_nil_of_length_eq_zero l3
              subst hvs
              have : (L.map (killB id)).set id (.d ((n + 0) * i.size) (cs ++ [])) = L.map (killB id) := by
                rw [List.append_nil, Nat.add_zero, ← hbn]; exact set_same hB
              rw [this]
              have hn : n ≤ cp := by omega
              exact ⟨_, w, E, run_append_zero hu hi hn (by simpa using hf 0 (Nat.le_refl _) w rfl), hM, hu',
                hsl.move (id := id) (fun _ _ _ h => h) (fun _ h => h) (fun _ _ => rfl), .refl _ _ _ _ _⟩
            · cases hu' with
              | slz hc0 => omega
              | sl hE hn hcap hm hoff =>
                rename_i off' bb mm
                obtain ⟨hB0, cc, e', B, hb, hs', h1, hB', hcc⟩ := hM.loc _ _ _ hE
                rw [hB] at hB'; cases hB'
                have hle : b ≤ cc.size := by have := hcc.2.1; simpa using this
                have hcap' : (n + m) * i.size ≤ cp * i.size := Nat.mul_le_mul_right _ hroom
                have hoff' : off' = 0 := by
                  rcases hoff with h | h
                  · exact h
                  · omega
                subst hoff'
                have hrun := run_append_in (ty := ty) hu hi (a := a) (c := c') hroom hb (o := 0) (firstCells_drew hf (by omega) w rfl) q2 (by omega)
                have hcells : CellsRep E w ok (cc.toList.take (0 + n * i.size) ++ vs ++ cc.toList.drop (0 + n * i.size + vs.length)) (.d ((n + m) * i.size) (cs ++ new)) := by
                  have hlc := hcc.1
                  have htk : (cc.toList.take (0 + n * i.size)).length = cs.length := by simp; omega
                  refine ⟨by simp; omega, by simp; omega, fun d hd => ?_, ?_⟩
                  · rcases List.mem_append.1 hd with hd | hd
                    · exact hcc.2.2.1 d hd
                    · exact o2 d hd
                  · refine PW.more (PW.append (fun j d hd => ?_) p2 htk) _
                    obtain ⟨x, hx, hr⟩ := hcc.2.2.2 j d hd
                    have hj := (List.getElem?_eq_some_iff.1 hd).1
                    exact ⟨x, by rw [List.getElem?_take, if_pos (by omega)]; exact hx, hr⟩
                obtain ⟨hM', g⟩ := hM.splice hE hb hs' h1 (off := 0 + n * i.size) q2 (by omega) hcells
                exact ⟨_, _, E, hrun, hM', .sl hE hroom (fun q hq => by cases hq) hm (.inl rfl), hsl.move (id := id) (fun _ _ _ h => g.env _ _ h) g.oks g.heap, .of' g⟩
          · -- a new array: the block has moved
            have hid : id < (L.map (killB id)).length := (List.getElem?_eq_some_iff.1 hB).1
            obtain ⟨zv, hzv, hgb⟩ := grown_block hz hi
            have hge := grownCap_ge w (n + m) cp e
            obtain ⟨g1, g2, g3⟩ := hgb (w := w) (ok := ok) (E := E) e1 e2 l3 l4 hge e3 p2 e4 o2 e5 q2
            have hrun := run_append_realloc (ty := ty) hu hi hzv (base := ab) (a := a) (c := c') (show cp < n + m by omega) hfit.2 hfit.1 (firstCells_drew e6 (by omega) w.drew rfl) (firstCells_drew hf (by omega) w.drew rfl)
            generalize hcv : (olds.toArray ++ (vs.toArray) ++ Builtin.zeroCells zv.cells (grownCap w (n + m) cp e - (n + m))) = cv at *
            have hEm : ∀ j x, j ≠ id → E j = some x → (E.put id (w.heap.size, cv.size)) j = some x := fun j x hne hj => by simp [Env.put, hne, hj]
            have hheap : ∀ q, ok q → (w.drew.alloc (.cells cv e)).heap[q]? = w.heap[q]? := fun q hq => heap_alloc_old w.drew _ (hM.okb q hq).1
            refine ⟨_, _, E.put id (w.heap.size, cv.size), hrun, ⟨?_, ?_, ?_, ?_, ?_, ?_⟩, .sl (b := w.heap.size) (m := cv.size) (by simp [Env.put]) hge (fun q hq => by cases hq) (by rw [g3]; omega) (.inl rfl), hsl.move hEm (fun _ h => h) hheap, ⟨fun j x hj he => hEm j x (by omega) he, fun _ h => h, hheap, fun _ h => .inl h⟩⟩
            · exact hM.below.drew.alloc (by have := hM.b0; simpa using this) _
            · intro q hq
              refine ⟨by have := (hM.okb q hq).1; simp; omega, fun j m' hj => ?_⟩
              by_cases hji : j = id
              · simp [Env.put, hji] at hj; have := (hM.okb q hq).1; omega
              · simp [Env.put, hji] at hj; exact (hM.okb q hq).2 j m' hj
            · intro j j' q m1 m2 hj hj'
              by_cases h1 : j = id <;> by_cases h2 : j' = id
              · omega
              · simp [Env.put, h1] at hj; simp [Env.put, h2] at hj'; have := hM.lt hj'; omega
              · simp [Env.put, h1] at hj; simp [Env.put, h2] at hj'; have := hM.lt hj; omega
              · simp [Env.put, h1] at hj; simp [Env.put, h2] at hj'; exact hM.inj j j' q m1 m2 hj hj'
            · intro j q m' hj
              by_cases hji : j = id
              · simp [Env.put, hji] at hj
                obtain ⟨rfl, rfl⟩ := hj
                subst hji
                exact ⟨by have := hM.b0; omega, cv, e, _, heap_alloc_new w.drew _, rfl, g1, by rw [List.getElem?_set_self hid], g2.move (id := j) hEm (fun _ h => h) hheap rfl⟩
              · simp [Env.put, hji] at hj
                obtain ⟨h0', c2, e2', B2, hb2, hs2, h12, hB2, hc2⟩ := hM.loc j q m' hj
                have hnr : blkRef id B2 = false := by
                  rw [List.getElem?_map] at hB2
                  cases hq : L[j]? with
                  | none => rw [hq] at hB2; cases hB2
                  | some B3 => rw [hq] at hB2; cases hB2; exact blkRef_kill id B3
                exact ⟨h0', c2, e2', B2, (heap_alloc_old w.drew _ (hM.lt hj)).trans hb2, hs2, h12, by rw [List.getElem?_set_ne (Ne.symm hji)]; exact hB2, hc2.move hEm (fun _ h => h) hheap hnr⟩
            · have := hM.b0; simp; omega
            · exact hM.wf.set g2 id

theorem copy_sound {t t' ty : TypeId} {s x : AV} {L : Heap} {k : AV → Heap → Option R} {r : R} (h0 : copyK P t s x L k = some r) :
    ∃ v L', k v L' = some r ∧ ∀ {B0 w0 ok E w u us}, Mem B0 w0 ok E L w → Rep E w ok u s → Rep E w ok us x →
      ∃ y w', (Builtin.copy_ #[t, t'] ty #[u, us]).run P w = .ok y w' ∧ Mem B0 w0 ok E L' w' ∧ Rep E w' ok y v ∧ Grow E w ok E w' ok := by
  unfold copyK at h0
  cases hu : P.underlying t with
  | none => rw [hu] at h0; cases h0
  | some d =>
    rw [hu] at h0
    cases d <;> (try simp only at h0) <;> try (cases h0; done)
    rename_i e
    obtain ⟨i, hi, h2⟩ := Option.bind_eq_some_iff.1 h0
    obtain ⟨m, new, h3, hsrc⟩ := src_sound (P := P) h2
    clear h0 h2
    cases s <;> (try simp only at h3) <;> try (cases h3; done)
    rename_i id off n cap sz
    by_cases hsz : sz = i.size
    case neg => rw [if_neg hsz] at h3; cases h3
    rw [if_pos hsz] at h3
    subst hsz
    cases hB : L[id]? with
    | none => rw [hB] at h3; cases h3
    | some B =>
      rw [hB] at h3
      cases B <;> (try simp only at h3) <;> try (cases h3; done)
      rename_i b cs
      split at h3
      case isFalse => cases h3
      rename_i hc
      obtain ⟨hfitb, hnl⟩ := hc
      refine ⟨_, _, h3, fun {B0 w0 ok E w u us} hM hu' hx => ?_⟩
      obtain ⟨a, c', vs, rfl, l3, l4, p2, o2, q2, hf⟩ := hsrc hM hx
      cases hu' with
      | slz hc0 =>
        have hq0 : Nat.min m 0 = 0 := Nat.min_eq_right (Nat.zero_le m)
        have hL : L.set id (.d b (cs.take off ++ (new.take (Nat.min m 0 * i.size) ++ cs.drop (off + Nat.min m 0 * i.size)))) = L := by
          rw [hq0]; simp; exact set_same hB
        rw [hL]
        refine ⟨_, w, ?_, hM, .ofV rfl, Grow.refl _ _ _⟩
        have hfc := hf 0 (Nat.zero_le _) w rfl
        rw [hq0]
        simp only [Nat.zero_mul, List.take_zero] at hfc
        rename_i a0
        cases a0 <;> simp [Builtin.copy_, run_underlying hu, Builtin.lenOf, sizeOf, typeInfo, hi, hfc, storeCells, goInt]
      | sl hE hn hcap hm hoff =>
        rename_i off' cp bb mm
        obtain ⟨_, cc, e', B, hb, hs', h1, hB', hcc⟩ := hM.loc _ _ _ hE
        rw [hB] at hB'; cases hB'
        have hle : b ≤ cc.size := by have := hcc.2.1; simpa using this
        generalize hq : Nat.min m n = q
        have hqm : q ≤ m := by rw [← hq]; exact Nat.min_le_left _ _
        have hqn : q ≤ n := by rw [← hq]; exact Nat.min_le_right _ _
        have hmq : q * i.size ≤ m * i.size := Nat.mul_le_mul_right _ hqm
        have hnq : q * i.size ≤ n * i.size := Nat.mul_le_mul_right _ hqn
        have hfc := hf q hqm w rfl
        have hlt : (vs.take (q * i.size)).length = q * i.size := by simp; omega
        have hlt2 : (new.take (q * i.size)).length = q * i.size := by simp; omega
        have hoff2 : q * i.size = 0 ∨ off' = off := by
          rcases hoff with h | h
          · exact .inr h
          · left
            have : q = 0 := by omega
            simp [this]
        by_cases hz : q * i.size = 0
        · have e1 : vs.take (q * i.size) = [] := List.eq_nil_of_length_eq_zero (by omega)
          have e2 : new.take (q * i.size) = [] := List.eq_nil_of_length_eq_zero (by omega)
          have hL : L.set id (.d b (cs.take off ++ (new.take (q * i.size) ++ cs.drop (off + q * i.size)))) = L := by
            rw [e2, hz]; simp; exact set_same hB
          rw [hL]
          refine ⟨_, w, ?_, hM, .ofV rfl, Grow.refl _ _ _⟩
          rw [e1] at hfc
          simp [Builtin.copy_, run_underlying hu, Builtin.lenOf, sizeOf, typeInfo, hi, hq, hfc, storeCells, goInt]
        · obtain rfl : off' = off := hoff2.resolve_left hz
          have hst := run_storeCells_at P bb off' e' (vs.take (q * i.size)) 0 cc w hb (by omega) (fun v hv => q2 v (List.mem_of_mem_take hv))
          simp only [Nat.add_zero] at hst
          have hp : PW (RepD w ok) (vs.take (q * i.size)) (new.take (q * i.size)) := fun j d hd => by
            rw [List.getElem?_take] at hd ⊢
            split at hd
            · rename_i hj; rw [if_pos hj]; exact p2 j d hd
            · cases hd
          have hsp := hcc.splice_d (off := off') (ys := new.take (q * i.size)) (xs := vs.take (q * i.size)) (by omega) (by omega) hp (fun d hd => o2 d (List.mem_of_mem_take hd))
          rw [hlt2] at hsp
          obtain ⟨hM', g⟩ := hM.splice hE hb hs' h1 (off := off') (fun v hv => q2 v (List.mem_of_mem_take hv)) (by omega) hsp
          refine ⟨_, _, ?_, hM', .ofV rfl, g⟩
          simp [Builtin.copy_, run_underlying hu, Builtin.lenOf, sizeOf, typeInfo, hi, hq, hfc, hst, goInt]

end Go.Ev
