/-
  append and copy.
-/
import Derived.Test.YtilgfaangfbndaaDoorEvOps6
import Derived.Laws.AppendOwn
set_option linter.unusedSimpArgs false
set_option linter.unusedVariables false
namespace Go.Ev
open Go Go.RowKit
variable {R : Type} {P : Program}

theorem src_sound {x : AV} {L : Heap} {size : Nat} {k : Nat → List D → Option R} {r : R} (h : srcK x L size k = some r) :
    ∃ m new, k m new = some r ∧ ∀ {B0 w0 ok E w u}, Mem B0 w0 ok E L w → Rep E w ok u x →
      ∃ a c vs, u = .slice a m c ∧ vs.length = new.length ∧ new.length = m * size ∧ PW (RepD w ok) vs new ∧ (∀ d, d ∈ new → d.one = true) ∧ (∀ v, v ∈ vs → v.oneCell' = true) ∧
        ∀ n', n' ≤ m → ∀ w', w'.heap = w.heap → (Builtin.firstCells size n' u).run P w' = .ok (vs.take (n' * size)).toArray w' := by
  unfold srcK at h
  split at h
  · rename_i n cap cs
    split at h
    · rename_i hl
      refine ⟨n, cs, h, fun {B0 w0 ok E w u} hM hu => ?_⟩
      cases hu with
      | d hu =>
        cases hu with
        | nil hc0 =>
          rename_i a
          refine ⟨a, 0, [], rfl, rfl, hl, fun j a ha => by simp at ha, by simp, by simp, fun n' hn' w' hw' => ?_⟩
          obtain rfl : n' = 0 := by omega
          cases a with
          | none => simp [Builtin.firstCells]
          | some a => simp [Builtin.firstCells, loadCells, loadCellsFrom]
        | list hok hn hcap h1 hcell hrep =>
          rename_i b off cp f
          have hpw : PW (RepD w ok) ((List.range cs.length).map f) cs := fun j d hd => by
            have hj := (List.getElem?_eq_some_iff.1 hd).1
            exact ⟨f j, by simp [hj], hrep j d hd⟩
          refine ⟨some ⟨b, off, none⟩, cp, (List.range cs.length).map f, rfl, by simp, hl, hpw, h1, fun v hv => ?_, fun n' hn' w' hw' => ?_⟩
          · obtain ⟨j, hj, rfl⟩ := List.mem_map.1 hv
            have hj' : j < cs.length := List.mem_range.1 hj
            exact (hrep j _ (List.getElem?_eq_getElem hj')).one (h1 _ (List.getElem_mem hj'))
          · have hle : n' * size ≤ cs.length := by rw [hl]; exact Nat.mul_le_mul_right _ hn'
            refine run_firstCells_some w' size n' _ n cp _ (by simp; omega) (fun j v hv => ?_)
            rw [addr_add]
            rw [List.getElem?_take] at hv
            split at hv
            · rename_i hj
              rw [List.getElem?_map] at hv
              cases hr : (List.range cs.length)[j]? with
              | none => rw [hr] at hv; cases hv
              | some q =>
                rw [hr] at hv; cases hv
                obtain ⟨hq, rfl⟩ := List.getElem?_eq_some_iff.1 hr
                simp at hq ⊢
                have : w'.cell? ⟨b, off + j, none⟩ = w.cell? ⟨b, off + j, none⟩ := by simp [World.cell?, hw']
                rw [this]; exact hcell j hq
            · cases hv
    · cases h
  · rename_i id off n cap sz
    split at h
    · rename_i hsz
      split at h
      · rename_i m cs hB
        obtain ⟨xs, hk, hx⟩ := cut_some h
        refine ⟨n, xs, hk, fun {B0 w0 ok E w u} hM hu => ?_⟩
        cases hu with
        | slz hc0 =>
          rename_i a
          obtain ⟨_, rfl⟩ := hx (hM.wf _ _ hB)
          refine ⟨a, 0, [], rfl, by simp, by simp, fun j a ha => by simp at ha, by simp, by simp, fun n' hn' w' hw' => ?_⟩
          obtain rfl : n' = 0 := by omega
          cases a with
          | none => simp [Builtin.firstCells]
          | some a => simp [Builtin.firstCells, loadCells, loadCellsFrom]
        | sl hE hn' hcap hm hoff =>
          rename_i off' cp b m'
          obtain ⟨_, c, e', B, hb, hs', h1, hB', hc⟩ := hM.loc _ _ _ hE
          rw [hB] at hB'; cases hB'
          obtain ⟨hlen, hle, ho, hcc⟩ := hc
          obtain ⟨hfit, rfl⟩ := hx hlen
          have hle' : m ≤ c.size := by simpa using hle
          have hpw : PW (RepD w ok) ((c.toList.drop off).take (n * size)) ((cs.drop off).take (n * size)) := fun j d hd => by
            rw [List.getElem?_take] at hd
            split at hd
            · rename_i hj
              rw [List.getElem?_drop] at hd
              obtain ⟨x, hx, hr⟩ := hcc _ d hd
              exact ⟨x, by rw [List.getElem?_take, if_pos hj, List.getElem?_drop]; exact hx, hr⟩
            · cases hd
          refine ⟨some ⟨b, off', none⟩, cp, (c.toList.drop off).take (n * size), rfl, by simp; omega, by simp; omega, hpw, fun d hd => ho d (List.mem_of_mem_drop (List.mem_of_mem_take hd)), fun v hv => h1 v (List.mem_of_mem_drop (List.mem_of_mem_take hv)), fun n' hn1 w' hw' => ?_⟩
          have hle2 : n' * size ≤ n * size := Nat.mul_le_mul_right _ hn1
          refine run_firstCells_some w' size n' _ n cp _ (by simp; omega) (fun j v hv => ?_)
          rw [addr_add]
          rw [List.getElem?_take] at hv
          split at hv
          · rename_i hj
            rw [List.getElem?_take] at hv
            split at hv
            · rw [List.getElem?_drop] at hv
              have hoff' : off' = off := by
                rcases hoff with h | h
                · exact h
                · exfalso
                  have : n' = 0 := by omega
                  subst this; simp at hj
              rw [hoff', cell_of_row w' b (off + j) c e' (0, 0) (by rw [hw']; exact hb)]
              simpa using hv
            · cases hv
          · cases hv
      · cases h
    · cases h
  · cases h

theorem run_append_realloc {t ty e : TypeId} {i : TypeInfo} {z : Value} (ht : P.underlying t = some (.slice e)) (hi : P.info? e = some i) (hz : i.zero = some z) {w : World}
    {base : Option Addr} {sLen sCap m : Nat} {a : Option Addr} {c : Nat} (hg : sCap < sLen + m) (h63 : sLen + m ≤ 9223372036854775807) (hb : (sLen + m) * i.bytes ≤ 140737488355328)
    {olds news : List Value} (ho : (Builtin.firstCells i.size sLen (.slice base sLen sCap)).run P w.drew = .ok olds.toArray w.drew) (hn : (Builtin.firstCells i.size m (.slice a m c)).run P w.drew = .ok news.toArray w.drew) :
    (Builtin.append_ #[t, t] ty #[.slice base sLen sCap, .slice a m c]).run P w =
      .ok (.slice (some ⟨w.heap.size, 0, none⟩) (sLen + m) (grownCap w (sLen + m) sCap e))
        (w.drew.alloc (.cells (olds.toArray ++ news.toArray ++ Builtin.zeroCells z.cells (grownCap w (sLen + m) sCap e - (sLen + m))) e)) := by
  have hno : ¬ (sLen + m ≤ sCap) := by omega
  have h63' : ¬ (9223372036854775807 < ((sLen : Int) + (m : Int))) := by omega
  have hfit := growslice_fits (old := sCap) hg hb
  have h48' : ¬ (281474976710656 < Builtin.nextslicecap (sLen + m) sCap * i.bytes) := by omega
  simp [Builtin.append_, run_underlying ht, sizeOf, typeInfo, zeroValue, hi, hz, Builtin.lenOf, hno, h63', h48', Question.forced, ho, hn, newRow, grownCap]
  congr 2
  apply Array.ext'
  simp [List.append_assoc]

theorem run_append_in {t ty e : TypeId} {i : TypeInfo} (ht : P.underlying t = some (.slice e)) (hi : P.info? e = some i) {w : World} {g o sLen sCap m : Nat} {a : Option Addr} {c : Nat} (hroom : sLen + m ≤ sCap)
    {cur : Array Value} {e' : TypeId} (hg : w.heap[g]? = some (.cells cur e' (0, 0))) {news : List Value} (hn : (Builtin.firstCells i.size m (.slice a m c)).run P w = .ok news.toArray w) (h1 : ∀ v, v ∈ news → v.oneCell' = true)
    (hfit : o + sLen * i.size + news.length ≤ cur.size) :
    (Builtin.append_ #[t, t] ty #[.slice (some ⟨g, o, none⟩) sLen sCap, .slice a m c]).run P w =
      .ok (.slice (some ⟨g, o, none⟩) (sLen + m) sCap) (w.setRow g (cur.toList.take (o + sLen * i.size) ++ news ++ cur.toList.drop (o + sLen * i.size + news.length)).toArray) := by
  have hst := run_storeCells_at P g (o + sLen * i.size) e' news 0 cur w hg (by simpa using hfit) h1
  simp only [Nat.add_zero] at hst
  simp [Builtin.append_, run_underlying ht, sizeOf, typeInfo, hi, Builtin.lenOf, hroom, hn, addr_add, hst]

/-- Nothing is appended where there is room: the slice itself. -/
theorem run_append_zero {t ty e : TypeId} {i : TypeInfo} (ht : P.underlying t = some (.slice e)) (hi : P.info? e = some i) {w : World} {s : Option Addr} {sLen sCap : Nat} {a : Option Addr} {c : Nat} (hroom : sLen ≤ sCap)
    (hn : (Builtin.firstCells i.size 0 (.slice a 0 c)).run P w = .ok #[] w) :
    (Builtin.append_ #[t, t] ty #[.slice s sLen sCap, .slice a 0 c]).run P w = .ok (.slice s sLen sCap) w := by
  cases s with
  | none => simp [Builtin.append_, run_underlying ht, sizeOf, typeInfo, hi, Builtin.lenOf, hroom, hn]
  | some s => simp [Builtin.append_, run_underlying ht, sizeOf, typeInfo, hi, Builtin.lenOf, hroom, hn, storeCells]


/-- The slots stand for the temporaries. -/
def SlRep (E : Env) (w : World) (ok : Nat → Prop) (tmps : Array Value) (sl : List AV) : Prop := ∀ (t : Nat) c, sl[t]? = some c → Rep E w ok (tmps.getD t undef) c

theorem SlRep.grow {E E' : Env} {w w' : World} {ok ok' : Nat → Prop} (g : Grow E w ok E' w' ok') {tmps : Array Value} {sl : List AV} (h : SlRep E w ok tmps sl) : SlRep E' w' ok' tmps sl := fun t c hc => (h t c hc).grow g

theorem noRefs_mem {id : Nat} : ∀ {cs : List AV}, hasRef.hasRefs id cs = false → ∀ (i : Nat) c, cs[i]? = some c → hasRef id c = false
  | [], _, i, c, hc => by simp at hc
  | x :: r, h, i, c, hc => by
    simp only [hasRef.hasRefs, Bool.or_eq_false_iff] at h
    cases i with
    | zero => simp at hc; subst hc; exact h.1
    | succ i => exact noRefs_mem h.2 i c (by simpa using hc)

/-- What leads nowhere near block 'id' stands where that block has moved. -/
theorem Rep.move {E E' : Env} {w w' : World} {ok ok' : Nat → Prop} {id : Nat} (hE : ∀ i x, i ≠ id → E i = some x → E' i = some x) (hok : ∀ b, ok b → ok' b) (hh : ∀ b, ok b → w'.heap[b]? = w.heap[b]?)
    {x : Value} {c : AV} (h : Rep E w ok x c) : hasRef id c = false → Rep E' w' ok' x c := by
  induction h with
  | d h => exact fun _ => .d (h.mono hok hh)
  | agg hlen h1 _ ih => exact fun hr => .agg hlen h1 (fun i x c hx hc => ih i x c hx hc (noRefs_mem hr i c hc))
  | tup hlen _ ih => exact fun hr => .tup hlen (fun i x c hx hc => ih i x c hx hc (noRefs_mem hr i c hc))
  | ptr he => exact fun hr => .ptr (hE _ _ (by simpa [hasRef] using hr) he)
  | sl he hn hc hm ho => exact fun hr => .sl (hE _ _ (by simpa [hasRef] using hr) he) hn hc hm ho
  | slz hc => exact fun _ => .slz hc
  | lp hb h1 hcell hrep => exact fun _ => .lp (hok _ hb) h1 (fun j hj => (World.cell?_of_block (hh _ hb)).trans (hcell j hj)) (fun j d hd => (hrep j d hd).mono hok hh)
  | clo hlen _ ih => exact fun hr => .clo hlen (fun i x c hx hc => ih i x c hx hc (noRefs_mem hr i c hc))
  | junk => exact fun _ => .junk

theorem CellsRep.move {E E' : Env} {w w' : World} {ok ok' : Nat → Prop} {id : Nat} (hE : ∀ i x, i ≠ id → E i = some x → E' i = some x) (hok : ∀ b, ok b → ok' b) (hh : ∀ b, ok b → w'.heap[b]? = w.heap[b]?)
    {c : List Value} {B : Blk} (h : CellsRep E w ok c B) (hr : blkRef id B = false) : CellsRep E' w' ok' c B := by
  cases B with
  | dead => exact h
  | d n cs => exact ⟨h.1, h.2.1, h.2.2.1, fun j d hd => let ⟨x, hx, hr⟩ := h.2.2.2 j d hd; ⟨x, hx, hr.mono hok hh⟩⟩
  | a n cs => exact ⟨h.1, h.2.1, fun j d hd => let ⟨x, hx, hr'⟩ := h.2.2 j d hd; ⟨x, hx, hr'.move hE hok hh (by
      have := List.any_eq_false.1 (show cs.any (hasRef id) = false from hr) d (List.mem_of_getElem? hd)
      simpa using this)⟩⟩

theorem SlRep.move {E E' : Env} {w w' : World} {ok ok' : Nat → Prop} {id : Nat} (hE : ∀ i x, i ≠ id → E i = some x → E' i = some x) (hok : ∀ b, ok b → ok' b) (hh : ∀ b, ok b → w'.heap[b]? = w.heap[b]?)
    {tmps : Array Value} {sl : List AV} (h : SlRep E w ok tmps sl) : SlRep E' w' ok' tmps (kill id sl) := by
  intro t c hc
  unfold kill at hc
  rw [List.getElem?_map] at hc
  cases hs : sl[t]? with
  | none => rw [hs] at hc; cases hc
  | some x =>
    rw [hs] at hc
    simp only [Option.map_some, Option.some.injEq] at hc
    subst hc
    split
    · exact .junk
    · rename_i hr; exact (h t x hs).move hE hok hh (by simpa using hr)

theorem PW.append {α : Type} {ρ : Value → α → Prop} {c1 c2 : List Value} {a1 a2 : List α} (h1 : PW ρ c1 a1) (h2 : PW ρ c2 a2) (hl : c1.length = a1.length) : PW ρ (c1 ++ c2) (a1 ++ a2) := by
  intro j a ha
  by_cases hj : j < a1.length
  · rw [List.getElem?_append_left (by omega)] at ha ⊢
    exact h1 j a ha
  · rw [List.getElem?_append_right (by omega)] at ha ⊢
    rw [hl]; exact h2 _ a ha
theorem PW.more {α : Type} {ρ : Value → α → Prop} {c1 : List Value} {a1 : List α} (h1 : PW ρ c1 a1) (c2 : List Value) : PW ρ (c1 ++ c2) a1 := by
  intro j a ha
  obtain ⟨x, hx, hr⟩ := h1 j a ha
  exact ⟨x, by rw [List.getElem?_append_left (List.getElem?_eq_some_iff.1 hx).1]; exact hx, hr⟩

theorem zeroCells_one {z : Array Value} {n s : Nat} (hs : z.size = s) (h1 : ∀ x, x ∈ z.toList → x.oneCell' = true) : ∀ x, x ∈ (Builtin.zeroCells z n).toList → x.oneCell' = true := by
  intro x hx
  have e : Builtin.zeroCells z n = madeCells z (n * s) := by subst hs; rfl
  rw [e] at hx
  exact made_one hs h1 x hx

/-- The block that a grown slice gets. -/
theorem grown_block {e : TypeId} {z : Nat × List D} (hz : zerosOf P e = some z) {i : TypeInfo} (hi : P.info? e = some i) :
    ∃ zv, i.zero = some zv ∧ ∀ {w ok E} {olds news : List Value} {n m cap : Nat} {cs new : List D}, olds.length = cs.length → cs.length = n * i.size → news.length = new.length → new.length = m * i.size → n + m ≤ cap →
      PW (RepD w ok) olds cs → PW (RepD w ok) news new → (∀ d, d ∈ cs → d.one = true) → (∀ d, d ∈ new → d.one = true) → (∀ v, v ∈ olds → v.oneCell' = true) → (∀ v, v ∈ news → v.oneCell' = true) →
      (∀ x, x ∈ (olds.toArray ++ news.toArray ++ Builtin.zeroCells zv.cells (cap - (n + m))).toList → x.oneCell' = true) ∧ CellsRep E w ok (olds.toArray ++ news.toArray ++ Builtin.zeroCells zv.cells (cap - (n + m))).toList (.d ((n + m) * i.size) (cs ++ new)) ∧
        (olds.toArray ++ news.toArray ++ Builtin.zeroCells zv.cells (cap - (n + m))).size = cap * i.size := by
  obtain ⟨i', zv, hi', hzv, e1, e2, e3, p, o, q⟩ := zerosOf_some hz
  rw [hi] at hi'; cases hi'
  refine ⟨zv, hzv, fun {w ok E olds news n m cap cs new} h1 h2 h3 h4 h5 p1 p2 o1 o2 q1 q2 => ⟨fun x hx => ?_, ⟨?_, ?_, ?_, ?_⟩, ?_⟩⟩
  · simp only [Array.toList_append, List.mem_append] at hx
    rcases hx with (hx | hx) | hx
    · exact q1 x hx
    · exact q2 x hx
    · exact zeroCells_one (by simpa using e3) q x hx
  · simp [h2, h4, Nat.add_mul]
  · simp [h1, h2, h3, h4, Nat.add_mul]
  · intro d hd
    rcases List.mem_append.1 hd with hd | hd
    · exact o1 d hd
    · exact o2 d hd
  · simp only [Array.toList_append]
    exact (p1.append p2 h1).more _
  · have e4 : zv.cells.size = i.size := by simpa using e3
    simp only [Array.size_append, List.size_toArray, size_zeroCells, h1, h2, h3, h4, e4, ← Nat.add_mul]
    congr 1; omega

end Go.Ev
