/-
  Operations that make memory: variables, boxes, literals, slices; append and copy.
-/
import Derived.Test.YtilgfaangfbndaaDoorEvOps5
import Derived.Laws.Append
import Derived.Laws.MakeOwn
set_option linter.unusedSimpArgs false
set_option linter.unusedVariables false
namespace Go.Ev
open Go Go.RowKit
variable {R : Type} {P : Program}

theorem zeroD_some {x : Value} {d : D} (h : zeroD x = some d) {w : World} {ok : Nat → Prop} : RepD w ok x d ∧ d.one = true ∧ x.oneCell' = true := by
  have key : RepD w ok x d ∧ d.one = true := by
    unfold zeroD at h
    split at h
    · cases h; exact ⟨.nil (.inr rfl), rfl⟩
    · split at h
      · rename_i hl; cases h; exact ⟨.v hl, rfl⟩
      · cases h
  exact ⟨key.1, key.2, key.1.one key.2⟩

theorem zerosD_some : ∀ {xs : List Value} {ds : List D}, zerosD xs = some ds → xs.length = ds.length ∧ (∀ {w ok}, PW (RepD w ok) xs ds) ∧ (∀ d, d ∈ ds → d.one = true) ∧ ∀ x, x ∈ xs → x.oneCell' = true
  | [], ds, h => by simp [zerosD] at h; subst h; exact ⟨rfl, fun j a ha => by simp at ha, by simp, by simp⟩
  | x :: r, ds, h => by
    simp only [zerosD] at h
    obtain ⟨d, hd, h1⟩ := Option.bind_eq_some_iff.1 h
    obtain ⟨es, he, h2⟩ := Option.bind_eq_some_iff.1 h1
    cases h2
    obtain ⟨l, p, o, q⟩ := zerosD_some he
    refine ⟨by simp [l], fun {w ok} j a ha => ?_, ?_, ?_⟩
    · cases j with
      | zero => simp at ha; subst ha; exact ⟨x, rfl, (zeroD_some hd).1⟩
      | succ j => simp at ha; simpa using p j a ha
    · intro d' hd'
      rcases List.mem_cons.1 hd' with rfl | h
      · exact (zeroD_some hd (w := default) (ok := fun _ => True)).2.1
      · exact o _ h
    · intro d' hd'
      rcases List.mem_cons.1 hd' with rfl | h
      · exact (zeroD_some hd (w := default) (ok := fun _ => True)).2.2
      · exact q _ h

theorem zerosOf_some {t : TypeId} {z : Nat × List D} (h : zerosOf P t = some z) : ∃ i zv, P.info? t = some i ∧ i.zero = some zv ∧ z.1 = i.size ∧ z.2.length = i.size ∧ zv.cells.toList.length = i.size ∧ (∀ {w ok}, PW (RepD w ok) zv.cells.toList z.2) ∧ (∀ d, d ∈ z.2 → d.one = true) ∧ ∀ x, x ∈ zv.cells.toList → x.oneCell' = true := by
  unfold zerosOf at h
  obtain ⟨i, hi, h1⟩ := Option.bind_eq_some_iff.1 h
  obtain ⟨zv, hz, h2⟩ := Option.bind_eq_some_iff.1 h1
  obtain ⟨ds, hd, h3⟩ := Option.bind_eq_some_iff.1 h2
  split at h3
  · rename_i hl
    cases h3
    obtain ⟨l, p, o, q⟩ := zerosD_some hd
    exact ⟨i, zv, hi, hz, rfl, hl, by omega, p, o, q⟩
  · cases h3

/-- What an operation that makes a block of the call's own leaves. -/
theorem new_block {B0 : Nat} {w0 : World} {ok : Nat → Prop} {E : Env} {L : Heap} {w w1 : World} (hM : Mem B0 w0 ok E L w) (c : Array Value) (e : TypeId) (B : Blk)
    (h1 : ∀ x, x ∈ c.toList → x.oneCell' = true) (hc : CellsRep E w ok c.toList B) (hw : w1 = w.alloc (.cells c e)) :
    ∃ E', Mem B0 w0 ok E' (L ++ [B]) w1 ∧ Grow E w ok E' w1 ok ∧ E' L.length = some (w.heap.size, c.size) ∧ Below w.heap.size w w1 ∧ (∀ id, E id = none → id ≠ L.length → E' id = none) := by
  subst hw
  exact ⟨E.put L.length (w.heap.size, c.size), hM.alloc c e B h1 hc, Grow.alloc hM _ _, by simp [Env.put], (Below.refl _ _).alloc (Nat.le_refl _) _, fun id hid hne => by simp [Env.put, hne, hid]⟩

theorem alloc_sound {t : TypeId} {z : Nat × List D} (h : zerosOf P t = some z) {B0 : Nat} {w0 : World} {ok : Nat → Prop} {E : Env} {L : Heap} {w : World} (hM : Mem B0 w0 ok E L w) :
    ∃ w' E', (Instr.alloc t true (.tuple #[])).run P w = .ok (.pointer (some ⟨w.heap.size, 0, none⟩)) w' ∧ Mem B0 w0 ok E' (L ++ [.d z.1 z.2]) w' ∧ Grow E w ok E' w' ok ∧ Rep E' w' ok (.pointer (some ⟨w.heap.size, 0, none⟩)) (.ptr L.length 0) ∧ Below w.heap.size w w' ∧ (∀ id, E id = none → id ≠ L.length → E' id = none) := by
  obtain ⟨i, zv, hi, hz, e1, e2, e3, p, o, q⟩ := zerosOf_some h
  obtain ⟨E', hM', g, hE, hb, hn⟩ := new_block (w1 := w.alloc (.cells zv.cells t)) hM zv.cells t (.d z.1 z.2) q ⟨by omega, by omega, o, p⟩ rfl
  exact ⟨_, E', by simp [Instr.alloc, Sem.run_bind, zeroValue, typeInfo, hi, hz, newVar, newRow, newObj, Sem.run], hM', g, .ptr hE, hb, hn⟩

theorem blkOf_some {size : Nat} {x : AV} {k : Blk → Option R} {r : R} (h : blkOf size x k = some r) :
    ∃ B, k B = some r ∧ ∀ {E w ok u}, Rep E w ok u x → CellsRep E w ok u.cells.toList B ∧ ∀ v, v ∈ u.cells.toList → v.oneCell' = true := by
  unfold blkOf at h
  split at h
  · rename_i cs
    split at h
    · rename_i hl
      refine ⟨_, h, fun hu => ?_⟩
      cases hu with
      | d hu =>
        obtain ⟨l1, p1, o1, q1⟩ := repD_agg_inv hu
        exact ⟨⟨hl, by omega, o1, p1⟩, q1⟩
    · cases h
  · rename_i d hd
    split at h
    · rename_i h1
      refine ⟨_, h, fun hu => ?_⟩
      cases hu with
      | d hu =>
        have hc := cells_one (hu.one h1.2)
        rw [hc]
        exact ⟨⟨rfl, by simp, by simp [h1.2], pw_one hu⟩, by simp [hu.one h1.2]⟩
    · cases h
  · rename_i cs
    split at h
    · rename_i hl
      refine ⟨_, h, fun hu => ?_⟩
      obtain ⟨l1, p1, o1, q1⟩ := rep_agg_inv hu
      exact ⟨⟨hl, by omega, p1⟩, q1⟩
    · cases h
  · split at h
    · rename_i h1
      refine ⟨_, h, fun hu => ?_⟩
      have hc := cells_one (hu.one h1.2)
      rw [hc]
      exact ⟨⟨rfl, by simp, pw_one hu⟩, by simp [hu.one h1.2]⟩
    · cases h

theorem box_sound {t : TypeId} {B0 : Nat} {w0 : World} {ok : Nat → Prop} {E : Env} {L : Heap} {w : World} (hM : Mem B0 w0 ok E L w) {u : Value} {B : Blk} (hc : CellsRep E w ok u.cells.toList B) (h1 : ∀ v, v ∈ u.cells.toList → v.oneCell' = true) :
    ∃ w' E', (Instr.box t u).run P w = .ok (.pointer (some ⟨w.heap.size, 0, none⟩)) w' ∧ Mem B0 w0 ok E' (L ++ [B]) w' ∧ Grow E w ok E' w' ok ∧ Rep E' w' ok (.pointer (some ⟨w.heap.size, 0, none⟩)) (.ptr L.length 0) ∧ Below w.heap.size w w' ∧ (∀ id, E id = none → id ≠ L.length → E' id = none) := by
  obtain ⟨E', hM', g, hE, hb, hn⟩ := new_block (w1 := w.alloc (.cells u.cells t)) hM u.cells t B h1 hc rfl
  exact ⟨_, E', by simp [Instr.box, Sem.run_bind, newVar, newRow, newObj, Sem.run], hM', g, .ptr hE, hb, hn⟩

/-! ### Parts laid into a row -/
theorem fill_foldl (o : Nat) : ∀ (vs : List Value) (i : Nat) (cs : Array Value), o + i + vs.length ≤ cs.size →
    ((vs.zipIdx i).foldl (fun cs (c, j) => cs.setIfInBounds (o + j) c) cs).toList = cs.toList.take (o + i) ++ (vs ++ cs.toList.drop (o + i + vs.length))
  | [], i, cs, _ => by simp
  | v :: vs, i, cs, h => by
    simp only [List.zipIdx_cons, List.foldl_cons]
    rw [fill_foldl o vs (i + 1) _ (by simp at h ⊢; omega)]
    have e := list_seg_step cs.toList (o + i) v vs (by simp at h ⊢; omega)
    simpa [Array.toList_setIfInBounds, Nat.add_assoc] using e

theorem fill_sound {n : Nat} {place : Nat → Option (Nat × Nat)} : ∀ {parts : List (Nat × AV)} {cs : List AV} {k : List AV → Option R} {r : R}, fillK n place cs parts k = some r → cs.length = n →
    ∃ cs', k cs' = some r ∧ cs'.length = n ∧ ∀ {E : Env} {w : World} {ok : Nat → Prop} {c : Array Value} {ps : List (Nat × Value)}, c.size = n → PW (Rep E w ok) c.toList cs → (∀ x, x ∈ c.toList → x.oneCell' = true) →
      ps.length = parts.length → (∀ (i : Nat) p q, ps[i]? = some p → parts[i]? = some q → p.1 = q.1 ∧ Rep E w ok p.2 q.2) →
      ∃ c', Instr.fill place c ps = some c' ∧ c'.size = n ∧ PW (Rep E w ok) c'.toList cs' ∧ ∀ x, x ∈ c'.toList → x.oneCell' = true
  | [], cs, k, r, h, hn => ⟨cs, h, hn, fun {E w ok c ps} hc hp h1 hl hr => by
      have : ps = [] := List.eq_nil_of_length_eq_zero (by simpa using hl)
      subst this
      exact ⟨c, rfl, hc, hp, h1⟩⟩
  | (i, x) :: parts, cs, k, r, h, hn => by
    simp only [fillK] at h
    obtain ⟨⟨off, size⟩, hpl, h2⟩ := Option.bind_eq_some_iff.1 h
    clear h
    simp only at h2
    -- one part
    have step : ∀ (ys : List AV), off + ys.length ≤ n → (∀ {E w ok u}, Rep E w ok u x → u.cells.toList.length = ys.length ∧ ys.length = size ∧ PW (Rep E w ok) u.cells.toList ys ∧ ∀ v, v ∈ u.cells.toList → v.oneCell' = true) →
        fillK n place (cs.take off ++ (ys ++ cs.drop (off + ys.length))) parts k = some r →
        ∃ cs', k cs' = some r ∧ cs'.length = n ∧ ∀ {E : Env} {w : World} {ok : Nat → Prop} {c : Array Value} {ps : List (Nat × Value)}, c.size = n → PW (Rep E w ok) c.toList cs → (∀ x, x ∈ c.toList → x.oneCell' = true) →
          ps.length = ((i, x) :: parts).length → (∀ (j : Nat) p q, ps[j]? = some p → ((i, x) :: parts)[j]? = some q → p.1 = q.1 ∧ Rep E w ok p.2 q.2) →
          ∃ c', Instr.fill place c ps = some c' ∧ c'.size = n ∧ PW (Rep E w ok) c'.toList cs' ∧ ∀ x, x ∈ c'.toList → x.oneCell' = true := by
      intro ys hfit hys hk
      obtain ⟨cs', hk', hl', hs⟩ := fill_sound hk (by rw [length_splice (by omega)]; exact hn)
      refine ⟨cs', hk', hl', fun {E w ok c ps} hc hp h1 hl hr => ?_⟩
      match ps, hl with
      | (i', u) :: ps, hl =>
        obtain ⟨hi, hu⟩ := hr 0 (i', u) (i, x) rfl rfl
        simp only at hi hu
        subst hi
        obtain ⟨l1, l2, p1, o1⟩ := hys hu
        have hsz : u.cells.size = size := by simp at l1; omega
        have hfo := fill_foldl off u.cells.toList 0 c (by simp at l1 ⊢; omega)
        simp only [Nat.add_zero] at hfo
        have e1 : u.cells.zipIdx.foldl (fun cs (c, j) => cs.setIfInBounds (off + j) c) c = (u.cells.toList.zipIdx 0).foldl (fun cs (c, j) => cs.setIfInBounds (off + j) c) c := by
          rw [← Array.foldl_toList]; simp
        obtain ⟨c', hc', r1, r2, r3⟩ := hs (E := E) (w := w) (ok := ok) (c := (u.cells.toList.zipIdx 0).foldl (fun cs (c, j) => cs.setIfInBounds (off + j) c) c) (ps := ps)
          (by rw [← Array.length_toList, hfo]; simp at l1 ⊢; omega)
          (by rw [hfo, ← List.append_assoc]; exact PW.splice hp p1 l1 (by omega) (by simp; omega))
          (by rw [hfo]; exact splice_mem (p := fun (v : Value) => v.oneCell' = true) h1 o1)
          (by simpa using hl) (fun j p q hp hq => hr (j + 1) p q hp hq)
        refine ⟨c', ?_, r1, r2, r3⟩
        simp only [Instr.fill, hpl, hsz]
        rw [if_neg (by simp at l1 ⊢; omega), e1]
        exact hc'
    cases x with
    | d xd =>
      cases xd with
      | agg ys =>
        simp only at h2
        split at h2
        · rename_i hys
          obtain ⟨zs, hk, hz⟩ := put_some h2
          obtain ⟨hle, rfl⟩ := hz hn (by simpa using hys)
          refine step (ys.map AV.d) (by simp; omega) (fun hu => ?_) (by simpa [hys] using hk)
          cases hu with
          | d hu =>
            obtain ⟨l1, p1, o1, q1⟩ := repD_agg_inv hu
            exact ⟨by simpa using l1, by simpa using hys, PW.toAV p1, q1⟩
        · cases h2
      | _ =>
        simp only at h2
        split at h2
        · rename_i hx
          obtain ⟨hs1, hoff, hone⟩ := hx
          rw [set_splice cs off _ (by omega)] at h2
          refine step [_] (by simp; omega) (fun hu => ?_) h2
          have hc := cells_one (hu.one hone)
          rw [hc]
          exact ⟨rfl, by simp [hs1], pw_one hu, by simp [hu.one hone]⟩
        · cases h2
    | agg ys =>
      simp only at h2
      split at h2
      · rename_i hys
        obtain ⟨zs, hk, hz⟩ := put_some h2
        obtain ⟨hle, rfl⟩ := hz hn hys
        refine step ys (by omega) (fun hu => ?_) (by rw [hys]; exact hk)
        obtain ⟨l1, p1, o1, q1⟩ := rep_agg_inv hu
        exact ⟨l1, hys, p1, q1⟩
      · cases h2
    | _ =>
      simp only at h2
      split at h2
      · rename_i hx
        obtain ⟨hs1, hoff, hone⟩ := hx
        rw [set_splice cs off _ (by omega)] at h2
        refine step [_] (by simp; omega) (fun hu => ?_) h2
        have hc := cells_one (hu.one hone)
        rw [hc]
        exact ⟨rfl, by simp [hs1], pw_one hu, by simp [hu.one hone]⟩
      · cases h2


theorem pw_one_of {E : Env} {w : World} {ok : Nat → Prop} {c : List Value} {cs : List AV} (h : PW (Rep E w ok) c cs) (hl : c.length = cs.length) : ∀ (i : Nat) x a, c[i]? = some x → cs[i]? = some a → Rep E w ok x a := by
  intro i x a hx ha
  obtain ⟨y, hy, hr⟩ := h i a ha
  rw [hx] at hy; cases hy; exact hr

/-- 'build': the parts laid into the zero value. -/
theorem build_sound {t : TypeId} {z : Nat × List D} (hz : zerosOf P t = some z) {place : Nat → Option (Nat × Nat)} {parts : List (Nat × AV)} {k : AV → Option R} {r : R}
    (h : fillK z.1 place (z.2.map AV.d) parts (fun cs => if cs.all AV.one then k (mkAgg cs) else none) = some r)
    (hb : ∀ (ps : List (Nat × Value)) c c', (∃ i zv, P.info? t = some i ∧ i.zero = some zv ∧ zv.cells = c) → Instr.fill place c ps = some c' → P.built t ps = some c') :
    ∃ v, k v = some r ∧ ∀ {E : Env} {w : World} {ok : Nat → Prop} {ps : List (Nat × Value)}, ps.length = parts.length → (∀ (i : Nat) p q, ps[i]? = some p → parts[i]? = some q → p.1 = q.1 ∧ Rep E w ok p.2 q.2) →
      ∃ y, (Instr.build t ps.toArray).run P w = .ok y w ∧ Rep E w ok y v := by
  obtain ⟨i, zv, hi, hzv, e1, e2, e3, p, o, q⟩ := zerosOf_some hz
  obtain ⟨cs', hk, hl', hs⟩ := fill_sound h (by simp; omega)
  split at hk
  · rename_i hall
    refine ⟨_, hk, fun {E w ok ps} hl hr => ?_⟩
    obtain ⟨c', hc', r1, r2, r3⟩ := hs (E := E) (w := w) (ok := ok) (c := zv.cells) (by simp at e3; omega) (PW.toAV p) q hl hr
    refine ⟨_, run_build w t ps.toArray c' (hb ps _ _ ⟨i, zv, hi, hzv, rfl⟩ hc'), ?_⟩
    have := rep_mkAgg (E := E) (w := w) (ok := ok) (vs := c'.toList) (cs := cs') (by simp; omega) (fun c hc => List.all_eq_true.1 hall c hc) (pw_one_of r2 (by simp; omega))
    simpa using this
  · cases hk

theorem flatten_get {α : Type} : ∀ (n : Nat) (ds : List α) (j : Nat), j < n * ds.length → (List.replicate n ds).flatten[j]? = ds[j % ds.length]?
  | 0, ds, j, h => by simp at h
  | n + 1, ds, j, h => by
    rw [List.replicate_succ, List.flatten_cons]
    by_cases hj : j < ds.length
    · rw [List.getElem?_append_left hj, Nat.mod_eq_of_lt hj]
    · rw [List.getElem?_append_right (by omega), flatten_get n ds (j - ds.length) (by rw [Nat.succ_mul] at h; omega)]
      conv => rhs; rw [Nat.mod_eq_sub_mod (by omega)]

theorem made_get {z : Array Value} {n s : Nat} (hs : z.size = s) (j : Nat) (hj : j < n * s) : (madeCells z (n * s)).toList[j]? = z.toList[j % s]? := by
  have hs0 : 0 < s := by
    rcases Nat.eq_zero_or_pos s with h | h
    · subst h; simp at hj
    · exact h
  have hm : j % s < z.size := by rw [hs]; exact Nat.mod_lt _ hs0
  simp [madeCells, hj, hs, hm]
  rw [getElem!_pos z _ hm, getElem?_pos z _ hm]

/-- A row of zeros: in the machine, and here. -/
theorem zeros_row {z : Array Value} {ds : List D} {s : Nat} (hs : z.toList.length = s) (hd : ds.length = s) {w : World} {ok : Nat → Prop} (p : PW (RepD w ok) z.toList ds) (n : Nat) : PW (RepD w ok) (madeCells z (n * s)).toList (List.replicate n ds).flatten := by
  intro j d hj
  have hlt := (List.getElem?_eq_some_iff.1 hj).1
  simp [hd] at hlt
  rw [flatten_get n ds j (by rw [hd]; exact hlt), hd] at hj
  rw [made_get (by simpa using hs) j hlt]
  exact p _ d hj

theorem made_one {z : Array Value} {n s : Nat} (hs : z.size = s) (h1 : ∀ x, x ∈ z.toList → x.oneCell' = true) : ∀ x, x ∈ (madeCells z (n * s)).toList → x.oneCell' = true := by
  intro x hx
  obtain ⟨j, hj, rfl⟩ := List.getElem_of_mem hx
  have hj' : j < n * s := by simpa [size_madeCells] using hj
  have := made_get hs j hj'
  rw [List.getElem?_eq_getElem hj] at this
  exact h1 _ (List.mem_of_getElem? this.symm)

theorem makeSlice_sound {t e : TypeId} (hu : P.underlying t = some (.slice e)) {z : Nat × List D} (hz : zerosOf P e = some z) {i : TypeInfo} (hi : P.info? e = some i) {n c : Int} {kn kc : IntKind} (h0 : 0 ≤ n) (h1 : n ≤ c) (h2 : fitsRow c.toNat i.bytes)
    {B0 : Nat} {w0 : World} {ok : Nat → Prop} {E : Env} {L : Heap} {w : World} (hM : Mem B0 w0 ok E L w) :
    ∃ y w' E', (Instr.makeSlice t (.int kn n) (.int kc c)).run P w = .ok y w' ∧ Mem B0 w0 ok E' (L ++ [.d (c.toNat * z.1) (List.replicate c.toNat z.2).flatten]) w' ∧ Grow E w ok E' w' ok ∧
      Rep E' w' ok y (.sl L.length 0 n.toNat (some c.toNat) z.1) ∧ Below w.heap.size w w' ∧ (∀ id, E id = none → id ≠ L.length → E' id = none) := by
  obtain ⟨i', zv, hi', hzv, e1, e2, e3, p, o, q⟩ := zerosOf_some hz
  rw [hi] at hi'; cases hi'
  obtain ⟨b1, b2⟩ := h2
  have hb : (i.bytes : Int) * c ≤ 281474976710656 := by
    have h3 := Int.ofNat_le.2 b1
    rw [Int.natCast_mul, show ((c.toNat : Nat) : Int) = c by omega, Int.mul_comm] at h3
    omega
  have hrun := run_make (P := P) w t e i zv hu hi hzv kn kc n c h0 h1 hb (by omega)
  obtain ⟨E', hM', g, hE, hbel, hn⟩ := new_block (w1 := w.alloc (.cells (madeCells zv.cells (c.toNat * i.size)) e)) hM (madeCells zv.cells (c.toNat * i.size)) e (.d (c.toNat * z.1) (List.replicate c.toNat z.2).flatten)
    (made_one (by simpa using e3) q) ⟨by simp [e1, e2], by simp [size_madeCells, e1], fun d hd => by
      obtain ⟨l, hl, hd⟩ := List.mem_flatten.1 hd
      rw [(List.mem_replicate.1 hl).2] at hd
      exact o d hd, zeros_row e3 e2 p _⟩ rfl
  refine ⟨_, _, E', hrun, hM', g, .sl hE (by omega) (fun q hq => by cases hq; rfl) ?_ (.inl rfl), hbel, hn⟩
  simp [size_madeCells, e1]

theorem buildSlice_sound {t e : TypeId} (hu : P.underlying t = some (.slice e)) {z : Nat × List D} (hz : zerosOf P e = some z) {len : Nat} (hlen : len * z.1 ≤ 2 ^ 24) (hpos : 0 < z.1) {parts : List (Nat × AV)} {k : List AV → Option R} {r : R}
    (h : fillK (len * z.1) (fun j => some (j * z.1, z.1)) ((List.replicate len (z.2.map AV.d)).flatten) parts k = some r) :
    ∃ cs, k cs = some r ∧ ∀ {B0 : Nat} {w0 : World} {ok : Nat → Prop} {E : Env} {L : Heap} {w : World}, Mem B0 w0 ok E L w → ∀ {ps : List (Nat × Value)}, ps.length = parts.length → (∀ (i : Nat) p q, ps[i]? = some p → parts[i]? = some q → p.1 = q.1 ∧ Rep E w ok p.2 q.2) →
      cs.all AV.one = true →
      ∃ y w' E', (Instr.buildSlice t len ps.toArray).run P w = .ok y w' ∧ Mem B0 w0 ok E' (L ++ [mkBlk (len * z.1) cs]) w' ∧ Grow E w ok E' w' ok ∧
        Rep E' w' ok y (.sl L.length 0 len (some len) z.1) ∧ Below w.heap.size w w' ∧ (∀ id, E id = none → id ≠ L.length → E' id = none) := by
  obtain ⟨i, zv, hi, hzv, e1, e2, e3, p, o, q⟩ := zerosOf_some hz
  obtain ⟨cs', hk, hl', hs⟩ := fill_sound h (by simp [e2, e1])
  refine ⟨cs', hk, fun {B0 w0 ok E L w} hM {ps} hl hr hall => ?_⟩
  have hzs : zv.cells.size = i.size := by simpa using e3
  have hmap : ∀ (n : Nat), (List.replicate n (z.2.map AV.d)).flatten = ((List.replicate n z.2).flatten).map AV.d := fun n => by
    simp [List.map_flatten]
  obtain ⟨c', hc', r1, r2, r3⟩ := hs (E := E) (w := w) (ok := ok) (c := madeCells zv.cells (len * i.size)) (by simp [size_madeCells, e1])
    (by rw [hmap]; exact PW.toAV (zeros_row e3 e2 p len)) (made_one hzs q) hl hr
  have hcells : CellsRep E w ok c'.toList (mkBlk (len * z.1) cs') := by
    unfold mkBlk
    cases hd : allD cs' with
    | none => exact ⟨hl', by simp; omega, r2⟩
    | some ds =>
      have := allD_some hd
      subst this
      refine ⟨by simpa using hl', by simp; omega, fun d hd => ?_, fun j d hd => ?_⟩
      · have := List.all_eq_true.1 hall (.d d) (List.mem_map_of_mem hd); simpa [AV.one] using this
      · obtain ⟨x, hx, hr⟩ := r2 j (.d d) (by simp [hd])
        cases hr with
        | d hr => exact ⟨x, hx, hr⟩
  obtain ⟨E', hM', g, hE, hbel, hn⟩ := new_block (w1 := w.alloc (.cells c' e)) hM c' e (mkBlk (len * z.1) cs') r3 hcells rfl
  refine ⟨_, _, E', ?_, hM', g, .sl hE (Nat.le_refl _) (fun q hq => by cases hq; rfl) (by omega) (.inl rfl), hbel, hn⟩
  have hno : ¬ (len * i.size > 2 ^ 24) := by rw [← e1]; omega
  have hfill : Instr.fill (fun j => some (j * i.size, i.size)) (madeCells zv.cells (len * i.size)) ps = some c' := by rw [e1] at hc'; exact hc'
  by_cases h0 : len * i.size = 0
  · have hm0 : madeCells zv.cells (len * i.size) = #[] := by rw [h0]; simp [madeCells]
    rw [hm0] at hfill
    have hl0 : len = 0 := by
      rcases Nat.mul_eq_zero.1 h0 with h | h
      · exact h
      · omega
    simp [Instr.buildSlice, Sem.run_bind, run_underlying hu, sizeOf, typeInfo, hi, hl0, Array.range_zero', hfill, newRow, newObj, Sem.run]
  · have hno' : ¬ (2 ^ 24 < len * i.size) := hno
    simp only [madeCells] at hfill
    simp [Instr.buildSlice, Sem.run_bind, run_underlying hu, sizeOf, typeInfo, zeroValue, hi, hzv, h0, hno', hfill, newRow, newObj, Sem.run]

end Go.Ev
