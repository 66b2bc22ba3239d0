/-
 slices.SortFunc as a call that is known otherwise: the shelf's contract, at rows of cells, under a comparison that is known as a function from data to data.
-/
import Derived.Test.YthakkigkdhaihaaGreatDoorEzFr
import Derived.Test.YthakkigkdhaihaaGreatDoorEzDrawn3
import Derived.Shelf.SlSortCmp.NoneTotal
set_option linter.unusedSimpArgs false
set_option linter.unusedVariables false
namespace Go.Ev
open Go Go.RowKit
variable {R : Type} {P : Program}
def chunk (sz : Nat) : Nat → List D → List (List D)
 | 0, _ => []
 | n + 1, cs => cs.take sz :: chunk sz n (cs.drop sz)
theorem Z1gk {sz : Nat} : ∀ {n : Nat} {cs : List D}, (chunk sz n cs).length = n
 | 0, cs => rfl
 | n + 1, cs => by simp [chunk, Z1gk]
theorem Z1c1 {sz : Nat} : ∀ {n : Nat} {cs : List D} {i : Nat}, i < n → (chunk sz n cs)[i]? = some ((cs.drop (i * sz)).take sz)
 | 0, cs, i, h => by omega
 | n + 1, cs, 0, h => by simp [chunk]
 | n + 1, cs, i + 1, h => by
  simp only [chunk, List.getElem?_cons_succ]
  rw [Z1c1 (by omega), List.drop_drop, Nat.succ_mul, Nat.add_comm sz]
def ltD (c : List D → List D → Option Int) (x y : List D) : Bool := match c x y with
 | some i => decide (i < 0)
 | none => false
def insD (lt : List D → List D → Bool) (x : List D) : List (List D) → List (List D)
 | [] => [x]
 | y :: r => cond (lt y x) (y :: insD lt x r) (x :: y :: r)
def sortD (lt : List D → List D → Bool) : List (List D) → List (List D)
 | [] => []
 | x :: r => insD lt x (sortD lt r)
structure SortOk (c : List D → List D → Option Int) (rows : List (List D)) : Prop where
 all : ∀ x, x ∈ rows → ∀ y, y ∈ rows → (c x y).isSome = true
 irr : ∀ x, x ∈ rows → ltD c x x = false
 tr : ∀ x, x ∈ rows → ∀ y, y ∈ rows → ∀ z, z ∈ rows → ltD c x y = true → ltD c y z = true → ltD c x z = true
 ntr : ∀ x, x ∈ rows → ∀ y, y ∈ rows → ∀ z, z ∈ rows → ltD c x y = false → ltD c y z = false → ltD c x z = false
 eq : ∀ x, x ∈ rows → ∀ y, y ∈ rows → ltD c x y = false → ltD c y x = false → x = y
theorem Z1c2 {lt : List D → List D → Bool} {x : List D} : ∀ {l : List (List D)}, (insD lt x l).Perm (x :: l)
 | [] => .refl _
 | y :: r => by
  unfold insD
  cases lt y x
  ·exact .refl _
  ·exact (Z1c2.cons y).trans (.swap x y r)
theorem Z17y {lt : List D → List D → Bool} : ∀ {l : List (List D)}, (sortD lt l).Perm l
 | [] => .refl _
 | x :: r => Z1c2.trans (Z17y.cons x)
theorem Z1c3 {c : List D → List D → Option Int} {rows : List (List D)} (h : SortOk c rows) {x : List D} (hx : x ∈ rows) : ∀ {l : List (List D)}, (∀ y, y ∈ l → y ∈ rows) → l.Pairwise (fun a b => ltD c b a = false) → (insD (ltD c) x l).Pairwise (fun a b => ltD c b a = false)
 | [], _, _ => by simp [insD]
 | y :: r, hl, hp => by
  have hy := hl y (by simp)
  rw [List.pairwise_cons] at hp
  unfold insD
  cases hyx : ltD c y x with
  | true =>
   show (y :: insD (ltD c) x r).Pairwise _
   rw [List.pairwise_cons]
   refine ⟨fun z hz => ?_, Z1c3 h hx (fun z hz => hl z (by simp [hz])) hp.2⟩
   rcases List.mem_cons.1 (Z1c2.mem_iff.1 hz) with rfl | hz
   ·cases hxy : ltD c z y with
    | false => rfl
    | true => have := h.tr y hy z hx y hy hyx hxy; rw [h.irr y hy] at this; cases this
   ·exact hp.1 z hz
  | false =>
   show (x :: y :: r).Pairwise _
   rw [List.pairwise_cons]
   refine ⟨fun z hz => ?_, List.pairwise_cons.2 hp⟩
   rcases List.mem_cons.1 hz with rfl | hz
   ·exact hyx
   ·exact h.ntr z (hl z (by simp [hz])) y hy x hx (hp.1 z hz) hyx
theorem Z195 {c : List D → List D → Option Int} {rows : List (List D)} (h : SortOk c rows) : ∀ {l : List (List D)}, (∀ y, y ∈ l → y ∈ rows) → (sortD (ltD c) l).Pairwise (fun a b => ltD c b a = false)
 | [], _ => .nil
 | x :: r, hl => Z1c3 h (hl x (by simp)) (fun y hy => hl y (by simp [Z17y.mem_iff.1 hy])) (Z195 h fun y hy => hl y (by simp [hy]))
theorem Z15z {c : List D → List D → Option Int} {rows : List (List D)} (h : SortOk c rows) : ∀ {l l' : List (List D)}, (∀ y, y ∈ l → y ∈ rows) → l.Perm l' → l.Pairwise (fun a b => ltD c b a = false) → l'.Pairwise (fun a b => ltD c b a = false) → l = l'
 | [], l', _, hp, _, _ => (List.Perm.eq_nil hp.symm).symm
 | x :: r, l', hl, hp, h1, h2 => by
  cases l' with
  | nil => exact absurd hp.eq_nil (by simp)
  | cons y r' =>
   rw [List.pairwise_cons] at h1 h2
   have hx := hl x (by simp)
   have hy := hl y (hp.mem_iff.2 (by simp))
   have hxy : x = y := by
    rcases List.mem_cons.1 (hp.mem_iff.1 (show x ∈ x :: r by simp)) with e | hx'
    ·exact e
    rcases List.mem_cons.1 (hp.mem_iff.2 (show y ∈ y :: r' by simp)) with e | hy'
    ·exact e.symm
    exact h.eq x hx y hy (h2.1 x hx') (h1.1 y hy')
   subst hxy
   rw [Z15z h (fun z hz => hl z (by simp [hz])) (List.Perm.cons_inv hp) h1.2 h2.2]
theorem Z196 {α : Type} {sz : Nat} : ∀ {l : List (List α)}, (∀ x, x ∈ l → x.length = sz) → ∀ j, j < l.length * sz → l.flatten[j]? = (l[j / sz]?.getD [])[j % sz]?
 | [], _, j, h => by simp at h
 | x :: r, hl, j, h => by
  have hx := hl x (by simp)
  have h0 : 0 < sz := by
   rcases Nat.eq_zero_or_pos sz with e | e
   ·subst e; simp at h
   ·exact e
  simp only [List.flatten_cons]
  by_cases hj : j < sz
  ·rw [List.getElem?_append_left (by omega), Nat.div_eq_of_lt hj, Nat.mod_eq_of_lt hj]
   rfl
  ·rw [List.getElem?_append_right (by omega), hx]
   have e1 : j / sz = (j - sz) / sz + 1 := by
    rw [Nat.div_eq_sub_div h0 (by omega)]
   have e2 : j % sz = (j - sz) % sz := Nat.mod_eq_sub_mod (by omega)
   rw [e1, e2, List.getElem?_cons_succ]
   refine Z196 (fun y hy => hl y (by simp [hy])) _ ?_
   simp only [List.length_cons, Nat.succ_mul] at h
   omega
def sortE (K : Nat) (g : FuncId) (c : List D → List D → Option Int) (okr : List (List D) → Bool) : Own → List AV → Heap → (AV → Heap → Option R) → Option R := fun _ args L k =>
 match args with
 | [.sl id off n _ sz, .d (.fn g' [])] =>
  if g' = g ∧ sz = K ∧ n < 4611686018427387904 then
   match L[id]? with
   | some (.d m cs) => cut m cs off (n * sz) fun row =>
     if okr (chunk sz n row) = true then k (.d (.tup [])) (L.set id (.d m (cs.take off ++ ((sortD (ltD c) (chunk sz n row)).flatten ++ cs.drop (off + n * sz))))) else none
   | _ => none
  else none
 | [.d (.list 0 _ _), .d (.fn _ [])] => k (.d (.tup [])) L
 | _ => none
theorem Z1kc {w : World} {ok : Nat → Prop} {α : Type} {f : α → List Value} {g : α → List D} (h : ∀ i, PW (RepD w ok) (f i) (g i)) (hl : ∀ i, (f i).length = (g i).length) : ∀ l : List α, PW (RepD w ok) (l.map f).flatten (l.map g).flatten ∧ (l.map f).flatten.length = (l.map g).flatten.length
 | [] => ⟨fun j a ha => by simp at ha, rfl⟩
 | i :: l => by
  obtain ⟨h1, h2⟩ := Z1kc h hl l
  refine ⟨?_, by simp only [List.map_cons, List.flatten_cons, List.length_append]; rw [h2, hl i]⟩
  simp only [List.map_cons, List.flatten_cons]
  exact PW.append (h i) h1 (hl i)
theorem Z1lr {w w' : World} (hb : Below w.heap.size w w') (hd : w.drawn ≤ w'.drawn) : ∃ q os, w' = Sort.grow (w.drewN q) os := by
 refine ⟨w'.drawn - w.drawn, w'.heap.extract w.heap.size w'.heap.size, ?_⟩
 have hh : w'.heap = w.heap ++ w'.heap.extract w.heap.size w'.heap.size := by
  apply Array.ext_getElem?
  intro k
  by_cases hk : k < w.heap.size
  ·rw [Array.getElem?_append_left hk]; exact hb.block k hk
  ·rw [Array.getElem?_append_right (by omega), Array.getElem?_extract]
   split
   ·congr 1; omega
   ·rename_i hk2
    exact Array.getElem?_eq_none (by have := hb.size; omega)
 have hdr : ∀ (n : Nat) (v : World), v.drewN n = { v with drawn := v.drawn + n } := fun _ _ => rfl
 rw [hdr]
 unfold Sort.grow
 cases w' with
 | mk heap tape drawn os output =>
  have h1 := hb.os
  have h2 := hb.tape
  have h3 := hb.output
  simp only at h1 h2 h3 hh hd ⊢
  rw [← h1, ← h2, ← h3, ← hh]
  congr 1
  omega
open Go.Proofs Go.Shelf Go.Sort in
theorem Z1l8 {ρ : Ren} {K : Nat} (L6 : SlLaysF0.n6 P ρ) (aE : ∀ w, (isAgg (ρ.t 24)).run P w = .ok true w) (zE : ∀ w, (Go.sizeOf (ρ.t 24)).run P w = .ok K w) {g : FuncId} (eg : ∀ args w, (callFunc g args).run P w = .ok (.enter g args) w) {f : FuncId} (hf : ρ.f 6 = f) (hen : Enters P f)
  {c : List D → List D → Option Int} {okr : List (List D) → Bool} (hok : ∀ rows, okr rows = true → SortOk c rows) (hc : ∀ x y i, c x y = some i → DataSem P g [.agg x, .agg y] (.v (.int .i64 i))) : ExtSem P f (sortE (R := R) K g c okr) := by
 subst hf
 intro ow args Lh k r _ _ h
 unfold sortE at h
 split at h
 ·rename_i id off n cap sz g'
  split at h
  case isFalse => cases h
  rename_i hcond
  obtain ⟨rfl, rfl, hn62⟩ := hcond
  split at h
  case h_2 => cases h
  rename_i m cs hB
  obtain ⟨row, h1, hrow⟩ := Znl h
  split at h1
  case isFalse => cases h1
  rename_i hokr
  have hS := hok _ hokr
  refine ⟨_, _, h1, hen, fun {B0 w0 ok E w vals} hM hlen hr => ?_⟩
  obtain ⟨u1, u2, rfl⟩ : ∃ u1 u2, vals = [u1, u2] := by
   match vals, hlen with
   | [u1, u2], _ => exact ⟨u1, u2, rfl⟩
  have r1 := hr 0 u1 _ rfl rfl
  have r2 := hr 1 u2 _ rfl rfl
  have e2 : u2 = .func (.func g') #[] #[] := by
   cases r2 with
   | d r2 =>
    cases r2 with
    | fn hl _ =>
     have := List.eq_nil_of_length_eq_zero hl
     subst this
     rfl
  subst e2
  have hcl : cs.length = m := by
   have := hM.wf id _ hB
   exact this
  obtain ⟨hfit, hrow⟩ := hrow hcl
  have none : ∀ (a : Option Addr) (cp : Nat), n = 0 → Calls P (ρ.f 6) #[.slice a 0 cp, .func (.func g') #[] #[]] w (fun e w' => ∃ u ok' E', e = .returned u ∧ Mem B0 w0 ok' E' (Lh.set id (.d m (cs.take off ++ ((sortD (ltD c) (chunk sz n row)).flatten ++ cs.drop (off + n * sz))))) w' ∧ Rep E' w' ok' u (.d (.tup [])) ∧ Step B0 ow E w ok E' w' ok') := fun a cp h0 => by
   subst h0
   refine (AnyF.slices_SortFunc_none L6 a cp _ w).mono ?_
   rintro e w' ⟨rfl, rfl⟩
   refine ⟨_, ok, E, rfl, ?_, .d (.tup (vs := []) rfl (fun i x d hx => by simp at hx)), Step.refl _ _ _ _ _⟩
   have : Lh.set id (.d m (cs.take off ++ ((sortD (ltD c) (chunk sz 0 row)).flatten ++ cs.drop (off + 0 * sz)))) = Lh := by
    simp only [chunk, sortD, List.flatten_nil, List.nil_append, Nat.zero_mul, Nat.add_zero, List.take_append_drop]
    exact Znn hB
   rw [this]
   exact hM
  cases r1 with
  | slz hq => exact none _ _ rfl
  | sl he hn hcap hle hoff =>
   rename_i off' cp b mm
   rcases Nat.eq_zero_or_pos n with h0 | hpos
   ·subst h0; exact none _ _ rfl
   obtain rfl : off' = off := hoff.resolve_right (by omega)
   haveI : Inhabited (Fin n) := ⟨⟨0, hpos⟩⟩
   obtain ⟨hB0, cc, e, B, hb, hs, hone, hB', hcr⟩ := hM.loc id b mm he
   rw [hB] at hB'
   cases hB'
   obtain ⟨_, hmc, hone2, hpw⟩ := hcr
   have hccl : cc.toList.length = cc.size := by simp
   have hblk := hM.lt he
   let enc : Fin n → List Value := fun i => (cc.toList.drop (off' + i.1 * sz)).take sz
   let rw' : Fin n → List D := fun i => (row.drop (i.1 * sz)).take sz
   have hin : ∀ i : Fin n, i.1 * sz + sz ≤ n * sz := fun i => by
    have := Nat.mul_le_mul_right sz (Nat.succ_le_of_lt i.2)
    rw [Nat.succ_mul] at this
    exact this
   have hrl : row.length = n * sz := by rw [hrow]; simp; omega
   have hk : ∀ x, (enc x).length = sz := fun i => by
    have := hin i
    simp only [enc, List.length_take, List.length_drop, hccl]
    omega
   have hkd : ∀ x, (rw' x).length = sz := fun i => by
    have := hin i
    simp only [rw', List.length_take, List.length_drop, hrl]
    omega
   have hone1 : ∀ x, ∀ v ∈ enc x, v.oneCell' = true := fun i v hv => hone v (List.mem_of_mem_drop (List.mem_of_mem_take hv))
   have hmem : ∀ i, rw' i ∈ chunk sz n row := fun i => List.mem_of_getElem? (Z1c1 i.2)
   have hdone : ∀ i, ∀ d, d ∈ rw' i → d.one = true := fun i d hd => by
    have := List.mem_of_mem_drop (List.mem_of_mem_take hd)
    rw [hrow] at this
    exact hone2 d (List.mem_of_mem_drop (List.mem_of_mem_take this))
   have hpwi : ∀ i, PW (RepD w ok) (enc i) (rw' i) := fun i j d hd => by
    have hi := hin i
    simp only [rw'] at hd
    rw [hrow, List.getElem?_take] at hd
    split at hd
    case isFalse => cases hd
    rename_i hj
    rw [List.getElem?_drop, List.getElem?_take] at hd
    split at hd
    case isFalse => cases hd
    rw [List.getElem?_drop] at hd
    obtain ⟨x, hx, hrx⟩ := hpw _ d hd
    refine ⟨x, ?_, hrx⟩
    simp only [enc]
    rw [List.getElem?_take, if_pos hj, List.getElem?_drop, ← hx]
    congr 1
    omega
   let cf : Fin n → Fin n → Int := fun i j => (c (rw' i) (rw' j)).getD 0
   have hcs : ∀ i j, c (rw' i) (rw' j) = some (cf i j) := fun i j => by
    have := hS.all _ (hmem i) _ (hmem j)
    simp only [cf]
    cases hq : c (rw' i) (rw' j) with
    | none => rw [hq] at this; cases this
    | some v => rfl
   have hlt : ∀ i j, ltOf cf i j = ltD c (rw' i) (rw' j) := fun i j => by
    unfold ltOf ltD
    rw [hcs i j]
   have hO : SWO (ltOf cf) := {
    irrefl := fun x => by rw [hlt]; exact hS.irr _ (hmem x)
    trans := fun x y z => by simp only [hlt]; exact hS.tr _ (hmem x) _ (hmem y) _ (hmem z)
    ntrans := fun x y z => by simp only [hlt]; exact hS.ntr _ (hmem x) _ (hmem y) _ (hmem z) }
   let d0 : Array (Fin n) := Array.ofFn (fun i => i)
   have hd0 : d0.size = n := by simp [d0]
   have hflen : ∀ (d : Array (Fin n)), (d.toList.map enc).flatten.length = d.size * sz := fun d => by
    have : ∀ l : List (Fin n), (l.map enc).flatten.length = l.length * sz := by
     intro l
     induction l with
     | nil => simp
     | cons a l ih => simp only [List.map_cons, List.flatten_cons, List.length_append, List.length_cons, ih, hk, Nat.succ_mul]; omega
    rw [this]; simp
   have hflat : ∀ (d : Array (Fin n)), (flatK enc sz d).toList = (d.toList.map enc).flatten := fun d => by
    refine List.ext_getElem? fun j => ?_
    by_cases hj : j < d.size * sz
    ·have h0 : 0 < sz := by
      rcases Nat.eq_zero_or_pos sz with e | e
      ·rw [e] at hj; simp at hj
      ·exact e
     have hdiv : j / sz < d.size := Nat.div_lt_of_lt_mul (by rw [Nat.mul_comm]; exact hj)
     rw [Z196 (sz := sz) (fun x hx => by obtain ⟨i, _, rfl⟩ := List.mem_map.1 hx; exact hk i) j (by simpa using hj)]
     have e1 : (flatK enc sz d).toList[j]? = some (flatK enc sz d)[j]! := by
      rw [Array.getElem?_toList, getElem!_pos (flatK enc sz d) j (by simpa using hj), Array.getElem?_eq_getElem (by simpa using hj)]
     rw [e1, get_flatK _ _ _ _ hj]
     have e2 : (d.toList.map enc)[j / sz]? = some (enc d[j / sz]!) := by
      rw [List.getElem?_map, Array.getElem?_toList, Array.getElem?_eq_getElem hdiv, getElem!_pos d _ hdiv]
      rfl
     rw [e2]
     have hm : j % sz < (enc d[j / sz]!).length := by rw [hk]; exact Nat.mod_lt _ h0
     rw [Option.getD_some, List.getElem?_eq_getElem hm, getElem!_pos (enc d[j / sz]!) _ hm]
    ·rw [List.getElem?_eq_none (by simp; omega), List.getElem?_eq_none (by rw [hflen]; omega)]
   have hd0i : ∀ i (hi : i < n), d0[i]! = ⟨i, hi⟩ := fun i hi => by
    rw [getElem!_pos d0 i (by omega)]
    simp [d0]
   have hH : HoldsK enc sz w b off' d0 := fun j hj => by
    have hj : j < n * sz := by rw [size_flatK, hd0] at hj; exact hj
    have h0 : 0 < sz := by
     rcases Nat.eq_zero_or_pos sz with e | e
     ·rw [e] at hj; simp at hj
     ·exact e
    have hdiv : j / sz < n := Nat.div_lt_of_lt_mul (by rw [Nat.mul_comm]; exact hj)
    refine ⟨?_, by simp [World.frozen?, hb]⟩
    rw [get_flatK _ _ _ _ (by rw [hd0]; exact hj), hd0i _ hdiv]
    have hm : j % sz < (enc ⟨j / sz, hdiv⟩).length := by rw [hk]; exact Nat.mod_lt _ h0
    have e0 : off' + (j / sz * sz + j % sz) = off' + j := by rw [Nat.mul_comm, Nat.div_add_mod]
    have e1 : (enc ⟨j / sz, hdiv⟩)[j % sz]? = cc[off' + j]? := by
     simp only [enc]
     rw [List.getElem?_take, if_pos (Nat.mod_lt _ h0), List.getElem?_drop, Array.getElem?_toList]
     congr 1
     omega
    rw [getElem!_pos (enc ⟨j / sz, hdiv⟩) _ hm]
    have e2 := List.getElem?_eq_getElem hm
    rw [e1] at e2
    simp [World.cell?, hb, e2]
   have hheap : ∀ (mq : Nat) (os : Array Obj) (dk : Array (Fin n)) (q : Nat), q < w.heap.size → q ≠ b → (sortWorldK enc sz w b off' mq dk os).heap[q]? = w.heap[q]? := fun mq os dk q hq hqb => by
    unfold sortWorldK
    rw [heap_grow_old _ _ (by simp [putRowK, putRow, mapBlock, ahead]; exact hq)]
    simp only [putRowK, putRow, mapBlock, Array.getElem?_modify]
    rw [if_neg (Ne.symm hqb)]
    rfl
   have hsize : ∀ (mq : Nat) (os : Array Obj) (dk : Array (Fin n)), (sortWorldK enc sz w b off' mq dk os).heap.size = w.heap.size + os.size := fun mq os dk => by
    unfold sortWorldK
    simp [putRowK, putRow, mapBlock, ahead]
   have hokb : ∀ q, ok q → q ≠ b := fun q hq e => (hM.okb q hq).2 id mm (by rw [e]; exact he)
   have hcmp : CmpLays P g' #[] enc sz cf b off' d0.size w := fun mq os dk hdk x y => by
    have hds := hc _ _ _ (hcs x y)
    have hagg : ∀ i : Fin n, RepD (sortWorldK enc sz w b off' mq dk os) ok (.agg (enc i).toArray) (.agg (rw' i)) := fun i => by
     refine .agg (by rw [hk, hkd]) (hdone i) fun j x d hx hd => ?_
     obtain ⟨x', hx', hr'⟩ := hpwi i j d hd
     rw [hx] at hx'
     cases hx'
     exact hr'.mono (fun _ h => h) fun q hq => hheap mq os dk q (hM.okb q hq).1 (hokb q hq)
    refine (Calls.drawn (hds.2 (w := sortWorldK enc sz w b off' mq dk os) (ok := ok) (vals := [.agg (enc x).toArray, .agg (enc y).toArray]) (fun q hq => by rw [hsize]; have := (hM.okb q hq).1; omega) (hM.gl.mono (fun _ h => h) fun q hq => hheap mq os dk q (hM.okb q hq).1 (hokb q hq)) ⟨rfl, fun i v d hv hd => ?_⟩)).mono ?_
    ·match i, hv, hd with
     | 0, hv, hd => cases hv; cases hd; exact hagg x
     | 1, hv, hd => cases hv; cases hd; exact hagg y
    ·rintro e w' ⟨⟨u, ok', rfl, hbl, _, hu⟩, hdr⟩
     cases hu with
     | v _ => exact ⟨rfl, Z1lr hbl (hdr ⟨_, rfl⟩)⟩
   have hcall := AnyQ.slices_SortFunc L6 sz aE zE enc hk hone1 cf hO g' #[] b off' cp d0 w eg hcmp hH hblk (by rw [hd0]; exact hn62)
   rw [hd0] at hcall
   refine hcall.mono ?_
   rintro e1 w' ⟨rfl, d', nn, os, hp, hsd, rfl⟩
   obtain ⟨hps, _, hpp⟩ := hp
   rw [hd0] at hps
   have hext : ∀ d : Array (Fin n), d.size = n → d.extract 0 n = d := fun d hd => by
    have := Array.extract_size (xs := d)
    rwa [hd] at this
   rw [hext _ hps, hext _ hd0] at hpp
   have hchunk : chunk sz n row = d0.toList.map rw' := by
    refine List.ext_getElem? fun i => ?_
    by_cases hi : i < n
    ·rw [Z1c1 hi, List.getElem?_map, Array.getElem?_toList, Array.getElem?_eq_getElem (by omega)]
     simp [d0, rw']
    ·rw [List.getElem?_eq_none (by rw [Z1gk]; omega), List.getElem?_eq_none (by simp [hd0]; omega)]
   have hsorted : d'.toList.map rw' = sortD (ltD c) (chunk sz n row) := by
    refine Z15z hS (fun y hy => ?_) ?_ ?_ (Z195 hS fun y hy => hy)
    ·obtain ⟨i, _, rfl⟩ := List.mem_map.1 hy
     exact hmem i
    ·rw [hchunk]
     exact (hpp.map rw').trans (Z17y (lt := ltD c)).symm
    ·rw [List.pairwise_map, List.pairwise_iff_getElem]
     intro i j hi hj hij
     have hi' : i < d'.size := by simpa using hi
     have hj' : j < d'.size := by simpa using hj
     have := hsd i j (Nat.zero_le _) hij (by omega)
     rw [getElem!_pos d' i hi', getElem!_pos d' j hj', hlt] at this
     simpa using this
   have hys : (d'.toList.map rw').flatten = (sortD (ltD c) (chunk sz n row)).flatten := by rw [hsorted]
   obtain ⟨hpx, hlx⟩ := Z1kc hpwi (fun i => by rw [hk, hkd]) d'.toList
   rw [← hys]
   have hxl : (d'.toList.map enc).flatten.length = n * sz := by rw [hflen, hps]
   have hyl : (d'.toList.map rw').flatten.length = n * sz := by rw [← hlx, hxl]
   have hyo : ∀ d, d ∈ (d'.toList.map rw').flatten → d.one = true := fun d hd => by
    obtain ⟨l, hl, hdl⟩ := List.mem_flatten.1 hd
    obtain ⟨i, _, rfl⟩ := List.mem_map.1 hl
    exact hdone i d hdl
   have hxo : ∀ x, x ∈ (d'.toList.map enc).flatten → x.oneCell' = true := fun x hx => by
    obtain ⟨l, hl, hxl⟩ := List.mem_flatten.1 hx
    obtain ⟨i, _, rfl⟩ := List.mem_map.1 hl
    exact hone1 i x hxl
   have hcr : CellsRep E w ok e cc.toList (.d m cs) := ⟨hcl, hmc, hone2, hpw⟩
   have hsp := hcr.splice_d (off := off') (ys := (d'.toList.map rw').flatten) (xs := (d'.toList.map enc).flatten) (by rw [hyl]; exact hfit) hlx hpx hyo
   rw [hyl] at hsp
   obtain ⟨hM1, g1⟩ := hM.splice he hb hs hone (off := off') hxo (by rw [hxl]; omega) hsp
   have hbel : Below w.heap.size (w.setRow b (cc.toList.take off' ++ (d'.toList.map enc).flatten ++ cc.toList.drop (off' + (d'.toList.map enc).flatten.length)).toArray) (sortWorldK enc sz w b off' nn d' os) := by
    refine ⟨rfl, rfl, rfl, by rw [hsize]; simp, fun q hq => ?_⟩
    by_cases hqb : q = b
    ·subst hqb
     rw [setRow_heap w q cc _ e (0, 0) hb]
     unfold sortWorldK
     rw [heap_grow_old _ _ (by simp [putRowK, putRow, mapBlock, ahead]; exact hq)]
     have hb2 : (Go.Sort.ahead w nn).heap[q]? = some (Obj.cells cc e (0, 0)) := hb
     simp only [putRowK, putRow, mapBlock, Array.getElem?_modify, if_true, hb2, Option.map_some, onCells]
     refine congrArg some (congrArg (fun z => Obj.cells z e (0, 0)) ?_)
     apply Array.ext_getElem?
     intro t
     simp only [putCells, Array.getElem?_mapIdx, size_flatK, hps]
     rw [List.getElem?_toArray, List.getElem?_toArray, List.append_assoc]
     by_cases h1 : t < off'
     ·rw [List.getElem?_append_left (by simp; omega), List.getElem?_take, if_pos h1]
      cases cc.toList[t]? with
      | none => rfl
      | some y => rw [Option.map_some, if_neg (by omega)]
     ·rw [List.getElem?_append_right (by simp; omega)]
      simp only [List.length_take, hccl]
      rw [show min off' cc.size = off' by omega]
      by_cases h2 : t - off' < n * sz
      ·rw [List.getElem?_append_left (by omega), List.getElem?_eq_getElem (l := cc.toList) (by omega), Option.map_some, if_pos ⟨by omega, by omega⟩, ← hflat, Array.getElem?_toList]
       rw [getElem!_pos (flatK enc sz d') _ (by rw [size_flatK, hps]; exact h2), Array.getElem?_eq_getElem]
       rfl
      ·rw [List.getElem?_append_right (by omega), List.getElem?_drop, hxl]
       rw [show off' + n * sz + (t - off' - n * sz) = t by omega]
       cases cc.toList[t]? with
       | none => rfl
       | some y => rw [Option.map_some, if_neg (by omega)]
    ·rw [hheap _ _ _ _ hq hqb, setRow_other w b q _ hqb]
   obtain ⟨hM2, g2, ext2⟩ := hM1.call (ok' := fun _ => False) (by simpa using hbel) (fun b hb => hb.elim)
   exact ⟨_, _, E, rfl, hM2, .d (.tup (vs := []) rfl (fun i x d hx => by simp at hx)), Step.of (g1.trans g2) ext2⟩
 ·rename_i cap cs g'
  refine ⟨_, _, h, hen, fun {B0 w0 ok E w vals} hM hlen hr => ?_⟩
  obtain ⟨u1, u2, rfl⟩ : ∃ u1 u2, vals = [u1, u2] := by
   match vals, hlen with
   | [u1, u2], _ => exact ⟨u1, u2, rfl⟩
  have r1 := hr 0 u1 _ rfl rfl
  obtain ⟨a, cp, rfl⟩ : ∃ a cp, u1 = .slice a 0 cp := by
   cases r1 with
   | d r1 =>
    cases r1 with
    | nil hc0 => exact ⟨_, _, rfl⟩
    | list hb hn hcap h1 hcell hrep => exact ⟨_, _, rfl⟩
  refine (AnyF.slices_SortFunc_none L6 a cp _ w).mono ?_
  rintro e w' ⟨rfl, rfl⟩
  exact ⟨_, ok, E, rfl, hM, .d (.tup (vs := []) rfl (fun i x d hx => by simp at hx)), Step.refl _ _ _ _ _⟩
 ·cases h
end Go.Ev