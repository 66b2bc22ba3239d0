/-
  Regions whose order is drawn: where all operations are quiet and clashing ones are bound, every order comes to the same.
-/
import Derived.Test.YtilgfaangfbndaaDoorEvQuiet
set_option linter.unusedSimpArgs false
set_option linter.unusedVariables false
namespace Go.Ev
open Go Go.RowKit
variable {R : Type} {P : Program} {base : Nat} {sp : SpTab}

/-! ### Ancestors -/
def ancF (o : Oper) (acc : List Nat) : Nat := o.after.toList.foldl (fun s e => if Region.binds .any e then s ||| 2 ^ e.on ||| acc.getD e.on 0 else s) 0

theorem ancs_eq : ∀ (l : List Oper) (acc : List Nat), ∃ tail, ancs l acc = acc ++ tail ∧ tail.length = l.length ∧
    ∀ (j : Nat) o, l[j]? = some o → (ancs l acc)[acc.length + j]? = some (ancF o ((ancs l acc).take (acc.length + j)))
  | [], acc => ⟨[], by simp [ancs], rfl, fun j o h => by simp at h⟩
  | o :: rest, acc => by
    obtain ⟨tail, h1, h2, h3⟩ := ancs_eq rest (acc ++ [ancF o acc])
    have e0 : ancs (o :: rest) acc = ancs rest (acc ++ [ancF o acc]) := rfl
    refine ⟨ancF o acc :: tail, by rw [e0, h1]; simp, by simp [h2], fun j o' hj => ?_⟩
    cases j with
    | zero =>
      simp at hj
      subst hj
      rw [e0, h1]
      simp
    | succ j =>
      have := h3 j o' (by simpa using hj)
      rw [e0]
      have e1 : (acc ++ [ancF o acc]).length + j = acc.length + (j + 1) := by simp; omega
      rw [e1] at this
      exact this

theorem foldl_bits (acc : List Nat) (i : Nat) : ∀ (es : List Edge) (s : Nat), (es.foldl (fun s e => if Region.binds .any e then s ||| 2 ^ e.on ||| acc.getD e.on 0 else s) s).testBit i = true →
    s.testBit i = true ∨ ∃ e, e ∈ es ∧ Region.binds .any e = true ∧ (e.on = i ∨ (acc.getD e.on 0).testBit i = true)
  | [], s, h => .inl h
  | e :: es, s, h => by
    simp only [List.foldl_cons] at h
    rcases foldl_bits acc i es _ h with h1 | ⟨e', he, h1⟩
    · split at h1
      · rename_i hb
        rw [Nat.testBit_or, Nat.testBit_or, Nat.testBit_two_pow] at h1
        simp only [Bool.or_eq_true, decide_eq_true_eq] at h1
        rcases h1 with (h1 | h1) | h1
        · exact .inl h1
        · exact .inr ⟨e, by simp, hb, .inl h1⟩
        · exact .inr ⟨e, by simp, hb, .inr h1⟩
      · exact .inl h1
    · exact .inr ⟨e', by simp [he], h1⟩

section
variable {ops : Array Oper}

theorem anc_step (hb : backOk ops = true) {j i : Nat} {o : Oper} (hj : ops[j]? = some o) (h : ((ancs ops.toList []).getD j 0).testBit i = true) :
    ∃ e, e ∈ o.after ∧ Region.binds .any e = true ∧ e.on < j ∧ (e.on = i ∨ ((ancs ops.toList []).getD e.on 0).testBit i = true) := by
  obtain ⟨tail, h1, h2, h3⟩ := ancs_eq ops.toList []
  have := h3 j o (by simpa using hj)
  simp only [List.length_nil, Nat.zero_add] at this
  rw [List.getD_eq_getElem?_getD, this] at h
  simp only [Option.getD_some] at h
  rcases foldl_bits _ i _ _ h with h0 | ⟨e, he, hbn, h0⟩
  · simp at h0
  · have hlt : e.on < j := by
      have hjs : j < ops.size := (Array.getElem?_eq_some_iff.1 hj).1
      have := List.all_eq_true.1 hb j (List.mem_range.2 hjs)
      rw [hj] at this
      simp only [Array.all_eq_true'] at this
      have := this e (by simpa using he)
      simpa [hbn] using this
    refine ⟨e, by simpa using he, hbn, hlt, h0.imp id fun h0 => ?_⟩
    rw [List.getD_eq_getElem?_getD, List.getElem?_take, if_pos hlt] at h0
    rw [List.getD_eq_getElem?_getD]; exact h0

/-- What is listed is closed under what binds. -/
def ClosedAt (ops : Array Oper) (listed : Array Bool) (j : Nat) : Prop := ∀ oj, ops[j]? = some oj → ∀ e, e ∈ oj.after → Region.binds .any e = true → listed.getD e.on false = true
def Closed (ops : Array Oper) (listed : Array Bool) : Prop := ∀ j, listed.getD j false = true → ClosedAt ops listed j

theorem anc_listed (hb : backOk ops = true) {listed : Array Bool} (hc : Closed ops listed) {i : Nat} : ∀ (j : Nat), ClosedAt ops listed j → ((ancs ops.toList []).getD j 0).testBit i = true → j < ops.size → listed.getD i false = true := by
  intro j
  induction j using Nat.strongRecOn with
  | _ j ih =>
    intro hcj h hjs
    obtain ⟨e, he, hbn, hlt, h0⟩ := anc_step hb (Array.getElem?_eq_getElem hjs) h
    have hon := hcj _ (Array.getElem?_eq_getElem hjs) e he hbn
    rcases h0 with rfl | h0
    · exact hon
    · exact ih e.on hlt (hc _ hon) h0 (by omega)

theorem pair_ok (hp : pairsOk ops (ancs ops.toList []) = true) {i j : Nat} {x y : Oper} (hij : i < j) (hx : ops[i]? = some x) (hy : ops[j]? = some y) :
    ((ancs ops.toList []).getD j 0).testBit i = true ∨ Oper.apart ops x y = true := by
  have hjs : j < ops.size := (Array.getElem?_eq_some_iff.1 hy).1
  have h1 := List.all_eq_true.1 (List.all_eq_true.1 hp j (List.mem_range.2 hjs)) i (List.mem_range.2 hij)
  rw [hx, hy] at h1
  simpa using h1

/-! ### Slots -/
/-- The slots after the first operations. -/
def lexS (ops : Array Oper) (vs : Nat → AV) (sl : List AV) : Nat → List AV
  | 0 => sl
  | j + 1 => setSl (lexS ops vs sl j) ((ops[j]?).bind (·.dst)) (vs j)
/-- The slots after those operations that are listed. -/
def stS (ops : Array Oper) (vs : Nat → AV) (sl : List AV) (listed : Array Bool) : Nat → List AV
  | 0 => sl
  | j + 1 => if listed.getD j false then setSl (stS ops vs sl listed j) ((ops[j]?).bind (·.dst)) (vs j) else stS ops vs sl listed j

theorem lexS_length (vs : Nat → AV) (sl : List AV) : ∀ j, (lexS ops vs sl j).length = sl.length
  | 0 => rfl
  | j + 1 => by simp [lexS, setSl_length, lexS_length vs sl j]
theorem stS_length (vs : Nat → AV) (sl : List AV) (listed : Array Bool) : ∀ j, (stS ops vs sl listed j).length = sl.length
  | 0 => rfl
  | j + 1 => by
    simp only [stS]
    split
    · rw [setSl_length, stS_length vs sl listed j]
    · exact stS_length vs sl listed j

theorem setSl_other {sl : List AV} {dst : Option Tmp} {v : AV} {t : Nat} (h : dst ≠ some t) : (setSl sl dst v)[t]? = sl[t]? := by
  cases dst with
  | none => rfl
  | some d => simp only [setSl]; exact List.getElem?_set_ne (fun e => h (by rw [e]))

theorem setSl_same {sl sl' : List AV} {dst : Option Tmp} {v : AV} {t : Nat} (h : dst = some t) (hl : sl.length = sl'.length) : (setSl sl dst v)[t]? = (setSl sl' dst v)[t]? := by
  subst h
  simp only [setSl]
  by_cases hlt : t < sl.length
  · rw [List.getElem?_set_self hlt, List.getElem?_set_self (by omega)]
  · rw [List.getElem?_eq_none (by simp; omega), List.getElem?_eq_none (by simp; omega)]

variable {vs : Nat → AV} {sl : List AV} {listed : Array Bool}

theorem at_slot {j t : Nat} (h1 : ∀ i o, i < j → ops[i]? = some o → o.dst = some t → listed.getD i false = true) (h2 : ∀ i o, j ≤ i → ops[i]? = some o → o.dst = some t → listed.getD i false = false) :
    ∀ m, (stS ops vs sl listed m)[t]? = (lexS ops vs sl (min m j))[t]?
  | 0 => by simp [stS, lexS]
  | m + 1 => by
    have ih := at_slot h1 h2 m
    by_cases hmj : m < j
    · rw [Nat.min_eq_left (by omega : m ≤ j)] at ih
      rw [Nat.min_eq_left (by omega : m + 1 ≤ j)]
      simp only [stS, lexS]
      by_cases hd : (ops[m]?).bind (·.dst) = some t
      · obtain ⟨o, ho, hod⟩ := Option.bind_eq_some_iff.1 hd
        rw [if_pos (h1 m o hmj ho hod)]
        exact setSl_same hd (by rw [stS_length, lexS_length])
      · split
        · rw [setSl_other hd, setSl_other hd]; exact ih
        · rw [setSl_other hd]; exact ih
    · rw [Nat.min_eq_right (by omega : j ≤ m)] at ih
      rw [Nat.min_eq_right (by omega : j ≤ m + 1)]
      simp only [stS]
      split
      · rename_i hl
        by_cases hd : (ops[m]?).bind (·.dst) = some t
        · obtain ⟨o, ho, hod⟩ := Option.bind_eq_some_iff.1 hd
          rw [h2 m o (by omega) ho hod] at hl; cases hl
        · rw [setSl_other hd]; exact ih
      · exact ih

theorem setSl_comm {sl : List AV} {d e : Option Tmp} {u v : AV} (h : ∀ t, d = some t → e ≠ some t) : setSl (setSl sl d u) e v = setSl (setSl sl e v) d u := by
  cases d with
  | none => rfl
  | some d =>
    cases e with
    | none => rfl
    | some e =>
      simp only [setSl]
      exact List.set_comm _ _ (fun hde => h d rfl (by rw [hde]))

theorem listed_set {j i : Nat} (h : i ≠ j) : (listed.setIfInBounds j true).getD i false = listed.getD i false := by
  simp only [Array.getD_eq_getD_getElem?, Array.getElem?_setIfInBounds_ne (Ne.symm h)]

theorem add_slot {j : Nat} {oj : Oper} (hj : ops[j]? = some oj) (hjs : j < listed.size) (hun : listed.getD j false = false) (h2 : ∀ i o t, j < i → ops[i]? = some o → listed.getD i false = true → oj.dst = some t → o.dst ≠ some t) :
    ∀ m, stS ops vs sl (listed.setIfInBounds j true) m = if m ≤ j then stS ops vs sl listed m else setSl (stS ops vs sl listed m) oj.dst (vs j)
  | 0 => by simp [stS]
  | m + 1 => by
    have ih := add_slot hj hjs hun h2 m
    simp only [stS]
    by_cases hmj : m = j
    · subst hmj
      have h1 : (listed.setIfInBounds m true).getD m false = true := by simp [Array.getD_eq_getD_getElem?, hjs]
      rw [h1, if_pos rfl, if_neg (by omega), hun, ih, if_pos (Nat.le_refl _)]
      simp [hj]
    · rw [listed_set hmj, ih]
      by_cases hlt : m < j
      · rw [if_pos (show m ≤ j by omega), if_pos (show m + 1 ≤ j by omega)]
      · rw [if_neg (show ¬ m ≤ j by omega), if_neg (show ¬ m + 1 ≤ j by omega)]
        split
        · rename_i hl
          refine setSl_comm fun t ht => ?_
          cases hm : ops[m]? with
          | none => simp
          | some o => simpa using h2 m o t (by omega) hm hl ht
        · rfl

theorem st_all (h : ∀ j, j < ops.size → listed.getD j false = true) : ∀ m, m ≤ ops.size → stS ops vs sl listed m = lexS ops vs sl m
  | 0, _ => rfl
  | m + 1, hm => by simp only [stS, lexS]; rw [h m (by omega), if_pos rfl, st_all h m (by omega)]

/-! ### Heaps -/
def effAt (ops : Array Oper) (j : Nat) : Bool := (ops[j]?).any fun o => effOp o.op
/-- The heap after those operations that are listed. -/
def stL (ops : Array Oper) (Ls : Nat → Heap) (listed : Array Bool) : Nat → Heap
  | 0 => Ls 0
  | j + 1 => if (effAt ops j && listed.getD j false) = true then Ls (j + 1) else stL ops Ls listed j

theorem effAt_some {j : Nat} {o : Oper} (h : ops[j]? = some o) : effAt ops j = effOp o.op := by simp [effAt, h]
theorem pure_not_eff {q : Op} (h : effOp q = true) : pureOp q = false := by cases q <;> simp_all [effOp, pureOp]

theorem at_heap {Ls : Nat → Heap} {listed : Array Bool} {j : Nat} (h1 : ∀ i, i < j → effAt ops i = true → listed.getD i false = true) (h2 : ∀ i, j ≤ i → effAt ops i = true → listed.getD i false = false) (hn : ∀ i, i < ops.size → effAt ops i = false → Ls (i + 1) = Ls i) :
    ∀ m, m ≤ ops.size → stL ops Ls listed m = Ls (min m j)
  | 0, _ => by simp [stL]
  | m + 1, hm => by
    have ih := at_heap h1 h2 hn m (by omega)
    simp only [stL]
    by_cases hmj : m < j
    · rw [Nat.min_eq_left (by omega : m + 1 ≤ j)]
      rw [Nat.min_eq_left (by omega : m ≤ j)] at ih
      cases he : effAt ops m with
      | true => simp [h1 m hmj he]
      | false => simp only [Bool.false_and, Bool.false_eq_true, if_false]; rw [ih, hn m (by omega) he]
    · rw [Nat.min_eq_right (by omega : j ≤ m + 1)]
      rw [Nat.min_eq_right (by omega : j ≤ m)] at ih
      cases he : effAt ops m with
      | true => simp [h2 m (by omega) he, ih]
      | false => simp [ih]

theorem add_heap {Ls : Nat → Heap} {listed : Array Bool} {j : Nat} (hj : effAt ops j = true) (hjs : j < listed.size) (h2 : ∀ i, j < i → effAt ops i = true → listed.getD i false = false) :
    ∀ m, j < m → stL ops Ls (listed.setIfInBounds j true) m = Ls (j + 1)
  | 0, h => by omega
  | m + 1, h => by
    simp only [stL]
    by_cases hmj : m = j
    · subst hmj
      have h1 : (listed.setIfInBounds m true).getD m false = true := by simp [Array.getD_eq_getD_getElem?, hjs]
      simp [hj, h1]
    · have ih := add_heap (Ls := Ls) hj hjs h2 m (by omega)
      rw [listed_set hmj]
      cases he : effAt ops m with
      | true => simp [h2 m (by omega) he, ih]
      | false => simp [ih]

theorem keep_heap {Ls : Nat → Heap} {listed : Array Bool} {j : Nat} (hj : effAt ops j = false) : ∀ m, stL ops Ls (listed.setIfInBounds j true) m = stL ops Ls listed m
  | 0 => rfl
  | m + 1 => by
    simp only [stL]
    rw [keep_heap hj m]
    by_cases hmj : m = j
    · subst hmj; simp [hj]
    · rw [listed_set hmj]

theorem eff_bound (he : effsOk ops (ancs ops.toList []) = true) {i j : Nat} {x y : Oper} (hij : i < j) (hx : ops[i]? = some x) (hy : ops[j]? = some y) :
    ((ancs ops.toList []).getD j 0).testBit i = true ∨ ((effOp x.op = false ∨ pureOp y.op = true) ∧ (effOp y.op = false ∨ pureOp x.op = true)) := by
  have hjs : j < ops.size := (Array.getElem?_eq_some_iff.1 hy).1
  have h1 := List.all_eq_true.1 (List.all_eq_true.1 he j (List.mem_range.2 hjs)) i (List.mem_range.2 hij)
  rw [hx, hy] at h1
  simpa using h1

/-! ### The region -/
/-- What the operations come to, in the order in which they stand. -/
def OneSem (P : Program) (o : Oper) (sl : List AV) (L L' : Heap) (v : AV) : Prop :=
  (effOp o.op = false ∧ L' = L ∧ QSem P o sl L v ∧ (pureOp o.op = true → ∀ L', QSem P o sl L' v)) ∨ (effOp o.op = true ∧ v = skipped ∧ ESem P o sl L L')
def Trace (P : Program) (ops : Array Oper) (vs : Nat → AV) (Ls : Nat → Heap) (sl : List AV) : Prop :=
  ∀ j o, ops[j]? = some o → (GuardIs ops o (lexS ops vs sl j) true ∧ OneSem P o (lexS ops vs sl j) (Ls j) (Ls (j + 1)) (vs j)) ∨ (GuardIs ops o (lexS ops vs sl j) false ∧ vs j = skipped ∧ Ls (j + 1) = Ls j)

theorem op_one (hsp : SpOk P sp) {or : Orc R} {o : Oper} (hq : (quietOp sp o.op || effOp o.op) = true) {sl : List AV} {L : Heap} {k : List AV → AV → Heap → Option R} {r : R} (h : opK P sp base false or o sl L k = some r) :
    ∃ v L', k sl v L' = some r ∧ OneSem P o sl L L' v := by
  cases he : effOp o.op with
  | true =>
    obtain ⟨L', hk, hs⟩ := op_write he h
    exact ⟨_, L', hk, .inr ⟨he, rfl, hs⟩⟩
  | false =>
    rw [he, Bool.or_false] at hq
    cases hp : pureOp o.op with
    | true =>
      obtain ⟨v, hk, hs⟩ := op_pure hp h
      exact ⟨v, L, hk, .inl ⟨he, rfl, hs L, fun _ => hs⟩⟩
    | false =>
      obtain ⟨v, hk, hs⟩ := op_quiet hsp hq h
      exact ⟨v, L, hk, .inl ⟨he, rfl, hs, fun h => by rw [hp] at h; cases h⟩⟩

theorem lexS_congr {vs vs' : Nat → AV} : ∀ {n : Nat}, (∀ i, i < n → vs i = vs' i) → lexS ops vs sl n = lexS ops vs' sl n
  | 0, _ => rfl
  | n + 1, h => by simp only [lexS]; rw [lexS_congr (fun i hi => h i (by omega)), h n (by omega)]

theorem trace_from (hsp : SpOk P sp) {or : Orc R} {k : St → Option R} {r : R} : ∀ (rest : List Oper) (i : Nat) (vs : Nat → AV) (Ls : Nat → Heap), (∀ j, rest[j]? = ops[i + j]?) → (∀ o, o ∈ rest → (quietOp sp o.op || effOp o.op) = true) →
    (∀ j o, j < i → ops[j]? = some o → (GuardIs ops o (lexS ops vs sl j) true ∧ OneSem P o (lexS ops vs sl j) (Ls j) (Ls (j + 1)) (vs j)) ∨ (GuardIs ops o (lexS ops vs sl j) false ∧ vs j = skipped ∧ Ls (j + 1) = Ls j)) →
    i ≤ ops.size → opsK P sp base false or ops rest ⟨lexS ops vs sl i, Ls i⟩ k = some r → ∃ vs' Ls', Ls' 0 = Ls 0 ∧ Trace P ops vs' Ls' sl ∧ k ⟨lexS ops vs' sl ops.size, Ls' ops.size⟩ = some r
  | [], i, vs, Ls, hr, _, ht, hi', h => by
    have hi : ops.size ≤ i := by
      have := hr 0
      simp at this
      omega
    have hie : i = ops.size := by omega
    simp only [opsK] at h
    refine ⟨vs, Ls, rfl, fun j o hj => ht j o (by have := (Array.getElem?_eq_some_iff.1 hj).1; omega) hj, ?_⟩
    rw [← hie]; exact h
  | o :: rest, i, vs, Ls, hr, hq, ht, hi', h => by
    have ho : ops[i]? = some o := by simpa using (hr 0).symm
    have his : i < ops.size := (Array.getElem?_eq_some_iff.1 ho).1
    have next : ∀ v L', opsK P sp base false or ops rest ⟨setSl (lexS ops vs sl i) o.dst v, L'⟩ k = some r →
        ((GuardIs ops o (lexS ops vs sl i) true ∧ OneSem P o (lexS ops vs sl i) (Ls i) L' v) ∨ (GuardIs ops o (lexS ops vs sl i) false ∧ v = skipped ∧ L' = Ls i)) → ∃ vs' Ls', Ls' 0 = Ls 0 ∧ Trace P ops vs' Ls' sl ∧ k ⟨lexS ops vs' sl ops.size, Ls' ops.size⟩ = some r := fun v L' hv hG => by
      let vs1 : Nat → AV := fun j => if j = i then v else vs j
      let Ls1 : Nat → Heap := fun j => if j = i + 1 then L' else Ls j
      have e1 : ∀ n, n ≤ i → lexS ops vs1 sl n = lexS ops vs sl n := fun n hn => lexS_congr fun j hj => by simp only [vs1]; rw [if_neg (by omega)]
      have e2 : vs1 i = v := by simp [vs1]
      have e3 : ∀ n, n ≤ i → Ls1 n = Ls n := fun n hn => by simp only [Ls1]; rw [if_neg (by omega)]
      have e4 : Ls1 (i + 1) = L' := by simp [Ls1]
      obtain ⟨vs', Ls', h0, hT, hk⟩ := trace_from (or := or) hsp rest (i + 1) vs1 Ls1 (fun j => by have := hr (j + 1); simp at this; rw [this]; congr 1; omega) (fun o ho => hq o (by simp [ho])) (fun j o' hj hoj => by
        by_cases hji : j = i
        · subst hji
          have : o' = o := Option.some.inj (hoj.symm.trans ho)
          subst this
          rw [e1 j (Nat.le_refl _), e2, e3 j (Nat.le_refl _), e4]; exact hG
        · rw [e1 j (by omega), show vs1 j = vs j from by simp only [vs1]; rw [if_neg hji], e3 j (by omega), e3 (j + 1) (by omega)]
          exact ht j o' (by omega) hoj) (by omega) (by
        simp only [lexS, ho, Option.bind_some]
        rw [e1 i (Nat.le_refl _), e2, e4]; exact hv)
      exact ⟨vs', Ls', by rw [h0, e3 0 (by omega)], hT, hk⟩
    rcases opsK_cons h with ⟨hG, h1⟩ | ⟨hG, h1⟩
    · obtain ⟨v, L', hk, hs⟩ := op_one hsp (hq o (by simp)) h1
      exact next v L' hk (.inl ⟨hG, hs⟩)
    · exact next skipped _ h1 (.inr ⟨hG, rfl, rfl⟩)

/-- The number of operations not yet listed. -/
def unl (ops : Array Oper) (listed : Array Bool) : List Nat := (List.range ops.size).filter fun i => !listed.getD i true

theorem unl_lt {j : Nat} (hj : j < ops.size) (hs : listed.size = ops.size) (hun : listed.getD j true = false) : (unl ops (listed.setIfInBounds j true)).length < (unl ops listed).length := by
  have e : unl ops (listed.setIfInBounds j true) = (unl ops listed).filter (fun i => decide (i ≠ j)) := by
    unfold unl
    rw [List.filter_filter]
    apply List.filter_congr
    intro i _
    by_cases hij : i = j
    · subst hij; simp [Array.getD_eq_getD_getElem?, hs, hj]
    · simp [hij, Array.getD_eq_getD_getElem?, Array.getElem?_setIfInBounds_ne (Ne.symm hij)]
  rw [e]
  exact List.length_filter_lt_length_iff_exists.2 ⟨j, List.mem_filter.2 ⟨List.mem_range.2 hj, by simp [hun]⟩, by simp⟩

theorem getD_tf {i : Nat} (hi : i < listed.size) : listed.getD i true = listed.getD i false := by simp [Array.getD, hi]

structure DInv (B0 : Nat) (w0 : World) (ok0 : Nat → Prop) (w1 : World) (E : Env) (Ls : Nat → Heap) (ops : Array Oper) (vs : Nat → AV) (sl : List AV) (listed : Array Bool) (ok : Nat → Prop) (a : Act) (w : World) : Prop where
  mem : Mem B0 w0 ok E (stL ops Ls listed ops.size) w
  slr : SlRep E w ok a.tmps (stS ops vs sl listed ops.size)
  size : a.tmps.size = sl.length
  defers : a.defers = []
  lsize : listed.size = ops.size
  closed : Closed ops listed
  step : Grow E w1 ok0 E w ok
  ext : ∀ b, ok b → ok0 b ∨ B0 ≤ b

theorem draw_go (hback : backOk ops = true) (hpair : pairsOk ops (ancs ops.toList []) = true) (heff : effsOk ops (ancs ops.toList []) = true) {Ls : Nat → Heap} (ht : Trace P ops vs Ls sl) {B0 : Nat} {w0 : World} {ok0 : Nat → Prop} {w1 : World} {E : Env} {Q : Exit → Act → World → Prop}
    (hQ : ∀ ok a w, Mem B0 w0 ok E (Ls ops.size) w → SlRep E w ok a.tmps (lexS ops vs sl ops.size) → a.tmps.size = sl.length → a.defers = [] → Grow E w1 ok0 E w ok → (∀ b, ok b → ok0 b ∨ B0 ≤ b) → Q .normal a w) :
    ∀ (fuel : Nat) (listed : Array Bool) (ok : Nat → Prop) (a : Act) (w : World), (unl ops listed).length ≤ fuel → DInv B0 w0 ok0 w1 E Ls ops vs sl listed ok a w → wpAny P .any ops Q fuel listed a w := by
  have hn : ∀ i, i < ops.size → effAt ops i = false → Ls (i + 1) = Ls i := fun i his he => by
    have hoi := Array.getElem?_eq_getElem his
    rw [effAt_some hoi] at he
    rcases ht i _ hoi with ⟨_, h | h⟩ | h
    · exact h.2.1
    · rw [he] at h; exact absurd h.1 (by simp)
    · exact h.2.2
  have hfull : ∀ {listed : Array Bool}, (∀ j, j < ops.size → listed.getD j false = true) → stL ops Ls listed ops.size = Ls ops.size := fun {listed} hall => by
    have := at_heap (ops := ops) (Ls := Ls) (listed := listed) (j := ops.size) (fun i hi _ => hall i hi) (fun i hi he => by simp [effAt, Array.getElem?_eq_none hi] at he) hn ops.size (Nat.le_refl _)
    rwa [Nat.min_self] at this
  have done : ∀ {listed : Array Bool} {ok : Nat → Prop} {a : Act} {w : World}, (∀ j, j < ops.size → listed.getD j false = true) → DInv B0 w0 ok0 w1 E Ls ops vs sl listed ok a w → Q .normal a w := fun hall hI =>
    hQ _ _ _ (by rw [← hfull hall]; exact hI.mem) (by rw [← st_all hall ops.size (Nat.le_refl _)]; exact hI.slr) hI.size hI.defers hI.step hI.ext
  have full : ∀ {listed : Array Bool}, listed.size = ops.size → Region.ready .any ops listed = [] → ∀ j, j < ops.size → listed.getD j false = true := by
    intro listed hs hr j
    induction j using Nat.strongRecOn with
    | _ j ih =>
      intro hj
      cases hl : listed.getD j false with
      | true => rfl
      | false =>
        exfalso
        have hun : listed.getD j true = false := by rw [getD_tf (by omega)]; exact hl
        have : j ∈ Region.ready .any ops listed := by
          refine mem_ready.2 ⟨hun, ops[j], Array.getElem?_eq_getElem hj, fun e he hb => ?_⟩
          have hlt : e.on < j := by
            have := List.all_eq_true.1 hback j (List.mem_range.2 hj)
            rw [Array.getElem?_eq_getElem hj] at this
            simp only [Array.all_eq_true'] at this
            simpa [hb] using this e he
          exact ih e.on hlt (by omega)
        rw [hr] at this; cases this
  intro fuel
  induction fuel with
  | zero =>
    intro listed ok a w hu hI
    have hall : ∀ j, j < ops.size → listed.getD j false = true := fun j hj => by
      cases hl : listed.getD j false with
      | true => rfl
      | false =>
        have : j ∈ unl ops listed := List.mem_filter.2 ⟨List.mem_range.2 hj, by rw [getD_tf (by rw [hI.lsize]; exact hj), hl]; rfl⟩
        have := List.length_pos_of_mem this
        omega
    refine ⟨?_, done hall hI⟩
    apply List.eq_nil_iff_forall_not_mem.2
    intro i hi
    obtain ⟨hun, o, ho, _⟩ := mem_ready.1 hi
    have his := (Array.getElem?_eq_some_iff.1 ho).1
    rw [getD_tf (by rw [hI.lsize]; exact his), hall i his] at hun
    cases hun
  | succ fuel ih =>
    intro listed ok a w hu hI
    refine ⟨fun hr => done (full hI.lsize hr) hI, fun j hj => ?_⟩
    obtain ⟨hun, o, ho, hedge⟩ := mem_ready.1 hj
    have hjs := (Array.getElem?_eq_some_iff.1 ho).1
    have hjl : j < listed.size := by rw [hI.lsize]; exact hjs
    have hun' : listed.getD j false = false := by rw [← getD_tf hjl]; exact hun
    have hcj : ClosedAt ops listed j := fun oj hoj e he hb => by
      have : oj = o := Option.some.inj (hoj.symm.trans ho)
      subst this
      exact hedge e he hb
    -- the slots that it looks at
    have hlook : ∀ t, t ∈ o.looksAt ops → (stS ops vs sl listed ops.size)[t]? = (lexS ops vs sl j)[t]? := fun t htl => by
      have := at_slot (ops := ops) (vs := vs) (sl := sl) (listed := listed) (j := j) (t := t) (fun i x hij hx hd => ?_) (fun i x hij hx hd => ?_) ops.size
      · rw [Nat.min_eq_right (by omega)] at this; exact this
      · rcases pair_ok hpair hij hx ho with h | h
        · exact anc_listed hback hI.closed j hcj h hjs
        · exact absurd htl ((Oper.apart_spec h).1 t hd)
      · by_cases hij' : i = j
        · subst hij'; exact hun'
        · cases hl : listed.getD i false with
          | false => rfl
          | true =>
            exfalso
            have his := (Array.getElem?_eq_some_iff.1 hx).1
            rcases pair_ok hpair (show j < i by omega) ho hx with h | h
            · have := anc_listed hback hI.closed i (hI.closed i hl) h his
              rw [this] at hun'; cases hun'
            · exact (Oper.apart_spec h).2.2 t hd htl
    have hadd : stS ops vs sl (listed.setIfInBounds j true) ops.size = setSl (stS ops vs sl listed ops.size) o.dst (vs j) := by
      have := add_slot (vs := vs) (sl := sl) ho hjl hun' (fun i x t hij hx hl hd hxd => by
        have his := (Array.getElem?_eq_some_iff.1 hx).1
        rcases pair_ok hpair hij ho hx with h | h
        · have := anc_listed hback hI.closed i (hI.closed i hl) h his
          rw [this] at hun'; cases hun'
        · exact (Oper.apart_spec h).2.1 t hd hxd) ops.size
      rw [if_neg (by omega)] at this
      exact this
    have hslot : ∀ t, t ∈ o.looksAt ops → Rep E w ok (a.tmps.getD t undef) ((lexS ops vs sl j).getD t .junk) := fun t htl => by
      have e := hlook t htl
      cases hc : (lexS ops vs sl j)[t]? with
      | none => simp [List.getD, hc]; exact .junk
      | some c =>
        rw [hc] at e
        simp only [List.getD, hc, Option.getD_some]
        exact hI.slr t c e
    have hw : ∀ {b : Bool}, GuardIs ops o (lexS ops vs sl j) b → Region.wanted o (yielded ops a.tmps) = b := fun hG =>
      hG.wanted (E := E) (w := w) (ok := ok) (by rw [hI.size, lexS_length]) (fun g want x d c hg hx hd hc => by
        have hm : d ∈ o.looksAt ops := by
          refine List.mem_append_right _ ?_
          simp only [hg, hx, Option.bind_some, hd]
          simp
        have := hslot d hm
        simpa [List.getD, hc] using this)
    have hnext : ∀ ok' u w', Mem B0 w0 ok' E (stL ops Ls (listed.setIfInBounds j true) ops.size) w' → Grow E w ok E w' ok' → (∀ b, ok' b → ok b ∨ B0 ≤ b) → Rep E w' ok' u (vs j) → wpAny P .any ops Q fuel (listed.setIfInBounds j true) (a.put o.dst u) w' := fun ok' u w' hM g ext hv => by
      refine ih _ ok' _ w' (by have := unl_lt hjs hI.lsize hun; omega) ⟨hM, ?_, by rw [put_size]; exact hI.size, by rw [put_defers]; exact hI.defers, by simp [hI.lsize], fun i hi => ?_, hI.step.trans g, fun b hb => (ext b hb).elim (hI.ext b) .inr⟩
      · rw [hadd]
        exact (hI.slr.grow g).put (by rw [hI.size, stS_length]) hv o.dst
      · intro oi hoi e he hb
        have mono : ∀ q, listed.getD q false = true → (listed.setIfInBounds j true).getD q false = true := fun q hq => by
          by_cases hqj : q = j
          · subst hqj; simp [Array.getD_eq_getD_getElem?, hjl]
          · rw [listed_set hqj]; exact hq
        by_cases hij : i = j
        · subst hij; exact mono _ (hcj oi hoi e he hb)
        · rw [listed_set hij] at hi
          exact mono _ (hI.closed i hi oi hoi e he hb)
    -- the heap that it sees
    have hlate : pureOp o.op = false → ∀ i, j < i → effAt ops i = true → listed.getD i false = false := fun hp i hij he => by
      cases hl : listed.getD i false with
      | false => rfl
      | true =>
        exfalso
        obtain ⟨x, hx, hxe⟩ : ∃ x, ops[i]? = some x ∧ effOp x.op = true := by
          cases hx : ops[i]? with
          | none => simp [effAt, hx] at he
          | some x => exact ⟨x, rfl, by rwa [effAt_some hx] at he⟩
        have his := (Array.getElem?_eq_some_iff.1 hx).1
        rcases eff_bound heff hij ho hx with h | h
        · have := anc_listed hback hI.closed i (hI.closed i hl) h his
          rw [this] at hun'; cases hun'
        · rcases h.2 with h | h
          · rw [hxe] at h; cases h
          · rw [hp] at h; cases h
    have hsee : pureOp o.op = false → stL ops Ls listed ops.size = Ls j := fun hp => by
      have := at_heap (ops := ops) (Ls := Ls) (listed := listed) (j := j) (fun i hij he => by
        obtain ⟨x, hx, hxe⟩ : ∃ x, ops[i]? = some x ∧ effOp x.op = true := by
          cases hx : ops[i]? with
          | none => simp [effAt, hx] at he
          | some x => exact ⟨x, rfl, by rwa [effAt_some hx] at he⟩
        rcases eff_bound heff hij hx ho with h | h
        · exact anc_listed hback hI.closed j hcj h hjs
        · rcases h.1 with h | h
          · rw [hxe] at h; cases h
          · rw [hp] at h; cases h) (fun i hij he => by
        by_cases hij' : i = j
        · subst hij'; exact hun'
        · exact hlate hp i (by omega) he) hn ops.size (Nat.le_refl _)
      rwa [Nat.min_eq_right (by omega)] at this
    have hops : ∀ x, x ∈ o.op.operands → Rep E w ok (a.eval x) (Ev.ev (lexS ops vs sl j) x) := fun x hx => by
      cases x with
      | tmp t => exact hslot t (List.mem_append_left _ (List.mem_filterMap.2 ⟨.tmp t, by simpa using hx, rfl⟩))
      | const v => exact rep_const v
      | global g => exact .junk
      | func f => exact .d (RepD.fn (vs := []) (cs := []) rfl (fun i x d hx => by simp at hx))
    unfold wpOp
    simp only [ho]
    rcases ht j o ho with ⟨hG, hs⟩ | ⟨hG, hv, hL⟩
    · rw [if_pos (hw hG)]
      refine .inl ?_
      rcases hs with ⟨hne, hLe, hs, hpu⟩ | ⟨hye, hv, hs⟩
      · have hkeep := keep_heap (Ls := Ls) (listed := listed) ((effAt_some ho).trans hne) ops.size
        have hs' : QSem P o (lexS ops vs sl j) (stL ops Ls listed ops.size) (vs j) := by
          cases hp : pureOp o.op with
          | true => exact hpu hp _
          | false => rw [hsee hp]; exact hs
        exact hs' ⟨hI.mem, hops⟩ _ Q fun ok' u w' _ hM g ext hv => hnext ok' u w' (by rw [hkeep]; exact hM) g ext hv
      · have hp := pure_not_eff hye
        have hadd' := add_heap (Ls := Ls) ((effAt_some ho).trans hye) hjl (hlate hp) ops.size hjs
        exact hs ⟨by rw [← hsee hp]; exact hI.mem, hops⟩ _ Q fun w' hM g => hnext ok undef w' (by rw [hadd']; exact hM) g (fun _ h => .inl h) (by rw [hv]; exact rep_skipped)
    · rw [if_neg (by rw [hw hG]; simp)]
      refine hnext ok undef w ?_ (Grow.refl _ _ _) (fun _ h => .inl h) (by rw [hv]; exact rep_skipped)
      cases he : effOp o.op with
      | false => rw [keep_heap ((effAt_some ho).trans he)]; exact hI.mem
      | true =>
        have hp := pure_not_eff he
        rw [add_heap (Ls := Ls) ((effAt_some ho).trans he) hjl (hlate hp) ops.size hjs, hL, ← hsee hp]
        exact hI.mem

theorem draw_sound (hsp : SpOk P sp) (hm : P.follows .mixedOrders = true) {or : Orc R} (hd : drawOk sp ops = true) {st : St} {k : St → Option R} {r : R} (h : opsK P sp base false or ops ops.toList st k = some r) :
    ∃ st', k st' = some r ∧ st'.sl.length = st.sl.length ∧ ∀ {B0 w0 ok E a w}, Sim B0 w0 ok E st a w → ∀ (id : Nat) (Q : Exit → Act → World → Prop),
      (∀ ok' E' a' w', Sim B0 w0 ok' E' st' a' w' → Step B0 base E w ok E' w' ok' → Q .normal a' w') → (Code.region id ops true).wp P Q a w := by
  unfold drawOk at hd
  simp only [Bool.and_eq_true] at hd
  obtain ⟨⟨⟨hq, hback⟩, hpair⟩, heff⟩ := hd
  obtain ⟨vs, Ls, hL0, ht, hk⟩ := trace_from (sl := st.sl) hsp ops.toList 0 (fun _ => .junk) (fun _ => st.L) (fun j => by simp) (fun o ho => List.all_eq_true.1 hq o ho) (fun j o hj => by omega) (by omega) h
  refine ⟨_, hk, lexS_length _ _ _, fun {B0 w0 ok E a w} hS id Q hQ => wp_region_any hm ?_⟩
  have hstart : stL ops Ls (Array.replicate ops.size false) ops.size = st.L := by
    have : ∀ m, stL ops Ls (Array.replicate ops.size false) m = Ls 0 := by
      intro m
      induction m with
      | zero => rfl
      | succ m ih =>
        simp only [stL]
        rw [if_neg, ih]
        simp only [Array.getD_eq_getD_getElem?, Array.getElem?_replicate]
        split <;> simp
    rw [this, hL0]
  refine draw_go hback hpair heff ht (B0 := B0) (w0 := w0) (ok0 := ok) (w1 := w) (E := E) (fun ok' a' w' hM hsl hsz hdf g ext => ?_) ops.size _ ok a _ (by unfold unl; exact Nat.le_trans (List.length_filter_le _ _) (by simp)) ⟨by rw [hstart]; exact hS.mem.drew, ?_, hS.size, hS.defers, by simp, fun j hj => ?_, Grow.drew E w ok, fun _ h => .inl h⟩
  · exact hQ ok' E a' w' ⟨hM, hsl, by rw [hsz, lexS_length], hdf⟩ (.of g ext)
  · have : ∀ m, stS ops vs st.sl (Array.replicate ops.size false) m = st.sl := by
      intro m
      induction m with
      | zero => rfl
      | succ m ih =>
        simp only [stS]
        rw [if_neg, ih]
        simp only [Array.getD_eq_getD_getElem?, Array.getElem?_replicate]
        split <;> simp
    rw [this]
    exact hS.sl.grow (Grow.drew E w ok)
  · exfalso
    simp only [Array.getD_eq_getD_getElem?, Array.getElem?_replicate] at hj
    split at hj <;> simp at hj
end
end Go.Ev
