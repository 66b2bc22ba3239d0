/-
  What a value of the machine stands for, in a world: 'RepD' (data), 'Rep' (values with local references), 'Mem' (the local blocks as they lie).
-/
import Derived.Test.YtilgfaangfbndaaDoorEvCode
namespace Go.Ev
open Go Go.RowKit

/-- 'x' stands for the data 'd': all cells behind it lie in blocks of 'ok'. -/
inductive RepD (w : World) (ok : Nat → Prop) : Value → D → Prop
  | v {x : Value} : leaf x = true → RepD w ok x (.v x)
  | fn {f : FuncId} {vs : List Value} {cs : List D} : vs.length = cs.length → (∀ (i : Nat) x d, vs[i]? = some x → cs[i]? = some d → RepD w ok x d) → RepD w ok (.func (.func f) #[] vs.toArray) (.fn f cs)
  | agg {vs : List Value} {cs : List D} : vs.length = cs.length → (∀ d, d ∈ cs → d.one = true) → (∀ (i : Nat) x d, vs[i]? = some x → cs[i]? = some d → RepD w ok x d) → RepD w ok (.agg vs.toArray) (.agg cs)
  | tup {vs : List Value} {cs : List D} : vs.length = cs.length → (∀ (i : Nat) x d, vs[i]? = some x → cs[i]? = some d → RepD w ok x d) → RepD w ok (.tuple vs.toArray) (.tup cs)
  | nil {a : Option Addr} {cap : Option Nat} : (cap = none ∨ cap = some 0) → RepD w ok (.slice a 0 0) (.list 0 cap [])
  | list {b off n cp : Nat} {cap : Option Nat} {cs : List D} {f : Nat → Value} : ok b → n ≤ cp → (∀ c, cap = some c → c = cp) → (∀ d, d ∈ cs → d.one = true) →
      (∀ j, j < cs.length → w.cell? ⟨b, off + j, none⟩ = some (f j)) → (∀ (j : Nat) d, cs[j]? = some d → RepD w ok (f j) d) → RepD w ok (.slice (some ⟨b, off, none⟩) n cp) (.list n cap cs)

/-- Where the local blocks lie: the block's number and how many cells it has. -/
abbrev Env := Nat → Option (Nat × Nat)

inductive Rep (E : Env) (w : World) (ok : Nat → Prop) : Value → AV → Prop
  | d {x : Value} {d : D} : RepD w ok x d → Rep E w ok x (.d d)
  | agg {vs : List Value} {cs : List AV} : vs.length = cs.length → (∀ c, c ∈ cs → c.one = true) → (∀ (i : Nat) x c, vs[i]? = some x → cs[i]? = some c → Rep E w ok x c) → Rep E w ok (.agg vs.toArray) (.agg cs)
  | tup {vs : List Value} {cs : List AV} : vs.length = cs.length → (∀ (i : Nat) x c, vs[i]? = some x → cs[i]? = some c → Rep E w ok x c) → Rep E w ok (.tuple vs.toArray) (.tup cs)
  | ptr {id off b m : Nat} : E id = some (b, m) → Rep E w ok (.pointer (some ⟨b, off, none⟩)) (.ptr id off)
  | sl {id off off' n cp b m sz : Nat} {cap : Option Nat} : E id = some (b, m) → n ≤ cp → (∀ c, cap = some c → c = cp) → off + cp * sz ≤ m → (off' = off ∨ cp = 0) → Rep E w ok (.slice (some ⟨b, off', none⟩) n cp) (.sl id off n cap sz)
  | slz {id off sz : Nat} {cap : Option Nat} {a : Option Addr} : (∀ q, cap = some q → q = 0) → Rep E w ok (.slice a 0 0) (.sl id off 0 cap sz)
  | lp {b base off : Nat} {cs : List D} {f : Nat → Value} : ok b → (∀ d, d ∈ cs → d.one = true) → (∀ j, j < cs.length → w.cell? ⟨b, base + j, none⟩ = some (f j)) → (∀ (j : Nat) d, cs[j]? = some d → RepD w ok (f j) d) →
      Rep E w ok (.pointer (some ⟨b, base + off, none⟩)) (.lp cs off)
  | clo {f : FuncId} {vs : List Value} {cs : List AV} : vs.length = cs.length → (∀ (i : Nat) x c, vs[i]? = some x → cs[i]? = some c → Rep E w ok x c) → Rep E w ok (.func (.func f) #[] vs.toArray) (.clo f cs)
  | junk {x : Value} : Rep E w ok x .junk

theorem RepD.mono {w w' : World} {ok ok' : Nat → Prop} (hok : ∀ b, ok b → ok' b) (hh : ∀ b, ok b → w'.heap[b]? = w.heap[b]?) {x : Value} {d : D} (h : RepD w ok x d) : RepD w' ok' x d := by
  induction h with
  | v hl => exact .v hl
  | fn hlen _ ih => exact .fn hlen ih
  | agg hlen h1 _ ih => exact .agg hlen h1 ih
  | tup hlen _ ih => exact .tup hlen ih
  | nil hc => exact .nil hc
  | list hb hn hcap h1 hcell _ ih => exact .list (hok _ hb) hn hcap h1 (fun j hj => (World.cell?_of_block (hh _ hb)).trans (hcell j hj)) ih

/-- From one state to a later one: what stood for something stands for it. -/
structure Grow (E : Env) (w : World) (ok : Nat → Prop) (E' : Env) (w' : World) (ok' : Nat → Prop) : Prop where
  env : ∀ id x, E id = some x → E' id = some x
  oks : ∀ b, ok b → ok' b
  heap : ∀ b, ok b → w'.heap[b]? = w.heap[b]?

theorem Grow.refl (E : Env) (w : World) (ok : Nat → Prop) : Grow E w ok E w ok := ⟨fun _ _ h => h, fun _ h => h, fun _ _ => rfl⟩
theorem Grow.trans {E E1 E2 : Env} {w w1 w2 : World} {ok ok1 ok2 : Nat → Prop} (h : Grow E w ok E1 w1 ok1) (k : Grow E1 w1 ok1 E2 w2 ok2) : Grow E w ok E2 w2 ok2 :=
  ⟨fun id x hx => k.env id x (h.env id x hx), fun b hb => k.oks b (h.oks b hb), fun b hb => (k.heap b (h.oks b hb)).trans (h.heap b hb)⟩

/-- One step of a function whose own blocks have numbers from 'n' on: the blocks below stay where they are; what is new in 'ok' lies from 'B0' on. -/
structure Step (B0 n : Nat) (E : Env) (w : World) (ok : Nat → Prop) (E' : Env) (w' : World) (ok' : Nat → Prop) : Prop where
  env : ∀ id x, id < n → E id = some x → E' id = some x
  oks : ∀ b, ok b → ok' b
  heap : ∀ b, ok b → w'.heap[b]? = w.heap[b]?
  ext : ∀ b, ok' b → ok b ∨ B0 ≤ b

theorem Step.refl (B0 n : Nat) (E : Env) (w : World) (ok : Nat → Prop) : Step B0 n E w ok E w ok := ⟨fun _ _ _ h => h, fun _ h => h, fun _ _ => rfl, fun _ h => .inl h⟩
theorem Step.trans {B0 n : Nat} {E E1 E2 : Env} {w w1 w2 : World} {ok ok1 ok2 : Nat → Prop} (h : Step B0 n E w ok E1 w1 ok1) (k : Step B0 n E1 w1 ok1 E2 w2 ok2) : Step B0 n E w ok E2 w2 ok2 :=
  ⟨fun id x hn hx => k.env id x hn (h.env id x hn hx), fun b hb => k.oks b (h.oks b hb), fun b hb => (k.heap b (h.oks b hb)).trans (h.heap b hb), fun b hb => (k.ext b hb).elim (h.ext b) .inr⟩
theorem Step.of {B0 n : Nat} {E E' : Env} {w w' : World} {ok ok' : Nat → Prop} (g : Grow E w ok E' w' ok') (e : ∀ b, ok' b → ok b ∨ B0 ≤ b) : Step B0 n E w ok E' w' ok' := ⟨fun id x _ => g.env id x, g.oks, g.heap, e⟩
theorem Step.of' {B0 n : Nat} {E E' : Env} {w w' : World} {ok : Nat → Prop} (g : Grow E w ok E' w' ok) : Step B0 n E w ok E' w' ok := ⟨fun id x _ => g.env id x, g.oks, g.heap, fun _ h => .inl h⟩

theorem RepD.grow {E E' : Env} {w w' : World} {ok ok' : Nat → Prop} (g : Grow E w ok E' w' ok') {x : Value} {d : D} (h : RepD w ok x d) : RepD w' ok' x d := h.mono g.oks g.heap

theorem Rep.grow {E E' : Env} {w w' : World} {ok ok' : Nat → Prop} (g : Grow E w ok E' w' ok') {x : Value} {c : AV} (h : Rep E w ok x c) : Rep E' w' ok' x c := by
  induction h with
  | d h => exact .d (h.grow g)
  | agg hlen h1 _ ih => exact .agg hlen h1 ih
  | tup hlen _ ih => exact .tup hlen ih
  | ptr he => exact .ptr (g.env _ _ he)
  | sl he hn hc hm ho => exact .sl (g.env _ _ he) hn hc hm ho
  | slz hc => exact .slz hc
  | lp hb h1 hcell hrep => exact .lp (g.oks _ hb) h1 (fun j hj => (World.cell?_of_block (g.heap _ hb)).trans (hcell j hj)) (fun j d hd => (hrep j d hd).grow g)
  | clo hlen _ ih => exact .clo hlen ih
  | junk => exact .junk

/-! ### One cell -/
theorem RepD.one {w : World} {ok : Nat → Prop} {x : Value} {d : D} (h : RepD w ok x d) (h1 : d.one = true) : x.oneCell' = true := by
  cases h with
  | v hl => cases x <;> simp_all [leaf, Value.oneCell']
  | fn => rfl
  | agg => simp [D.one] at h1
  | tup => simp [D.one] at h1
  | nil => rfl
  | list => rfl
theorem Rep.one {E : Env} {w : World} {ok : Nat → Prop} {x : Value} {c : AV} (h : Rep E w ok x c) (h1 : c.one = true) : x.oneCell' = true := by
  cases h with
  | d h => exact h.one h1
  | agg => simp [AV.one] at h1
  | tup => simp [AV.one] at h1
  | ptr => rfl
  | sl => rfl
  | slz => rfl
  | lp => rfl
  | clo => rfl
  | junk => simp [AV.one] at h1

theorem cells_one {x : Value} (h : x.oneCell' = true) : x.cells = #[x] := by cases x <;> simp_all [Value.cells, Value.oneCell']

/-! ### The local blocks -/
/-- The cells of block 'B' as they lie in 'c'. -/
def CellsRep (E : Env) (w : World) (ok : Nat → Prop) (c : List Value) : Blk → Prop
  | .dead => False
  | .d n cs => cs.length = n ∧ n ≤ c.length ∧ (∀ d, d ∈ cs → d.one = true) ∧ ∀ (j : Nat) d, cs[j]? = some d → ∃ x, c[j]? = some x ∧ RepD w ok x d
  | .a n cs => cs.length = n ∧ n ≤ c.length ∧ ∀ (j : Nat) a, cs[j]? = some a → ∃ x, c[j]? = some x ∧ Rep E w ok x a

theorem CellsRep.grow {E E' : Env} {w w' : World} {ok ok' : Nat → Prop} (g : Grow E w ok E' w' ok') {c : List Value} {B : Blk} (h : CellsRep E w ok c B) : CellsRep E' w' ok' c B := by
  cases B with
  | dead => exact h
  | d n cs => exact ⟨h.1, h.2.1, h.2.2.1, fun j d hd => let ⟨x, hx, hr⟩ := h.2.2.2 j d hd; ⟨x, hx, hr.grow g⟩⟩
  | a n cs => exact ⟨h.1, h.2.1, fun j d hd => let ⟨x, hx, hr⟩ := h.2.2 j d hd; ⟨x, hx, hr.grow g⟩⟩

/-- Each block has as many cells as it says. -/
def Blk.ok : Blk → Prop
  | .d n cs => cs.length = n
  | .a n cs => cs.length = n
  | .dead => True
def WF (L : Heap) : Prop := ∀ (id : Nat) (B : Blk), L[id]? = some B → B.ok

theorem CellsRep.len {E : Env} {w : World} {ok : Nat → Prop} {c : List Value} {B : Blk} (h : CellsRep E w ok c B) : B.ok := by
  cases B with
  | dead => exact h.elim
  | d n cs => exact h.1
  | a n cs => exact h.1

theorem WF.set {L : Heap} (h : WF L) {E : Env} {w : World} {ok : Nat → Prop} {c : List Value} {B : Blk} (hB : CellsRep E w ok c B) (id : Nat) : WF (L.set id B) := fun i B' hi => by
  by_cases hid : i = id
  · subst hid
    by_cases hlt : i < L.length
    · rw [List.getElem?_set_self hlt] at hi; cases hi; exact hB.len
    · rw [List.getElem?_eq_none (by simp; omega)] at hi; cases hi
  · rw [List.getElem?_set_ne (Ne.symm hid)] at hi; exact h i B' hi
theorem WF.push' {L : Heap} (h : WF L) {B : Blk} (hB : B.ok) : WF (L ++ [B]) := fun i B' hi => by
  by_cases hlt : i < L.length
  · rw [List.getElem?_append_left hlt] at hi; exact h i B' hi
  · rw [List.getElem?_append_right (by omega)] at hi
    cases hj : i - L.length with
    | zero => rw [hj] at hi; cases hi; exact hB
    | succ j => rw [hj] at hi; cases hi
theorem WF.push {L : Heap} (h : WF L) {E : Env} {w : World} {ok : Nat → Prop} {c : List Value} {B : Blk} (hB : CellsRep E w ok c B) : WF (L ++ [B]) := h.push' hB.len

structure Mem (B0 : Nat) (w0 : World) (ok : Nat → Prop) (E : Env) (L : Heap) (w : World) : Prop where
  below : Below B0 w0 w
  okb : ∀ b, ok b → b < w.heap.size ∧ ∀ id m, E id ≠ some (b, m)
  inj : ∀ i j b m m', E i = some (b, m) → E j = some (b, m') → i = j
  loc : ∀ id b m, E id = some (b, m) → B0 ≤ b ∧ ∃ (c : Array Value) (e : TypeId) (B : Blk), w.heap[b]? = some (.cells c e (0, 0)) ∧ c.size = m ∧ (∀ x, x ∈ c.toList → x.oneCell' = true) ∧ L[id]? = some B ∧ CellsRep E w ok c.toList B
  b0 : B0 ≤ w.heap.size
  wf : WF L

theorem Mem.lt {B0 : Nat} {w0 : World} {ok : Nat → Prop} {E : Env} {L : Heap} {w : World} (h : Mem B0 w0 ok E L w) {id b m : Nat} (he : E id = some (b, m)) : b < w.heap.size := by
  obtain ⟨_, c, e, B, hb, _⟩ := h.loc id b m he
  exact (Array.getElem?_eq_some_iff.1 hb).1
theorem Mem.idlt {B0 : Nat} {w0 : World} {ok : Nat → Prop} {E : Env} {L : Heap} {w : World} (h : Mem B0 w0 ok E L w) {id b m : Nat} (he : E id = some (b, m)) : id < L.length := by
  obtain ⟨_, c, e, B, _, _, _, hB, _⟩ := h.loc id b m he
  exact (List.getElem?_eq_some_iff.1 hB).1

/-- A draw. -/
theorem Grow.drew (E : Env) (w : World) (ok : Nat → Prop) : Grow E w ok E w.drew ok := ⟨fun _ _ h => h, fun _ h => h, fun _ _ => rfl⟩
theorem Mem.drew {B0 : Nat} {w0 : World} {ok : Nat → Prop} {E : Env} {L : Heap} {w : World} (h : Mem B0 w0 ok E L w) : Mem B0 w0 ok E L w.drew :=
  ⟨h.below.drew, h.okb, h.inj, fun id b m he => let ⟨h0, c, e, B, hb, hs, h1, hB, hc⟩ := h.loc id b m he; ⟨h0, c, e, B, hb, hs, h1, hB, hc.grow (Grow.drew E w ok)⟩, h.b0, h.wf⟩

/-- The environment with one more block. -/
def Env.put (E : Env) (id : Nat) (x : Nat × Nat) : Env := fun i => if i = id then some x else E i

/-- The i-th ids of a heap are free where no environment names them. -/
def Fresh (E : Env) (L : Heap) : Prop := ∀ id, L.length ≤ id → E id = none
theorem Mem.fresh {B0 : Nat} {w0 : World} {ok : Nat → Prop} {E : Env} {L : Heap} {w : World} (h : Mem B0 w0 ok E L w) : Fresh E L := fun id hid => by
  cases he : E id with
  | none => rfl
  | some x => obtain ⟨b, m⟩ := x; have := h.idlt he; omega

/-- A new block of the call's own. -/
theorem Grow.alloc {B0 : Nat} {w0 : World} {ok : Nat → Prop} {E : Env} {L : Heap} {w : World} (h : Mem B0 w0 ok E L w) (o : Obj) (m : Nat) : Grow E w ok (E.put L.length (w.heap.size, m)) (w.alloc o) ok :=
  ⟨fun id x hx => by
    have hne : id ≠ L.length := fun e => by rw [h.fresh id (by omega)] at hx; cases hx
    simp [Env.put, hne, hx], fun _ hb => hb, fun b hb => heap_alloc_old w o (h.okb b hb).1⟩

theorem Mem.alloc {B0 : Nat} {w0 : World} {ok : Nat → Prop} {E : Env} {L : Heap} {w : World} (h : Mem B0 w0 ok E L w) (c : Array Value) (e : TypeId) (B : Blk)
    (h1 : ∀ x, x ∈ c.toList → x.oneCell' = true) (hc : CellsRep E w ok c.toList B) :
    Mem B0 w0 ok (E.put L.length (w.heap.size, c.size)) (L ++ [B]) (w.alloc (.cells c e)) := by
  have g := Grow.alloc h (.cells c e) c.size
  refine ⟨h.below.alloc h.b0 _, fun b hb => ⟨by have := (h.okb b hb).1; simp; omega, fun id m he => ?_⟩, fun i j b m m' hi hj => ?_, fun id b m he => ?_, by have := h.b0; simp; omega, h.wf.push hc⟩
  · by_cases hid : id = L.length
    · simp [Env.put, hid] at he; have := (h.okb b hb).1; omega
    · simp [Env.put, hid] at he; exact (h.okb b hb).2 id m he
  · by_cases hid : i = L.length <;> by_cases hjd : j = L.length
    · omega
    · simp [Env.put, hid] at hi; simp [Env.put, hjd] at hj; have := h.lt hj; omega
    · simp [Env.put, hid] at hi; simp [Env.put, hjd] at hj; have := h.lt hi; omega
    · simp [Env.put, hid] at hi; simp [Env.put, hjd] at hj; exact h.inj i j b m m' hi hj
  · by_cases hid : id = L.length
    · simp [Env.put, hid] at he
      obtain ⟨rfl, rfl⟩ := he
      subst hid
      exact ⟨h.b0, c, e, B, heap_alloc_new w _, rfl, h1, by simp, hc.grow g⟩
    · simp [Env.put, hid] at he
      obtain ⟨h0, c', e', B', hb, hs, h1', hB, hc'⟩ := h.loc id b m he
      have hlt := h.idlt he
      exact ⟨h0, c', e', B', (heap_alloc_old w _ (h.lt he)).trans hb, hs, h1', by rw [List.getElem?_append_left hlt]; exact hB, hc'.grow g⟩

theorem Rep.new {E : Env} {w' : World} {ok : Nat → Prop} {id b m : Nat} : Rep (E.put id (b, m)) w' ok (.pointer (some ⟨b, 0, none⟩)) (.ptr id 0) :=
  .ptr (m := m) (by simp [Env.put])

end Go.Ev
