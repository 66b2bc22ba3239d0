/-
 Chains of valid records: the counters before each certificate, by the program and by the reference.
-/
import Derived.Test.YthakkigkdhaihaaGreatDoorEzR3
import Derived.Test.YthakkigkdhaihaaGreatDoorEzLC
import Derived.Test.YthakkigkdhaihaaGreatDoorEzG6
set_option linter.unusedSimpArgs false
set_option linter.unusedVariables false
set_option maxRecDepth 100000
namespace Go.Ev
open Go
theorem row_at {α : Type} {f : α → List D} {c : Nat} {l : List α} (h : ∀ x, x ∈ l → (f x).length = c) {i j : Nat} (hi : i < l.length) (hj : j < c) : ((l.map f).flatten)[i * c + j]? = (f l[i])[j]? := by
 rw [← row_get h hi, List.getElem?_take, if_pos hj, List.getElem?_drop]
theorem Zxk {l : List Rcd} {i j : Nat} (hi : i < l.length) (hj : j < 8) : (rcdsC l)[i * 8 + j]? = l[i].cells[j]? := row_at (fun q _ => q.cells_len) hi hj
structure Rcd.good (q : Rcd) : Prop where
 ok : q.ok
 err : q.err = 0
theorem Rcd.good.lim {q : Rcd} (h : q.good) : -1 ≤ q.r ∧ q.r ≤ 2147483647 ∧ -1 ≤ q.i ∧ q.i ≤ 2147483647 ∧ -1 ≤ q.y ∧ q.y ≤ 2147483647 := by
 have he := h.err
 have hs : q.shape = 0 := by
  unfold Rcd.err at he
  by_cases h0 : q.shape = 0
  ·exact h0
  ·rw [if_neg h0] at he; exact absurd he h0
 unfold Rcd.shape at hs
 split at hs
 ·cases hs
 ·split at hs
  ·cases hs
  ·omega
structure Chain (l : List Rcd) : Prop where
 pos : 1 ≤ l.length
 le : l.length ≤ 64
 good : ∀ q, q ∈ l → q.good
theorem Ci.chain_ok (x : Ci) : Chain x.chain := ⟨x.chain_len.1, by have := x.chain_len.2; omega, fun q hq => by
 obtain ⟨r, rfl⟩ := x.chain_one q hq; exact ⟨r.rcd_ok, r.rcd_err⟩⟩
theorem Z14j {α : Type} {g : α → Int} : ∀ {l : List α}, (∀ x, x ∈ l → g x = 0) → firstL g l = 0
 | [], _ => rfl
 | x :: r, h => by unfold firstL; rw [if_pos (h x (by simp))]; exact Z14j (fun y hy => h y (by simp [hy]))
theorem Chain.err {l : List Rcd} (h : Chain l) : Zl3 Rcd.err l = 0 := by
 have := h.pos
 have := h.le
 unfold Zl3
 rw [if_neg (by omega), if_neg (by omega)]
 exact Z14j fun q hq => (h.good q hq).err
theorem Chain.all {l : List Rcd} (h : Chain l) {u : List Oid} (hu : setErr u = 0) : allErr Rcd.err l u = 0 := by
 unfold allErr; rw [if_pos h.err, hu]
theorem Chain.chk {l : List Rcd} (h : Chain l) : ∀ q, q ∈ l → Z22 [.agg q.cells] = some (.v (.int .i64 q.err)) := fun q hq => Zz8 (h.good q hq).ok
def In65 (c : C3) : Prop := 0 ≤ c.1 ∧ c.1 ≤ 65 ∧ 0 ≤ c.2.1 ∧ c.2.1 ≤ 65 ∧ 0 ≤ c.2.2 ∧ c.2.2 ≤ 65
def Rcd.nxR (q : Rcd) (c : C3) : C3 := (afterR q.s c.1 q.r, afterR q.s c.2.1 q.i, afterR q.s c.2.2 q.y)
theorem Z1bo {s : Bool} {x lim : Int} (h0 : 0 ≤ x) (h1 : x ≤ 65) : afterR s x lim = (if lim = -1 then (if s then x else max (x - 1) 0) else min lim (if s then x else max (x - 1) 0)) := by
 unfold afterR
 have e : (cond (!s) (cond (x != 0) (IntKind.wrap .i64 (x - 1)) x) x) = (if s then x else max (x - 1) 0) := by
  cases s with
  | true => rfl
  | false =>
   by_cases h : x = 0
   ·subst h; rfl
   ·rw [show (x != 0) = true from bne_iff_ne.2 h]
    simp only [Bool.not_false, cond_true]
    rw [Zil (by omega) (by omega)]
    simp; omega
 rw [e]
 dsimp only
 by_cases h : lim = -1
 ·rw [if_pos h, h]; rfl
 ·rw [if_neg h, show (lim != -1) = true from bne_iff_ne.2 h]
  simp only [cond_true, Bool.cond_decide]
  split <;> omega
theorem Z14k {s : Bool} {x lim : Int} (h0 : 0 ≤ x) (h1 : x ≤ 65) (hl : -1 ≤ lim) : 0 ≤ afterR s x lim ∧ afterR s x lim ≤ 65 := by
 rw [Z1bo h0 h1]
 split <;> split <;> omega
theorem Rcd.nx_eq {q : Rcd} {c : C3} (hc : In65 c) : q.nx c = q.nxR c := by
 obtain ⟨h1, h2, h3, h4, h5, h6⟩ := hc
 unfold Rcd.nx Rcd.nxR
 rw [Z12l h1 h2, Z12l h3 h4, Z12l h5 h6]
theorem Rcd.nx_in {q : Rcd} (hq : q.good) {c : C3} (hc : In65 c) : In65 (q.nx c) := by
 rw [Rcd.nx_eq hc]
 have hl := hq.lim
 obtain ⟨h1, h2, h3, h4, h5, h6⟩ := hc
 have a := Z14k (s := q.s) (lim := q.r) h1 h2 (by omega)
 have b := Z14k (s := q.s) (lim := q.i) h3 h4 (by omega)
 have d := Z14k (s := q.s) (lim := q.y) h5 h6 (by omega)
 exact ⟨a.1, a.2, b.1, b.2, d.1, d.2⟩
def stAt (l : List Rcd) (c : C3) (k : Nat) : C3 := (l.take k).foldl (fun c q => q.nx c) c
theorem Z14l {l : List Rcd} {c : C3} {k : Nat} (h : k < l.length) : stAt l c (k + 1) = l[k].nx (stAt l c k) := by
 unfold stAt
 rw [List.take_add_one, List.getElem?_eq_getElem h, List.foldl_append]; rfl
theorem Z18q {l : List Rcd} (h : ∀ q, q ∈ l → q.good) {c : C3} (hc : In65 c) : ∀ k, In65 (stAt l c k)
 | 0 => hc
 | k + 1 => by
  by_cases hk : k < l.length
  ·rw [Z14l hk]; exact Rcd.nx_in (h _ (List.getElem_mem hk)) (Z18q h hc k)
  ·have : stAt l c (k + 1) = stAt l c k := by unfold stAt; rw [List.take_of_length_le (by omega), List.take_of_length_le (by omega)]
   rw [this]; exact Z18q h hc k
theorem states_get : ∀ {l : List Rcd} {c : C3} {k : Nat} (h : k < l.length), (states Rcd.nx c l)[k]'(by rw [Zl4]; exact h) = stAt l c k
 | [], c, k, h => by simp at h
 | q :: r, c, 0, h => rfl
 | q :: r, c, k + 1, h => by
  have := states_get (l := r) (c := q.nx c) (k := k) (by simpa using h)
  simp only [states, List.getElem_cons_succ]
  rw [this]; rfl
abbrev c0 (n : Nat) (x y z : Bool) : C3 := (cond x 0 (n + 1 : Int), cond y 0 (n + 1 : Int), cond z 0 (n + 1 : Int))
theorem c0_in {n : Nat} {x y z : Bool} (h : n ≤ 64) : In65 (c0 n x y z) := by
 refine ⟨?_, ?_, ?_, ?_, ?_, ?_⟩ <;> dsimp only [c0] <;> first | cases x <;> simp <;> omega | cases y <;> simp <;> omega | cases z <;> simp <;> omega
theorem Z16r {n : Nat} (hn : n ≤ 64) (u : List Oid) (cu : Option Nat) (x y z : Bool) : Z6p [.v (.int .i64 (n : Int)), .agg (inC u cu x y z)] = some (.agg (ctr3 (c0 n x y z))) := by
 show Zky M (n : Int) u.length cu (oidsC u) x y z = _
 unfold Zky
 rw [Zni, Zni, Zaa, Zaa, Zaa, Zaa, Zil (by omega) (by omega)]
 cases x <;> cases y <;> cases z <;> rfl
theorem Z1dm (c : C3) : (ctr3 c).length = 3 := rfl
theorem Z14m (m : Nat) {l : List Rcd} (h : Chain l) (cp : Option Nat) {un : Nat} {uc : Option Nat} {u : List D} {x y z : Bool} {i : Nat} (hi : i ≤ l.length) {s : C3} (hs : In65 s) : ∀ (c k : Nat), i - k < c → k ≤ i →
  Zew m c l.length cp (rcdsC l) ((i + 1 : Nat) : Int) ((k + 1 : Nat) : Int) un uc u x y z (ctr3 (stAt l s k)) = some (.agg (ctr3 (stAt l s i)))
 | 0, k, hc, hk => by omega
 | c + 1, k, hc, hk => by
  have hle := h.le
  have hl := Zt9 l
  rw [Zx0, Z40 (by omega)]
  have e1 : IntKind.wrap .i64 (((k + 1 : Nat) : Int) - (1 : Int)) = (k : Int) := by rw [Zil (by omega) (by omega)]; omega
  rw [e1]
  simp only [Int.toNat_natCast]
  by_cases hlt : k < i
  ·have hk' : k < l.length := by omega
   have hq := h.good _ (List.getElem_mem hk')
   rw [Z1bl hk']
   refine st_cT (decide_eq_true (by omega)) ?_
   refine st_if (by omega) ?_
   refine st_if (by omega) ?_
   refine Z5 (Z15j _ _ _ _ _ _ _ _ _ _ _ _ _ _ _) ?_
   refine Z5 (rdA_v _) ?_
   refine st_if rfl ?_
   have := Z14m m h cp hi hs c (k + 1) (un := un) (uc := uc) (u := u) (x := x) (y := y) (z := z) (by omega) (by omega)
   rw [Z14l hk', Rcd.nx_eq (Z18q h.good hs k)] at this
   exact this
  ·refine st_cF (decide_eq_false (by omega)) ?_
   obtain rfl : k = i := by omega
   exact st_if rfl rfl
theorem Zko {l : List Rcd} (h : Chain l) (cp : Option Nat) (u : List Oid) (cu : Option Nat) (x y z : Bool) {i : Nat} (hi : i ≤ l.length) :
  Z4e [.list l.length cp (rcdsC l), .agg (inC u cu x y z), .v (.int .i64 ((i + 1 : Nat) : Int))] = some (.agg (ctr3 (stAt l (c0 l.length x y z) i))) := by
 show Ziz M l.length cp (rcdsC l) u.length cu (oidsC u) x y z ((i + 1 : Nat) : Int) = _
 unfold Ziz
 have := h.le
 refine Z5 (Z16r h.le u cu x y z) ?_
 refine Z5 (rdA_v _) ?_
 refine st_if rfl ?_
 exact Z14m M h cp hi (c0_in h.le) M 0 (by unfold M; omega) (by omega)
theorem Z15x (e m a : Int) (s hp : Bool) (pn : Nat) (pc : Option Nat) (p : List D) (hm : Bool) (mn : Nat) (mc : Option Nat) (mp : List D) (r i y : Int) :
  Zhe [.agg (ctrC e m a), .agg (recC s hp pn pc p hm mn mc mp r i y)] = some (.v (.int .i64 (cond (r == 0) 0 (cond (e != 0) (IntKind.wrap .i64 (e - 1)) e)))) := by
 show Znk M e m a s hp pn pc p hm mn mc mp r i y = _
 unfold Znk
 rw [Zpc, Zpc]
 cases (e != 0) <;> cases (r == 0) <;> rfl
theorem Z1ng {e r : Int} (h0 : 0 ≤ e) (h1 : e ≤ 65) : cond (r == 0) 0 (cond (e != 0) (IntKind.wrap .i64 (e - 1)) e) = cond (r == 0) 0 (mm false (IntKind.wrap .i64 (e - 1)) 0) := by
 congr 1
 rw [Zil (by omega) (by omega)]
 unfold mm
 by_cases h : e = 0
 ·subst h; rfl
 ·rw [show (e != 0) = true from bne_iff_ne.2 h]
  simp; omega
theorem Z1hl {l : List Rcd} : ∀ (c : C3) (v : Int) (hl : 0 < l.length), finalC Rcd.nx Rcd.wr v c l = (l[l.length - 1]'(by omega)).wr (stAt l c (l.length - 1)) := by
 induction l with
 | nil => intro c v h; simp at h
 | cons q r ih =>
  intro c v _
  cases r with
  | nil => rfl
  | cons q2 r2 =>
   have := ih (q.nx c) (q.wr c) (by simp)
   simp only [finalC] at this ⊢
   rw [this]
   rfl
theorem Z14n {l : List Rcd} (h : Chain l) (cp : Option Nat) (u : List Oid) (cu : Option Nat) (x y z : Bool) :
  Zej [.list l.length cp (rcdsC l), .agg (inC u cu x y z)] = some (.v (.int .i64 (finalC Rcd.nx Rcd.wr 0 (c0 l.length x y z) l))) := by
 show Zkz M l.length cp (rcdsC l) u.length cu (oidsC u) x y z = _
 have h1 := h.pos
 have h2 := h.le
 have hl := Zt9 l
 have hb := Zko h cp u cu x y z (i := l.length - 1) (by omega)
 rw [show ((l.length - 1 + 1 : Nat) : Int) = (l.length : Int) by omega] at hb
 unfold Zkz
 have e1 : IntKind.wrap .i64 ((l.length : Int) - (1 : Int)) = ((l.length - 1 : Nat) : Int) := by rw [Zil (by omega) (by omega)]; omega
 rw [e1]
 simp only [Int.toNat_natCast]
 have hk : l.length - 1 < l.length := by omega
 rw [Z1bl hk]
 refine Z5 hb ?_
 refine Z5 (rdA_v _) ?_
 refine st_if (by omega) ?_
 refine st_if (by omega) ?_
 refine Z5 (Z15x _ _ _ _ _ _ _ _ _ _ _ _ _ _ _) ?_
 refine Z5 (rdI_v _ _) ?_
 have hi := Z18q h.good (c0_in h.le (x := x) (y := y) (z := z)) (l.length - 1)
 rw [Z1hl _ _ (by omega), Z1ng hi.1 hi.2.1]
 rfl
end Go.Ev