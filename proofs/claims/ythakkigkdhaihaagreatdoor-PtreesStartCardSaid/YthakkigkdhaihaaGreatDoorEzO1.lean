/-
 Rows of cells; object identifiers as plain values.
-/
import Derived.Test.YthakkigkdhaihaaGreatDoorEzA1
set_option linter.unusedSimpArgs false
set_option linter.unusedVariables false
namespace Go.Ev
open Go
section
variable {α : Type} {f : α → List D} {c : Nat}
theorem rows_len : ∀ {l : List α}, (∀ x, x ∈ l → (f x).length = c) → ((l.map f).flatten).length = l.length * c
 | [], _ => by simp
 | x :: l, h => by
  rw [List.map_cons, List.flatten_cons, List.length_append, h x (by simp), rows_len (fun y hy => h y (by simp [hy])), List.length_cons, Nat.succ_mul]
  omega
theorem row_get : ∀ {l : List α}, (∀ x, x ∈ l → (f x).length = c) → ∀ {i : Nat} (h : i < l.length), (((l.map f).flatten).drop (i * c)).take c = f l[i]
 | [], _, i, hi => by simp at hi
 | x :: l, h, 0, hi => by
  rw [List.map_cons, List.flatten_cons, Nat.zero_mul, List.drop_zero]
  exact List.take_left' (h x (by simp))
 | x :: l, h, i + 1, hi => by
  have hx := h x (by simp)
  have : (((x :: l).map f).flatten).drop ((i + 1) * c) = ((l.map f).flatten).drop (i * c) := by
   rw [List.map_cons, List.flatten_cons, Nat.succ_mul, Nat.add_comm, ← hx, ← List.drop_drop, List.drop_left]
  rw [this, row_get (fun y hy => h y (by simp [hy])) (by simpa using hi)]
  simp
end
structure Oid where
 n : Nat
 a : List Nat
deriving DecidableEq
structure Oid.ok (o : Oid) : Prop where
 n : o.n < 256
 len : o.a.length = 16
 arc : ∀ x, x ∈ o.a → x < 4294967296
def n32 (l : List Nat) : List D := l.map fun (x : Nat) => .v (.int .u32 (x : Int))
@[simp] theorem n32_length (l : List Nat) : (n32 l).length = l.length := by simp [n32]
theorem Z1lo (l : List Nat) (i : Nat) : rdI .u32 (n32 l)[i]? = l[i]?.map fun (x : Nat) => (x : Int) := by
 rw [n32, List.getElem?_map]; cases l[i]? <;> rfl
theorem Z17o {l : List Nat} {i : Nat} (h : i < l.length) : rdI .u32 (n32 l)[i]? = some (l[i] : Int) := by rw [Z1lo, List.getElem?_eq_getElem h]; rfl
theorem Z1kw (l : List Nat) (k : Nat) : (n32 l).take k = n32 (l.take k) := by simp [n32, List.map_take]
def Oid.cells (o : Oid) : List D := .v (.int .u8 (o.n : Int)) :: n32 o.a
theorem Oid.cells_len {o : Oid} (h : o.ok) : o.cells.length = 17 := by simp [Oid.cells, h.len]
def Oid.good (o : Oid) : Bool := decide (2 ≤ o.n) && decide (o.n ≤ 16) && ((o.a.drop o.n).all fun x => decide (x = 0)) && (decide (o.a.getD 0 0 < 2) && decide (o.a.getD 1 0 < 40) || decide (o.a.getD 0 0 = 2) && decide (o.a.getD 1 0 ≤ 4294967215))
def Oid.err (o : Oid) : Int := if o.good then 0 else 1
def cmpL : List Nat → List Nat → Int
 | [], [] => 0
 | [], _ :: _ => -1
 | _ :: _, [] => 1
 | a :: l, b :: m => if a < b then -1 else if b < a then 1 else cmpL l m
def Oid.arcs (o : Oid) : List Nat := o.a.take (min o.n 16)
def Oid.cmp (o p : Oid) : Int := cmpL o.arcs p.arcs
def setErrFrom : Option Oid → List Oid → Int
 | _, [] => 0
 | b, o :: r => if o.good = false then 1 else
  match b with
  | none => setErrFrom (some o) r
  | some q => if Oid.cmp q o = 0 then 14 else if 0 < Oid.cmp q o then 13 else setErrFrom (some o) r
def setErr (l : List Oid) : Int := if 256 < l.length then 3 else setErrFrom none l
def oidsC (l : List Oid) : List D := (l.map Oid.cells).flatten
section
variable {P : Program} {t u v w : TypeId}
theorem RowOf.oid {fs : Array Field} {f1 f2 : Field} (ht : P.underlying t = some (.struct fs)) (hfs : fs.toList = [f1, f2]) (hct : P.cellsOf t = 17) (h1 : f1.offset = 0) (h2 : f2.offset = 1)
  (hu : P.underlying f1.type = some (.int .u8)) (hcu : P.cellsOf f1.type = 1) (hv : P.underlying f2.type = some (.array 16 w)) (hcv : P.cellsOf f2.type = 16) (hw : P.underlying w = some (.int .u32)) (hcw : P.cellsOf w = 1) :
  RowOf P t Oid.cells Oid.ok := fun n ds h => by
 have r1 := RowOf.nat (b := 256) hu (by decide) (by decide)
 have r2 := RowOf.array (m := 16) hv hcw (by rw [hcv]) (RowOf.nat (b := 4294967296) hw (by decide) (by decide))
 have := RowOf.struct (len := 1 + 16) ht hct (by
  rw [hfs]
  exact Z9s.cons h1 hcu r1 (by simp [h2]) (Z9s.one h2 hcv r2))
 obtain ⟨⟨x, a⟩, ⟨hx, ha, hb⟩, rfl⟩ := this n ds h
 refine ⟨⟨x, a⟩, ⟨hx, ha, hb⟩, ?_⟩
 simp only [Oid.cells, n32]
 rw [flat1]
 rfl
end
end Go.Ev