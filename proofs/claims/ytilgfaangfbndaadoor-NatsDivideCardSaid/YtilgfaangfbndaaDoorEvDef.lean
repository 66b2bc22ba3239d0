/-
  The abstract evaluator: values without addresses (D), values with local references (AV), one step of each operation in continuation form.
-/
import Derived.WalkKit
import Derived.KernelRfl
namespace Go.Ev
open Go

/-- Data: a value that holds no address that anybody writes behind. 'list': a slice whose cells nobody writes any more: its length, its capacity if known, its cells. -/
inductive D where
  | v (x : Value)
  | fn (f : FuncId) (cs : List D)
  | agg (cs : List D)
  | tup (cs : List D)
  | list (n : Nat) (cap : Option Nat) (cs : List D)

/-- Values of a running function: data, or references to its local blocks. -/
inductive AV where
  | d (x : D)
  | agg (cs : List AV)
  | tup (cs : List AV)
  | ptr (id off : Nat)
  | sl (id off n : Nat) (cap : Option Nat) (sz : Nat)
  | lp (cs : List D) (off : Nat)
  | clo (f : FuncId) (cs : List AV)
  | junk

/-- A local block: 'd n cs': n cells of data; 'a n cs': n cells, references among them. -/
inductive Blk where
  | dead
  | d (n : Nat) (cs : List D)
  | a (n : Nat) (cs : List AV)

abbrev Heap := List Blk

/-- A slice's three parts. -/
structure Sl where
  n : Nat
  cap : Option Nat
  cs : List D

def D.one : D → Bool
  | .agg _ | .tup _ => false
  | _ => true
def AV.one : AV → Bool
  | .d x => x.one
  | .agg _ | .tup _ => false
  | .junk => false
  | _ => true

/-- One cell, and no address in it. -/
def leaf : Value → Bool
  | .bool _ | .int _ _ | .string _ | .nilFunc | .nilIface | .pointer none | .map none | .chan none | .float _ _ | .complex _ _ _ => true
  | _ => false

def zeroD : Value → Option D
  | .slice none 0 0 => some (.list 0 (some 0) [])
  | x => if leaf x then some (.v x) else none
def zerosD : List Value → Option (List D)
  | [] => some []
  | x :: r => (zeroD x).bind fun d => (zerosD r).bind fun ds => some (d :: ds)

def ofConst : Value → AV
  | .slice none 0 0 => .d (.list 0 (some 0) [])
  | .tuple vs => if vs.size = 0 then .d (.tup []) else .junk
  | x => if leaf x then .d (.v x) else .junk

def ev (sl : List AV) : Operand → AV
  | .tmp t => sl.getD t .junk
  | .const v => ofConst v
  | .global _ => .junk
  | .func f => .d (.fn f [])

/-! ### Typed reads -/
def asB : AV → Option Bool
  | .d (.v (.bool b)) => some b
  | _ => none
def asI : AV → Option (IntKind × Int)
  | .d (.v (.int k i)) => some (k, i)
  | _ => none
def rdI (k : IntKind) : Option D → Option Int
  | some (.v (.int k' i)) => if k' = k then some i else none
  | _ => none
def rdB : Option D → Option Bool
  | some (.v (.bool b)) => some b
  | _ => none
def rdS : Option D → Option ByteArray
  | some (.v (.string s)) => some s
  | _ => none
def rdL : Option D → Option Sl
  | some (.list n cap cs) => some ⟨n, cap, cs⟩
  | _ => none
def rdF : Option D → Option D
  | some (.fn f cs) => some (.fn f cs)
  | some (.v .nilFunc) => some (.v .nilFunc)
  | _ => none

section
variable {R : Type}

/-- The value of one cell of a type, its shape laid open. -/
def rdK (t : TypeDesc) (x : Option D) (k : AV → Option R) : Option R :=
  match t with
  | .int kd => (rdI kd x).bind fun i => k (.d (.v (.int kd i)))
  | .bool => (rdB x).bind fun b => k (.d (.v (.bool b)))
  | .string => (rdS x).bind fun s => k (.d (.v (.string s)))
  | .slice _ => (rdL x).bind fun s => k (.d (.list s.n s.cap s.cs))
  | .func _ _ _ => (rdF x).bind fun d => k (.d d)
  | _ => none

def isRow : TypeDesc → Bool
  | .struct _ | .array _ _ => true
  | _ => false

def allD : List AV → Option (List D)
  | [] => some []
  | .d x :: r => (allD r).bind fun ds => some (x :: ds)
  | _ => none
def mkAgg (cs : List AV) : AV :=
  match allD cs with
  | some ds => .d (.agg ds)
  | none => .agg cs
def mkTup (cs : List AV) : AV :=
  match allD cs with
  | some ds => .d (.tup ds)
  | none => .tup cs

/-- The cells of a value, as a block. -/
def blkOf (size : Nat) (x : AV) (k : Blk → Option R) : Option R :=
  match x with
  | .d (.agg cs) => if cs.length = size then k (.d size cs) else none
  | .d x => if size = 1 ∧ x.one = true then k (.d 1 [x]) else none
  | .agg cs => if cs.length = size then k (.a size cs) else none
  | x => if size = 1 ∧ x.one = true then k (.a 1 [x]) else none

/-- A part of 'size' cells from 'off' on. -/
def cutL {α : Type} (n : Nat) (cs : List α) (off size : Nat) : List α := if off = 0 ∧ size = n then cs else (cs.drop off).take size
def cut {α : Type} (n : Nat) (cs : List α) (off size : Nat) (k : List α → Option R) : Option R :=
  if off + size ≤ n then k (cutL n cs off size) else none

def loadK (P : Program) (t : TypeId) (x : AV) (L : Heap) (k : AV → Heap → Option R) : Option R :=
  (P.underlying t).bind fun d => (P.info? t).bind fun i =>
  match x with
  | .ptr id off =>
    match L[id]? with
    | some (.d n cs) => if isRow d then cut n cs off i.size fun r => k (.d (.agg r)) L else rdK d cs[off]? fun v => k v L
    | some (.a n cs) =>
      if isRow d then cut n cs off i.size fun r => if r.all AV.one then k (mkAgg r) L else none
      else match cs[off]? with
        | some (.d x) => rdK d (some x) fun v => k v L
        | some x => k x L
        | none => none
    | _ => none
  | .lp cs off =>
    if isRow d then (if off + i.size ≤ cs.length then k (.d (.agg ((cs.drop off).take i.size))) L else none)
    else rdK d cs[off]? fun v => k v L
  | _ => none

/-- 'xs' laid over 'cs' from 'off' on. -/
def putL {α : Type} (n : Nat) (cs : List α) (off size : Nat) (xs : List α) : List α := if off = 0 ∧ size = n then xs else cs.take off ++ (xs ++ cs.drop (off + size))
def put {α : Type} (n : Nat) (cs : List α) (off size : Nat) (xs : List α) (k : List α → Option R) : Option R :=
  if off + size ≤ n then k (putL n cs off size xs) else none

def storeK (P : Program) (t : TypeId) (a x : AV) (L : Heap) (k : AV → Heap → Option R) : Option R :=
  (P.underlying t).bind fun d => (P.info? t).bind fun i =>
  match a with
  | .ptr id off =>
    match L[id]? with
    | some (.d n cs) =>
      if isRow d then
        match x with
        | .d (.agg ys) => if ys.length = i.size then put n cs off i.size ys fun r => k .junk (L.set id (.d n r)) else none
        | .agg ys => if ys.length = i.size then put n (cs.map .d) off i.size ys fun r => k .junk (L.set id (.a n r)) else none
        | _ => none
      else if i.size = 1 ∧ off < n then
        match x with
        | .d y => if y.one then k .junk (L.set id (.d n (cs.set off y))) else none
        | x => if x.one then k .junk (L.set id (.a n ((cs.map .d).set off x))) else none
      else none
    | some (.a n cs) =>
      if isRow d then
        match x with
        | .d (.agg ys) => if ys.length = i.size then put n cs off i.size (ys.map .d) fun r => k .junk (L.set id (.a n r)) else none
        | .agg ys => if ys.length = i.size then put n cs off i.size ys fun r => k .junk (L.set id (.a n r)) else none
        | _ => none
      else if i.size = 1 ∧ off < n ∧ x.one = true then k .junk (L.set id (.a n (cs.set off x))) else none
    | _ => none
  | _ => none

/-! ### Numbers, bools, strings -/
def shiftK (op : BinOp) (k : IntKind) (x y : Int) (g : Value → Option R) : Option R :=
  if y < 0 then none else
  match op with
  | .shl => g (.int k (k.wrap (x * 2 ^ (min y.toNat k.bits))))
  | .shr => g (.int k (x.fdiv (2 ^ (min y.toNat k.bits))))
  | _ => none

def intD (op : BinOp) (k : IntKind) (x y : Int) (g : Value → Option R) : Option R :=
  match op with
  | .add => g (.int k (k.wrap (x + y)))
  | .sub => g (.int k (k.wrap (x - y)))
  | .mul => g (.int k (k.wrap (x * y)))
  | .quo => if y = 0 then none else g (.int k (k.wrap (x.tdiv y)))
  | .rem => if y = 0 then none else g (.int k (x.tmod y))
  | .and => g (.int k (k.wrap (BitVec.ofInt k.bits x &&& BitVec.ofInt k.bits y).toNat))
  | .or => g (.int k (k.wrap (BitVec.ofInt k.bits x ||| BitVec.ofInt k.bits y).toNat))
  | .xor => g (.int k (k.wrap (BitVec.ofInt k.bits x ^^^ BitVec.ofInt k.bits y).toNat))
  | .andNot => g (.int k (k.wrap (BitVec.ofInt k.bits x &&& ~~~BitVec.ofInt k.bits y).toNat))
  | .eql => g (.bool (x == y))
  | .neq => g (.bool (x != y))
  | .lss => g (.bool (decide (x < y)))
  | .leq => g (.bool (decide (x ≤ y)))
  | .gtr => g (.bool (decide (x > y)))
  | .geq => g (.bool (decide (x ≥ y)))
  | _ => none

def strD (op : BinOp) (x y : ByteArray) (g : Value → Option R) : Option R :=
  match op with
  | .add => if x.size + y.size ≤ 9223372036854775807 then g (.string (x ++ y)) else none
  | .eql => g (.bool (x.toList == y.toList))
  | .neq => g (.bool !(x.toList == y.toList))
  | .lss => g (.bool (Op.bytesLess x.toList y.toList))
  | .leq => g (.bool (Op.bytesLess x.toList y.toList || x.toList == y.toList))
  | .gtr => g (.bool !(Op.bytesLess x.toList y.toList || x.toList == y.toList))
  | .geq => g (.bool !(Op.bytesLess x.toList y.toList))
  | _ => none

/-- The kinds of scalars. -/
inductive Kd where
  | int | bool | str

def scalarEq : Kd → D → D → Option Bool
  | .int, .v (.int k a), .v (.int k' b) => if k = k' then some (a == b) else none
  | .bool, .v (.bool a), .v (.bool b) => some (a == b)
  | .str, .v (.string a), .v (.string b) => some (a.toList == b.toList)
  | _, _, _ => none
/-- Two rows of scalars. -/
def cellsEq : List Kd → List D → List D → Option Bool
  | [], [], [] => some true
  | q :: ks, x :: xs, y :: ys => (scalarEq q x y).bind fun b => (cellsEq ks xs ys).bind fun c => some (b && c)
  | _, _, _ => none

/-- The kinds of the cells of a type whose values compare cell by cell: whole numbers, bools, strings, arrays and structs of these, no field that does not count. -/
def kindsF (kinds : TypeId → Option (List Kd)) (sz : TypeId → Option Nat) : Nat → List Field → Option (List Kd)
  | _, [] => some []
  | off, f :: fs => if f.name = "_" then none else if f.offset = off then (kinds f.type).bind fun a => if sz f.type = some a.length then (kindsF kinds sz (off + a.length) fs).bind fun b => some (a ++ b) else none else none
def kinds (P : Program) : Nat → TypeId → Option (List Kd)
  | 0, _ => none
  | n + 1, t =>
    match P.underlying t with
    | some (.int _) => some [.int]
    | some .bool => some [.bool]
    | some .string => some [.str]
    | some (.struct fs) => if P.stoodInHeld t then none else kindsF (kinds P n) (fun t => (P.info? t).map (·.size)) 0 fs.toList
    | some (.array m e) => (kinds P n e).bind fun a => if (P.info? e).map (·.size) = some a.length then some (List.replicate m a).flatten else none
    | _ => none

def binK (P : Program) (op : BinOp) (t : TypeId) (x y : AV) (k : AV → Option R) : Option R :=
  match x, y with
  | .d (.v (.int ka a)), .d (.v (.int kb b)) =>
    match op with
    | .shl => shiftK .shl ka a b fun v => k (.d (.v v))
    | .shr => shiftK .shr ka a b fun v => k (.d (.v v))
    | _ => if ka = kb then intD op ka a b fun v => k (.d (.v v)) else none
  | .d (.v (.string a)), .d (.v (.string b)) => strD op a b fun v => k (.d (.v v))
  | .d (.v (.bool a)), .d (.v (.bool b)) =>
    match op, P.underlying t with
    | .eql, some .bool => k (.d (.v (.bool (a == b))))
    | .neq, some .bool => k (.d (.v (.bool !(a == b))))
    | _, _ => none
  | .d (.agg xs), .d (.agg ys) =>
    if (P.underlying t).any isRow = false then none else
    if P.eqGuardType P.depth t then none else
    (kinds P 8 t).bind fun ks =>
      match op with
      | .eql => (cellsEq ks xs ys).bind fun b => k (.d (.v (.bool b)))
      | .neq => (cellsEq ks xs ys).bind fun b => k (.d (.v (.bool !b)))
      | _ => none
  | _, _ => none

def unK (op : UnOp) (x : AV) (k : AV → Option R) : Option R :=
  match op, x with
  | .neg, .d (.v (.int kd n)) => k (.d (.v (.int kd (kd.wrap (0 - n)))))
  | .xor, .d (.v (.int kd n)) => k (.d (.v (.int kd (kd.wrap (BitVec.ofInt kd.bits (if kd.signed then -1 else kd.max) ^^^ BitVec.ofInt kd.bits n).toNat))))
  | .not, .d (.v (.bool b)) => k (.d (.v (.bool !b)))
  | _, _ => none

def bytesOf : List D → Option (List UInt8)
  | [] => some []
  | .v (.int .u8 n) :: r => (bytesOf r).bind fun l => some (UInt8.ofNat n.toNat :: l)
  | _ => none

def byteD (b : UInt8) : D := .v (.int .u8 b.toNat)

def convK (P : Program) (src dst : TypeId) (x : AV) (L : Heap) (k : AV → Heap → Option R) : Option R :=
  match P.underlying src, P.underlying dst with
  | some (.int _), some (.int kd) =>
    match x with
    | .d (.v (.int _ n)) => k (.d (.v (.int kd (kd.wrap n)))) L
    | _ => none
  | some .string, some .string =>
    match x with
    | .d (.v (.string s)) => k (.d (.v (.string s))) L
    | _ => none
  | some (.slice e), some .string =>
    match P.underlying e with
    | some (.int .u8) =>
      match x with
      | .d (.list n _ cs) => if cs.length = n then (bytesOf cs).bind fun l => k (.d (.v (.string ⟨l.toArray⟩))) L else none
      | .sl id off n _ sz =>
        match L[id]? with
        | some (.d m cs) => if sz = 1 then cut m cs off n fun r => (bytesOf r).bind fun l => k (.d (.v (.string ⟨l.toArray⟩))) L else none
        | _ => none
      | _ => none
    | _ => none
  | some .string, some (.slice e) =>
    match P.underlying e with
    | some (.int .u8) =>
      match x with
      | .d (.v (.string s)) => k (.d (.list s.size none (s.data.toList.map byteD))) L
      | _ => none
    | _ => none
  | _, _ => none

def fieldOf (P : Program) (s : TypeId) (f : Nat) : Option (Nat × Nat) :=
  match P.underlying s with
  | some (.struct fs) => (fs[f]?).bind fun g => (P.info? g.type).bind fun i => if i.size = 0 then none else some (g.offset, i.size)
  | _ => none

/-- Parts laid into a row of zeros. -/
def fillK (n : Nat) (place : Nat → Option (Nat × Nat)) (cs : List AV) : List (Nat × AV) → (List AV → Option R) → Option R
  | [], k => k cs
  | (i, x) :: rest, k =>
    (place i).bind fun (off, size) =>
    match x with
    | .d (.agg ys) => if ys.length = size then put n cs off size (ys.map .d) fun r => fillK n place r rest k else none
    | .agg ys => if ys.length = size then put n cs off size ys fun r => fillK n place r rest k else none
    | x => if size = 1 ∧ off < n ∧ x.one = true then fillK n place (cs.set off x) rest k else none

def mkBlk (n : Nat) (cs : List AV) : Blk :=
  match allD cs with
  | some ds => .d n ds
  | none => .a n cs

def bound (x : Option AV) (top : Nat) (dflt : Nat) (k : Nat → Option R) : Option R :=
  match x with
  | none => k dflt
  | some v => (asI v).bind fun p => if 0 ≤ p.2 ∧ p.2 ≤ top then k p.2.toNat else none

def Blk.size : Blk → Nat
  | .dead => 0
  | .d n _ => n
  | .a n _ => n

def sliceK (P : Program) (t : TypeId) (x : AV) (L : Heap) (lo hi mx : Option AV) (k : AV → Option R) : Option R :=
  match P.underlying t with
  | some .string =>
    match x with
    | .d (.v (.string s)) =>
      if mx.isSome then none else
      bound hi s.size s.size fun h => bound lo h 0 fun l => k (.d (.v (.string (s.extract l h))))
    | _ => none
  | some (.slice e) => (P.info? e).bind fun i =>
    match x with
    | .d (.list n cap cs) =>
      match mx with
      | none => bound hi n n fun h => bound lo h 0 fun l =>
          k (.d (.list (h - l) (cap.map (· - l)) ((cs.drop (l * i.size)).take ((h - l) * i.size))))
      | some m => bound (some m) n n fun m => match hi with
        | none => none
        | some hi => bound (some hi) m m fun h => bound lo h 0 fun l =>
          k (.d (.list (h - l) (some (m - l)) ((cs.drop (l * i.size)).take ((h - l) * i.size))))
    | .sl id off n cap sz =>
      if sz = i.size then
        match mx with
        | none => bound hi n n fun h => bound lo h 0 fun l => k (.sl id (off + l * i.size) (h - l) (cap.map (· - l)) sz)
        | some m => bound (some m) n n fun m => match hi with
          | none => none
          | some hi => bound (some hi) m m fun h => bound lo h 0 fun l => k (.sl id (off + l * i.size) (h - l) (some (m - l)) sz)
      else none
    | _ => none
  | some (.array n e) => (P.info? e).bind fun i =>
    match x with
    | .ptr id off =>
      if mx.isSome ∨ ((L[id]?).any (fun B => off + n * i.size ≤ B.size)) = false then none else
      bound hi n n fun h => bound lo h 0 fun l => k (.sl id (off + l * i.size) (h - l) (some (n - l)) i.size)
    | .lp cs off =>
      if mx.isSome then none else
      bound hi n n fun h => bound lo h 0 fun l => k (.d (.list (h - l) (some (n - l)) ((cs.drop (off + l * i.size)).take ((h - l) * i.size))))
    | _ => none
  | _ => none

def indexAddrK (P : Program) (t : TypeId) (x i : AV) (k : AV → Option R) : Option R :=
  (asI i).bind fun p =>
  match P.underlying t with
  | some (.array n e) => (P.info? e).bind fun ei =>
    if 2 ≤ n then
      match x with
      | .ptr id off => if 0 ≤ p.2 ∧ p.2 < n then k (.ptr id (off + p.2.toNat * ei.size)) else none
      | .lp cs off => if 0 ≤ p.2 ∧ p.2 < n then k (.lp cs (off + p.2.toNat * ei.size)) else none
      | _ => none
    else none
  | some (.slice e) => (P.info? e).bind fun ei =>
    match x with
    | .d (.list n _ cs) => if 0 ≤ p.2 ∧ p.2 < n then k (.lp cs (p.2.toNat * ei.size)) else none
    | .sl id off n _ sz => if sz = ei.size then (if 0 ≤ p.2 ∧ p.2 < n then k (.ptr id (off + p.2.toNat * ei.size)) else none) else none
    | _ => none
  | _ => none

def partK (P : Program) (t : TypeId) (cs : List D) (off : Nat) (k : AV → Option R) : Option R :=
  (P.underlying t).bind fun d => (P.info? t).bind fun i =>
  if isRow d then (if off + i.size ≤ cs.length then k (.d (.agg ((cs.drop off).take i.size))) else none) else rdK d cs[off]? k

def indexK (P : Program) (t : TypeId) (x i : AV) (k : AV → Option R) : Option R :=
  (asI i).bind fun p =>
  match P.underlying t, x with
  | some (.array n e), .d (.agg cs) => (P.info? e).bind fun ei =>
    if 0 ≤ p.2 ∧ p.2 < n then partK P e cs (p.2.toNat * ei.size) k else none
  | some .string, .d (.v (.string s)) =>
    if 0 ≤ p.2 ∧ p.2 < s.size then k (.d (.v (.int .u8 ((s.data.toList.getD p.2.toNat 0).toNat : Nat)))) else none
  | _, _ => none

def fieldK (P : Program) (t : TypeId) (x : AV) (f : Nat) (k : AV → Option R) : Option R :=
  match P.underlying t, x with
  | some (.struct fs), .d (.agg cs) => (fs[f]?).bind fun g => partK P g.type cs g.offset k
  | _, _ => none

def zerosOf (P : Program) (t : TypeId) : Option (Nat × List D) :=
  (P.info? t).bind fun i => i.zero.bind fun z => (zerosD z.cells.toList).bind fun ds => if ds.length = i.size then some (i.size, ds) else none

/-- The cells of a slice's argument of append or copy. -/
def srcK (x : AV) (L : Heap) (size : Nat) (k : Nat → List D → Option R) : Option R :=
  match x with
  | .d (.list n _ cs) => if cs.length = n * size then k n cs else none
  | .sl id off n _ sz =>
    if sz = size then
      match L[id]? with
      | some (.d m cs) => cut m cs off (n * size) fun r => k n r
      | _ => none
    else none
  | _ => none

def killAV (id : Nat) : AV → AV
  | .ptr i o => if i = id then .junk else .ptr i o
  | .sl i o n c s => if i = id then .junk else .sl i o n c s
  | x => x
/-- Does a value lead to block 'id'? -/
def hasRef (id : Nat) : AV → Bool
  | .ptr i _ => i == id
  | .sl i _ _ _ _ => i == id
  | .agg cs => hasRefs id cs
  | .tup cs => hasRefs id cs
  | .clo _ cs => hasRefs id cs
  | _ => false
where hasRefs (id : Nat) : List AV → Bool
  | [] => false
  | x :: r => hasRef id x || hasRefs id r

end
end Go.Ev
