/-
  The evaluator: EzD EzGl EzDef EzCode EzRep.
-/
import Derived.WalkKit
import Derived.KernelRfl
import Derived.Orders
/-
 Data: values that hold no address that anybody writes behind.
-/
namespace Go.Ev
open Go
inductive D where
 | v (x : Value)
 | fn (f : FuncId) (cs : List D)
 | agg (cs : List D)
 | tup (cs : List D)
 | list (n : Nat) (cap : Option Nat) (cs : List D)
 | mp (kvs : List (D × D))
end Go.Ev
/-
  The package variables that are known,by their numbers: what they are laid with.
-/
namespace Go.Ev
open Go
def tagD (b : Bool) (n : Int) : List D := [.v (.int .u8 0),.v (.bool b),.v (.int .u32 n)]
def GlT : List (Nat × List D) := [(0,tagD true 16),(1,tagD false 6),(2,tagD false 22),(5,tagD false 2),(6,[.v (.int .u32 12),.v (.int .u32 22),.v (.int .u32 26),.v (.int .u32 30)])]
def Gl (g : Nat) : Option (List D) := GlT.lookup g
end Go.Ev

/-
 The abstract evaluator: values without addresses (D),values with local references (AV),one step of each operation in continuation form.
-/
namespace Go.Ev
open Go
inductive AV where
 | d (x : D)
 | agg (cs : List AV)
 | tup (cs : List AV)
 | ptr (id off : Nat)
 | sl (id off n : Nat) (cap : Option Nat) (sz : Nat)
 | lp (cs : List D) (off : Nat)
 | clo (f : FuncId) (cs : List AV)
 | bnd (f : FuncId) (cs : List AV)
 | yld (id : Nat)
 | it (id : Nat)
 | mp (id : Nat)
 | junk
inductive Ex where
 | normal | exit (id : Nat) | goto (l : Nat) | ret
structure Mask where
 keep : List Bool
 prom : List (Nat × Nat)
 top : Option Nat := none
 fuel : Option Nat := none
structure FnH where
 loops : List (Nat × Mask)
 cuts : List (Nat × Mask)
structure Own where
 base : Nat
 ex : List Nat
 rd : Bool
 mv : List FuncId
def ownB (o : Own) (id : Nat) : Bool := Nat.ble o.base id || o.ex.elem id
inductive Blk where
 | dead
 | d (n : Nat) (cs : List D)
 | a (n : Nat) (cs : List AV)
 | t (ty : TypeId) (n : Nat) (cs : List AV)
 | td (ty : TypeId) (n : Nat) (cs : List D)
 | iter (s : ByteArray) (pos : Nat)
 | map (kvs : List (D × D))
 | loop (s : Nat) (p : Option Ex) (sl : List AV) (ps : List Nat) (a b : Code) (fh : FnH)
abbrev Heap := List Blk
structure Sl where
 n : Nat
 cap : Option Nat
 cs : List D
def D.one : D → Bool
 | .agg _ | .tup _ => false
 | _ => true
def AV.one : AV → Bool
 | .d x => x.one
 | .agg _ | .tup _ => false
 | .junk => false
 | _ => true
def leaf : Value → Bool
 | .bool _ | .int _ _ | .string _ | .nilFunc | .nilIface | .pointer none | .map none | .chan none | .float _ _ | .complex _ _ _ => true
 | _ => false
def zeroD : Value → Option D
 | .slice none 0 0 => some (.list 0 (some 0) [])
 | x => if leaf x then some (.v x) else none
def zerosD : List Value → Option (List D)
 | [] => some []
 | x :: r => (zeroD x).bind fun d => (zerosD r).bind fun ds => some (d :: ds)
def ofConst : Value → AV
 | .slice none 0 0 => .d (.list 0 (some 0) [])
 | .tuple vs => if vs.size = 0 then .d (.tup []) else .junk
 | x => if leaf x then .d (.v x) else .junk
def ev (sl : List AV) : Operand → AV
 | .tmp t => sl.getD t .junk
 | .const v => ofConst v
 | .global g => match Gl g with
  | some cs => .lp cs 0
  | none => .junk
 | .func f => .d (.fn f [])
def asB : AV → Option Bool
 | .d (.v (.bool b)) => some b
 | _ => none
def asI : AV → Option (IntKind × Int)
 | .d (.v (.int k i)) => some (k,i)
 | _ => none
def rdI (k : IntKind) : Option D → Option Int
 | some (.v (.int k' i)) => if k' = k then some i else none
 | _ => none
def rdB : Option D → Option Bool
 | some (.v (.bool b)) => some b
 | _ => none
def rdS : Option D → Option ByteArray
 | some (.v (.string s)) => some s
 | _ => none
def rdL : Option D → Option Sl
 | some (.list n cap cs) => some ⟨n,cap,cs⟩
 | _ => none
def rdM : Option D → Option (List (D × D))
 | some (.mp kvs) => some kvs
 | _ => none
def rdF : Option D → Option D
 | some (.fn f cs) => some (.fn f cs)
 | some (.v .nilFunc) => some (.v .nilFunc)
 | _ => none
section
variable {R : Type}
def rdK (t : TypeDesc) (x : Option D) (k : AV → Option R) : Option R :=
 match t with
 | .int kd => (rdI kd x).bind fun i => k (.d (.v (.int kd i)))
 | .bool => (rdB x).bind fun b => k (.d (.v (.bool b)))
 | .string => (rdS x).bind fun s => k (.d (.v (.string s)))
 | .slice _ => (rdL x).bind fun s => k (.d (.list s.n s.cap s.cs))
 | .func _ _ _ => (rdF x).bind fun d => k (.d d)
 | _ => none
def isPtr : TypeDesc → Bool
 | .pointer _ => true
 | _ => false
def isRow : TypeDesc → Bool
 | .struct _ | .array _ _ => true
 | _ => false
def allD : List AV → Option (List D)
 | [] => some []
 | .d x :: r => (allD r).bind fun ds => some (x :: ds)
 | _ => none
def mkAgg (cs : List AV) : AV :=
 match allD cs with
 | some ds => .d (.agg ds)
 | none => .agg cs
def mkTup (cs : List AV) : AV :=
 match allD cs with
 | some ds => .d (.tup ds)
 | none => .tup cs
def blkOf (size : Nat) (x : AV) (k : Blk → Option R) : Option R :=
 match x with
 | .d (.agg cs) => if cs.length = size then k (.d size cs) else none
 | .d x => if size = 1 ∧ x.one = true then k (.d 1 [x]) else none
 | .agg cs => if cs.length = size then k (.a size cs) else none
 | x => if size = 1 ∧ x.one = true then k (.a 1 [x]) else none
def cutL {α : Type} (n : Nat) (cs : List α) (off size : Nat) : List α := if off = 0 ∧ size = n then cs else (cs.drop off).take size
def cut {α : Type} (n : Nat) (cs : List α) (off size : Nat) (k : List α → Option R) : Option R :=
 if off + size ≤ n then k (cutL n cs off size) else none
def loadK (P : Program) (t : TypeId) (x : AV) (L : Heap) (k : AV → Heap → Option R) : Option R :=
 (P.underlying t).bind fun d => (P.info? t).bind fun i =>
 match x with
 | .ptr id off =>
  match L[id]? with
  | some (.d n cs) => if isRow d then cut n cs off i.size fun r => k (.d (.agg r)) L else rdK d cs[off]? fun v => k v L
  | some (.a n cs) =>
   if isRow d then cut n cs off i.size fun r => if r.all AV.one then k (mkAgg r) L else none
   else match cs[off]? with
    | some (.d x) => rdK d (some x) fun v => k v L
    | some x => k x L
    | none => none
  | some (.t _ _ cs) =>
   if isRow d then none
   else match cs[off]? with
    | some (.d x) => cond (isPtr d) (match x with
      | .v (.pointer none) => k (.d (.v (.pointer none))) L
      | _ => none) (rdK d (some x) fun v => k v L)
    | some x => k x L
    | none => none
  | _ => none
 | .lp cs off =>
  if isRow d then (if off + i.size ≤ cs.length then k (.d (.agg ((cs.drop off).take i.size))) L else none)
  else rdK d cs[off]? fun v => k v L
 | _ => none
def putL {α : Type} (n : Nat) (cs : List α) (off size : Nat) (xs : List α) : List α := if off = 0 ∧ size = n then xs else cs.take off ++ (xs ++ cs.drop (off + size))
def put {α : Type} (n : Nat) (cs : List α) (off size : Nat) (xs : List α) (k : List α → Option R) : Option R :=
 if off + size ≤ n then k (putL n cs off size xs) else none
def storeK (P : Program) (t : TypeId) (a x : AV) (L : Heap) (k : AV → Heap → Option R) : Option R :=
 (P.underlying t).bind fun d => (P.info? t).bind fun i =>
 match a with
 | .ptr id off =>
  match L[id]? with
  | some (.d n cs) =>
   if isRow d then
    match x with
    | .d (.agg ys) => if ys.length = i.size then put n cs off i.size ys fun r => k .junk (L.set id (.d n r)) else none
    | .agg ys => if ys.length = i.size then put n (cs.map .d) off i.size ys fun r => k .junk (L.set id (.a n r)) else none
    | _ => none
   else if i.size = 1 ∧ off < n then
    match x with
    | .d y => if y.one then k .junk (L.set id (.d n (cs.set off y))) else none
    | x => if x.one then k .junk (L.set id (.a n ((cs.map .d).set off x))) else none
   else none
  | some (.a n cs) =>
   if isRow d then
    match x with
    | .d (.agg ys) => if ys.length = i.size then put n cs off i.size (ys.map .d) fun r => k .junk (L.set id (.a n r)) else none
    | .agg ys => if ys.length = i.size then put n cs off i.size ys fun r => k .junk (L.set id (.a n r)) else none
    | _ => none
   else if i.size = 1 ∧ off < n ∧ x.one = true then k .junk (L.set id (.a n (cs.set off x))) else none
  | some (.t ty n cs) => if isRow d then none else if i.size = 1 ∧ off < n ∧ x.one = true then k .junk (L.set id (.t ty n (cs.set off x))) else none
  | _ => none
 | _ => none
def shiftK (op : BinOp) (k : IntKind) (x y : Int) (g : Value → Option R) : Option R :=
 if y < 0 then none else
 match op with
 | .shl => g (.int k (k.wrap (x * 2 ^ (min y.toNat k.bits))))
 | .shr => g (.int k (x.fdiv (2 ^ (min y.toNat k.bits))))
 | _ => none
def intD (op : BinOp) (k : IntKind) (x y : Int) (g : Value → Option R) : Option R :=
 match op with
 | .add => g (.int k (k.wrap (x + y)))
 | .sub => g (.int k (k.wrap (x - y)))
 | .mul => g (.int k (k.wrap (x * y)))
 | .quo => if y = 0 then none else g (.int k (k.wrap (x.tdiv y)))
 | .rem => if y = 0 then none else g (.int k (x.tmod y))
 | .and => g (.int k (k.wrap (BitVec.ofInt k.bits x &&& BitVec.ofInt k.bits y).toNat))
 | .or => g (.int k (k.wrap (BitVec.ofInt k.bits x ||| BitVec.ofInt k.bits y).toNat))
 | .xor => g (.int k (k.wrap (BitVec.ofInt k.bits x ^^^ BitVec.ofInt k.bits y).toNat))
 | .andNot => g (.int k (k.wrap (BitVec.ofInt k.bits x &&& ~~~BitVec.ofInt k.bits y).toNat))
 | .eql => g (.bool (x == y))
 | .neq => g (.bool (x != y))
 | .lss => g (.bool (decide (x < y)))
 | .leq => g (.bool (decide (x ≤ y)))
 | .gtr => g (.bool (decide (x > y)))
 | .geq => g (.bool (decide (x ≥ y)))
 | _ => none
def strD (op : BinOp) (x y : ByteArray) (g : Value → Option R) : Option R :=
 match op with
 | .add => if x.size + y.size ≤ 9223372036854775807 then g (.string (x ++ y)) else none
 | .eql => g (.bool (x.toList == y.toList))
 | .neq => g (.bool !(x.toList == y.toList))
 | .lss => g (.bool (Op.bytesLess x.toList y.toList))
 | .leq => g (.bool (Op.bytesLess x.toList y.toList || x.toList == y.toList))
 | .gtr => g (.bool !(Op.bytesLess x.toList y.toList || x.toList == y.toList))
 | .geq => g (.bool !(Op.bytesLess x.toList y.toList))
 | _ => none
inductive Kd where
 | int | bool | str
def scalarEq : Kd → D → D → Option Bool
 | .int,.v (.int k a),.v (.int k' b) => if k = k' then some (a == b) else none
 | .bool,.v (.bool a),.v (.bool b) => some (a == b)
 | .str,.v (.string a),.v (.string b) => some (a.toList == b.toList)
 | _,_,_ => none
def cellsEq : List Kd → List D → List D → Option Bool
 | [],[],[] => some true
 | q :: ks,x :: xs,y :: ys => (scalarEq q x y).bind fun b => (cellsEq ks xs ys).bind fun c => some (b && c)
 | _,_,_ => none
def kindsF (kinds : TypeId → Option (List Kd)) (sz : TypeId → Option Nat) : Nat → List Field → Option (List Kd)
 | _,[] => some []
 | off, f :: fs => if f.name = "_" then none else if f.offset = off then (kinds f.type).bind fun a => if sz f.type = some a.length then (kindsF kinds sz (off + a.length) fs).bind fun b => some (a ++ b) else none else none
def kinds (P : Program) : Nat → TypeId → Option (List Kd)
 | 0,_ => none
 | n + 1,t =>
  match P.underlying t with
  | some (.int _) => some [.int]
  | some .bool => some [.bool]
  | some .string => some [.str]
  | some (.struct fs) => if P.stoodInHeld t then none else kindsF (kinds P n) (fun t => (P.info? t).map (·.size)) 0 fs.toList
  | some (.array m e) => (kinds P n e).bind fun a => if (P.info? e).map (·.size) = some a.length then some (List.replicate m a).flatten else none
  | _ => none
def Kd.num : Kd → Bool
 | .int => true
 | _ => false
def keyOk (P : Program) (t : TypeId) : D → Bool
 | .agg xs => (P.underlying t).any isRow && match kinds P 8 t with
  | some ks => ks.length == xs.length && ks.all Kd.num
  | none => false
 | _ => false
def keyEq (P : Program) (t : TypeId) : D → D → Option Bool
 | .agg xs,.agg ys => (kinds P 8 t).bind fun ks => cellsEq ks xs ys
 | _,_ => none
def findM (eq : D → D → Option Bool) (k : D) : List (D × D) → Nat → Option (Option (Nat × D))
 | [],_ => some none
 | e :: r,i => (eq k e.1).bind fun b => cond b (some (some (i,e.2))) (findM eq k r (i + 1))
def lookM (eq : D → D → Option Bool) (k z : D) (l : List (D × D)) : Option (D × Bool) := (findM eq k l 0).map fun o => match o with
 | some p => (p.2,true)
 | none => (z,false)
def putM (eq : D → D → Option Bool) (k v : D) (l : List (D × D)) : Option (List (D × D)) := (findM eq k l 0).map fun o => match o with
 | some p => l.set p.1 (k,v)
 | none => l ++ [(k,v)]
def binK (P : Program) (op : BinOp) (t : TypeId) (x y : AV) (k : AV → Option R) : Option R :=
 match x,y with
 | .d (.v (.int ka a)),.d (.v (.int kb b)) =>
  match op with
  | .shl => shiftK .shl ka a b fun v => k (.d (.v v))
  | .shr => shiftK .shr ka a b fun v => k (.d (.v v))
  | _ => if ka = kb then intD op ka a b fun v => k (.d (.v v)) else none
 | .d (.v (.string a)),.d (.v (.string b)) => strD op a b fun v => k (.d (.v v))
 | .d (.v (.bool a)),.d (.v (.bool b)) =>
  match op,P.underlying t with
  | .eql,some .bool => k (.d (.v (.bool (a == b))))
  | .neq,some .bool => k (.d (.v (.bool !(a == b))))
  | _,_ => none
 | .d (.agg xs),.d (.agg ys) =>
  if (P.underlying t).any isRow = false then none else
  if P.eqGuardType P.depth t then none else
  (kinds P 8 t).bind fun ks =>
   match op with
   | .eql => (cellsEq ks xs ys).bind fun b => k (.d (.v (.bool b)))
   | .neq => (cellsEq ks xs ys).bind fun b => k (.d (.v (.bool !b)))
   | _ => none
 | _,_ => none
def ptrT (P : Program) (t : TypeId) : Bool := match P.underlying t with
 | some (.pointer te) => (P.info? te).isSome
 | _ => false
def eqlB (op : BinOp) (b : Bool) (k : AV → Option R) : Option R := match op with
 | .eql => k (.d (.v (.bool b)))
 | .neq => k (.d (.v (.bool !b)))
 | _ => none
def ptrK (op : BinOp) (x y : AV) (k : AV → Option R) : Option R := match x,y with
 | .ptr i o,.ptr j q => if i = j ∧ o = q then eqlB op true k else none
 | .ptr _ _,.d (.v (.pointer none)) => eqlB op false k
 | .d (.v (.pointer none)),.d (.v (.pointer none)) => eqlB op true k
 | _,_ => none
def nilK (P : Program) (op : BinOp) (t : TypeId) (x : AV) (k : AV → Option R) : Option R :=
 match P.underlying t with
 | some (.slice _) =>
  match x with
  | .d (.list n _ _) => if n = 0 then none else
   match op with
   | .eql => k (.d (.v (.bool false)))
   | .neq => k (.d (.v (.bool true)))
   | _ => none
  | .sl _ _ n _ _ => if n = 0 then none else
   match op with
   | .eql => k (.d (.v (.bool false)))
   | .neq => k (.d (.v (.bool true)))
   | _ => none
  | _ => none
 | _ => none
def isNilC : Operand → Bool
 | .const (.slice none 0 0) => true
 | _ => false
def unK (op : UnOp) (x : AV) (k : AV → Option R) : Option R :=
 match op,x with
 | .neg,.d (.v (.int kd n)) => k (.d (.v (.int kd (kd.wrap (0 - n)))))
 | .xor,.d (.v (.int kd n)) => k (.d (.v (.int kd (kd.wrap (BitVec.ofInt kd.bits (if kd.signed then -1 else kd.max) ^^^ BitVec.ofInt kd.bits n).toNat))))
 | .not,.d (.v (.bool b)) => k (.d (.v (.bool !b)))
 | _,_ => none
def bytesOf : List D → Option (List UInt8)
 | [] => some []
 | .v (.int .u8 n) :: r => (bytesOf r).bind fun l => some (UInt8.ofNat n.toNat :: l)
 | _ => none
def byteD (b : UInt8) : D := .v (.int .u8 b.toNat)
def convK (P : Program) (src dst : TypeId) (x : AV) (L : Heap) (k : AV → Heap → Option R) : Option R :=
 match P.underlying src,P.underlying dst with
 | some (.int _),some (.int kd) =>
  match x with
  | .d (.v (.int _ n)) => k (.d (.v (.int kd (kd.wrap n)))) L
  | _ => none
 | some .string,some .string =>
  match x with
  | .d (.v (.string s)) => k (.d (.v (.string s))) L
  | _ => none
 | some (.slice e),some .string =>
  match P.underlying e with
  | some (.int .u8) =>
   match x with
   | .d (.list n _ cs) => if cs.length = n then (bytesOf cs).bind fun l => k (.d (.v (.string ⟨l.toArray⟩))) L else none
   | .sl id off n _ sz =>
    match L[id]? with
    | some (.d m cs) => if sz = 1 then cut m cs off n fun r => (bytesOf r).bind fun l => k (.d (.v (.string ⟨l.toArray⟩))) L else none
    | _ => none
   | _ => none
  | _ => none
 | some .string,some (.slice e) =>
  match P.underlying e with
  | some (.int .u8) =>
   match x with
   | .d (.v (.string s)) => k (.d (.list s.size none (s.data.toList.map byteD))) L
   | _ => none
  | _ => none
 | some (.pointer te),some .unsafePointer =>
  match x with
  | .ptr id off =>
   match L[id]? with
   | some (.t _ n _) => if off < n ∧ (P.info? te).any (fun i => !(i.size == 0)) = true then k (.ptr id off) L else none
   | _ => none
  | _ => none
 | some .unsafePointer,some (.pointer u) =>
  match x with
  | .ptr id off =>
   match L[id]? with
   | some (.t ty n _) => if (P.info? u).isSome = true ∧ liesAt P P.depth ty (n / P.cellsOf ty) off u 1 = true then k (.ptr id off) L else none
   | _ => none
  | _ => none
 | _,_ => none
def Z1ec (P : Program) (s : TypeId) (f : Nat) : Option (Nat × Nat) :=
 match P.underlying s with
 | some (.struct fs) => (fs[f]?).bind fun g => (P.info? g.type).bind fun i => if i.size = 0 then none else some (g.offset,i.size)
 | _ => none
def fillK (n : Nat) (place : Nat → Option (Nat × Nat)) (cs : List AV) : List (Nat × AV) → (List AV → Option R) → Option R
 | [],k => k cs
 | (i,x) :: rest,k =>
  (place i).bind fun (off,size) =>
  match x with
  | .d (.agg ys) => if ys.length = size then put n cs off size (ys.map .d) fun r => fillK n place r rest k else none
  | .agg ys => if ys.length = size then put n cs off size ys fun r => fillK n place r rest k else none
  | x => if size = 1 ∧ off < n ∧ x.one = true then fillK n place (cs.set off x) rest k else none
def fillD (n : Nat) (place : Nat → Option (Nat × Nat)) (cs : List D) : List (Nat × AV) → (List D → Option R) → Option R
 | [],k => k cs
 | (i,x) :: rest,k =>
  (place i).bind fun (off,size) =>
  match x with
  | .d (.agg ys) => if ys.length = size then put n cs off size ys fun r => fillD n place r rest k else none
  | .d x => if size = 1 ∧ off < n ∧ x.one = true then fillD n place (cs.set off x) rest k else none
  | _ => none
def AV.isD : AV → Bool
 | .d _ => true
 | _ => false
def mkBlk (n : Nat) (cs : List AV) : Blk :=
 match allD cs with
 | some ds => .d n ds
 | none => .a n cs
def buildK (z : Nat × List D) (place : Nat → Option (Nat × Nat)) (parts : List (Nat × AV)) (k : AV → Option R) : Option R :=
 cond (parts.all fun p => p.2.isD) (fillD z.1 place z.2 parts fun cs => k (.d (.agg cs)))
  (fillK z.1 place (z.2.map .d) parts fun cs => if cs.all AV.one then k (mkAgg cs) else none)
def Z1ed (n : Nat) (place : Nat → Option (Nat × Nat)) (cs : List D) (parts : List (Nat × AV)) (k : Blk → Option R) : Option R :=
 cond (parts.all fun p => p.2.isD) (fillD n place cs parts fun cs => k (.d n cs))
  (fillK n place (cs.map .d) parts fun cs => if cs.all AV.one then k (mkBlk n cs) else none)
def bound (x : Option AV) (top : Nat) (dflt : Nat) (k : Nat → Option R) : Option R :=
 match x with
 | none => k dflt
 | some v => (asI v).bind fun p => if 0 ≤ p.2 ∧ p.2 ≤ top then k p.2.toNat else none
def Blk.size : Blk → Nat
 | .dead => 0
 | .d n _ => n
 | .a n _ => n
 | .t _ n _ => n
 | .td _ n _ => n
 | _ => 0
def sliceK (P : Program) (t : TypeId) (x : AV) (L : Heap) (lo hi mx : Option AV) (k : AV → Option R) : Option R :=
 match P.underlying t with
 | some .string =>
  match x with
  | .d (.v (.string s)) =>
   if mx.isSome then none else
   bound hi s.size s.size fun h => bound lo h 0 fun l => k (.d (.v (.string (s.extract l h))))
  | _ => none
 | some (.slice e) => (P.info? e).bind fun i =>
  match x with
  | .d (.list n cap cs) =>
   match mx with
   | none => bound hi n n fun h => bound lo h 0 fun l =>
     k (.d (.list (h - l) (cap.map (· - l)) ((cs.drop (l * i.size)).take ((h - l) * i.size))))
   | some m => bound (some m) n n fun m => match hi with
    | none => none
    | some hi => bound (some hi) m m fun h => bound lo h 0 fun l =>
     k (.d (.list (h - l) (some (m - l)) ((cs.drop (l * i.size)).take ((h - l) * i.size))))
  | .sl id off n cap sz =>
   if sz = i.size then
    match mx with
    | none => bound hi n n fun h => bound lo h 0 fun l => k (.sl id (off + l * i.size) (h - l) (cap.map (· - l)) sz)
    | some m => bound (some m) n n fun m => match hi with
     | none => none
     | some hi => bound (some hi) m m fun h => bound lo h 0 fun l => k (.sl id (off + l * i.size) (h - l) (some (m - l)) sz)
   else none
  | _ => none
 | some (.array n e) => (P.info? e).bind fun i =>
  match x with
  | .ptr id off =>
   if mx.isSome ∨ ((L[id]?).any (fun B => off + n * i.size ≤ B.size)) = false then none else
   bound hi n n fun h => bound lo h 0 fun l => k (.sl id (off + l * i.size) (h - l) (some (n - l)) i.size)
  | .lp cs off =>
   if mx.isSome then none else
   bound hi n n fun h => bound lo h 0 fun l => k (.d (.list (h - l) (some (n - l)) ((cs.drop (off + l * i.size)).take ((h - l) * i.size))))
  | _ => none
 | _ => none
def Zr3 (P : Program) (t : TypeId) (x i : AV) (k : AV → Option R) : Option R :=
 (asI i).bind fun p =>
 match P.underlying t with
 | some (.array n e) => (P.info? e).bind fun ei =>
  if 2 ≤ n then
   match x with
   | .ptr id off => if 0 ≤ p.2 ∧ p.2 < n then k (.ptr id (off + p.2.toNat * ei.size)) else none
   | .lp cs off => if 0 ≤ p.2 ∧ p.2 < n then k (.lp cs (off + p.2.toNat * ei.size)) else none
   | _ => none
  else none
 | some (.slice e) => (P.info? e).bind fun ei =>
  match x with
  | .d (.list n _ cs) => if 0 ≤ p.2 ∧ p.2 < n then k (.lp cs (p.2.toNat * ei.size)) else none
  | .sl id off n _ sz => if sz = ei.size then (if 0 ≤ p.2 ∧ p.2 < n then k (.ptr id (off + p.2.toNat * ei.size)) else none) else none
  | _ => none
 | _ => none
def partK (P : Program) (t : TypeId) (cs : List D) (off : Nat) (k : AV → Option R) : Option R :=
 (P.underlying t).bind fun d => (P.info? t).bind fun i =>
 if isRow d then (if off + i.size ≤ cs.length then k (.d (.agg ((cs.drop off).take i.size))) else none) else rdK d cs[off]? k
def indexK (P : Program) (t : TypeId) (x i : AV) (k : AV → Option R) : Option R :=
 (asI i).bind fun p =>
 match P.underlying t,x with
 | some (.array n e),.d (.agg cs) => (P.info? e).bind fun ei =>
  if 0 ≤ p.2 ∧ p.2 < n then partK P e cs (p.2.toNat * ei.size) k else none
 | some .string,.d (.v (.string s)) =>
  if 0 ≤ p.2 ∧ p.2 < s.size then k (.d (.v (.int .u8 ((s.data.toList.getD p.2.toNat 0).toNat : Nat)))) else none
 | _,_ => none
def fieldK (P : Program) (t : TypeId) (x : AV) (f : Nat) (k : AV → Option R) : Option R :=
 match P.underlying t,x with
 | some (.struct fs),.d (.agg cs) => (fs[f]?).bind fun g => partK P g.type cs g.offset k
 | _,_ => none
def Zak (P : Program) (t : TypeId) : Option (Nat × List D) :=
 (P.info? t).bind fun i => i.zero.bind fun z => (zerosD z.cells.toList).bind fun ds => if ds.length = i.size then some (i.size,ds) else none
def srcK (x : AV) (L : Heap) (size : Nat) (k : Nat → List D → Option R) : Option R :=
 match x with
 | .d (.list n _ cs) => if cs.length = n * size then k n cs else none
 | .sl id off n _ sz =>
  if sz = size then
   match L[id]? with
   | some (.d m cs) => cut m cs off (n * size) fun r => k n r
   | _ => none
  else none
 | _ => none
def hasRef (id : Nat) : AV → Bool
 | .ptr i _ => i == id
 | .sl i _ _ _ _ => i == id
 | .agg cs => hasRefs id cs
 | .tup cs => hasRefs id cs
 | .clo _ cs => hasRefs id cs
 | .bnd _ cs => hasRefs id cs
 | _ => false
where hasRefs (id : Nat) : List AV → Bool
 | [] => false
 | x :: r => hasRef id x || hasRefs id r
end
end Go.Ev
/-
 The abstract evaluator,its second part: builtins,calls,regions,code,functions: in continuation form.
-/
namespace Go.Ev
open Go
structure St where
 sl : List AV
 L : Heap
section
variable {R : Type}
def setSl (sl : List AV) : Option Tmp → AV → List AV
 | some d,v => sl.set d v
 | none,_ => sl
def skipped : AV := .d (.tup [])
def kill (id : Nat) (sl : List AV) : List AV := sl.map fun x => if hasRef id x then .junk else x
def killB (id : Nat) : Blk → Blk
 | .a n cs => .a n (cs.map fun x => if hasRef id x then .junk else x)
 | .t ty n cs => .t ty n (cs.map fun x => if hasRef id x then .junk else x)
 | .loop s p sl ps a b fh => .loop s p (sl.map fun x => if hasRef id x then .junk else x) ps a b fh
 | x => x
def blkRef (id : Nat) : Blk → Bool
 | .a _ cs => cs.any (hasRef id)
 | .t _ _ cs => cs.any (hasRef id)
 | .loop _ _ sl _ _ _ _ => sl.any (hasRef id)
 | _ => false
def lenK (P : Program) (t : TypeId) (x : AV) (k : AV → Option R) : Option R :=
 match P.underlying t with
 | some .string => match x with
  | .d (.v (.string s)) => k (.d (.v (.int .i64 s.size)))
  | _ => none
 | some (.slice _) => match x with
  | .d (.list n _ _) => k (.d (.v (.int .i64 n)))
  | .sl _ _ n _ _ => k (.d (.v (.int .i64 n)))
  | _ => none
 | _ => none
def capK (P : Program) (t : TypeId) (x : AV) (k : AV → Option R) : Option R :=
 match P.underlying t with
 | some (.slice _) => match x with
  | .d (.list _ (some c) _) => k (.d (.v (.int .i64 c)))
  | .sl _ _ _ (some c) _ => k (.d (.v (.int .i64 c)))
  | _ => none
 | _ => none
abbrev Zmr (n bytes : Nat) : Prop := n * bytes ≤ 140737488355328 ∧ n ≤ 9223372036854775807
def Zxu (P : Program) (base : Own) (t : TypeId) (sl : List AV) (s x : AV) (L : Heap) (k : List AV → AV → Heap → Option R) : Option R :=
 match P.underlying t with
 | some (.slice e) => (Zak P e).bind fun _ => (P.info? e).bind fun i =>
  srcK x L i.size fun m new =>
  match s with
  | .d (.list n cap cs) =>
   match cap with
   | some c =>
    if c = n then
     if m = 0 then k sl (.d (.list n cap cs)) L
     else if Zmr (n + m) i.bytes ∧ cs.length = n * i.size ∧ new.length = m * i.size then
      k sl (.sl L.length 0 (n + m) none i.size) (L ++ [.d ((n + m) * i.size) (cs ++ new)])
     else none
    else none
   | none => none
  | .sl id off n (some c) sz =>
   if sz = i.size then
    match L[id]? with
    | some (.d b cs) =>
     if n + m ≤ c then
      if off + (n + m) * sz ≤ b ∧ new.length = m * sz then
       k sl (.sl id off (n + m) (some c) sz) (L.set id (.d b (cs.take (off + n * sz) ++ (new ++ cs.drop (off + (n + m) * sz)))))
      else none
     else if Zmr (n + m) i.bytes ∧ new.length = m * sz then
      cut b cs off (n * sz) fun old =>
      k sl (.sl L.length 0 (n + m) none sz) (L ++ [.d ((n + m) * sz) (old ++ new)])
     else none
    | _ => none
   else none
  | .sl id off n none sz =>
   if sz = i.size ∧ off = 0 then
    match L[id]? with
    | some (.d b cs) =>
     if ownB base id = true ∧ b = n * sz ∧ Zmr (n + m) i.bytes ∧ new.length = m * sz then
      k (kill id sl) (.sl id 0 (n + m) none sz) ((L.map (killB id)).set id (.d ((n + m) * sz) (cs ++ new)))
     else none
    | _ => none
   else none
  | _ => none
 | _ => none
def Z1ee (P : Program) (base : Own) (t t' : TypeId) (sl : List AV) (s x : AV) (L : Heap) (k : List AV → AV → Heap → Option R) : Option R :=
 match P.underlying t,P.underlying t' with
 | some (.slice e),some .string => (Zak P e).bind fun z => (P.info? e).bind fun i =>
  match P.underlying e with
  | some (.int .u8) =>
   match x with
   | .d (.v (.string bs)) =>
    if i.size = 1 then
     match s with
     | .d (.list 0 (some 0) []) =>
      if bs.size = 0 then k sl (.d (.list 0 (some 0) [])) L
      else if Zmr bs.size i.bytes then k sl (.sl L.length 0 bs.size none 1) (L ++ [.td e bs.size (bs.data.toList.map byteD)]) else none
     | .sl id 0 n none 1 =>
      match L[id]? with
      | some (.td e' b cs) =>
       if ownB base id = true ∧ e' = e ∧ b = n ∧ Zmr (n + bs.size) i.bytes then
        k (kill id sl) (.sl id 0 (n + bs.size) none 1) ((L.map (killB id)).set id (.td e (n + bs.size) (cs ++ bs.data.toList.map byteD)))
       else none
      | _ => none
     | _ => none
    else none
   | _ => none
  | _ => none
 | _,_ => none
def Z1ef (x : AV) (k : AV → Option R) : Option R := match x with
 | .sl id off n _ sz => if 0 < n ∧ sz = 1 then k (.ptr id off) else none
 | _ => none
def Z1eg (P : Program) (base : Own) (pt : TypeId) (sl : List AV) (x n : AV) (L : Heap) (k : List AV → AV → Heap → Option R) : Option R :=
 match P.underlying pt with
 | some (.pointer e) =>
  match x with
  | .ptr id 0 =>
   match L[id]? with
   | some (.td e' b cs) => (asI n).bind fun q =>
    if q.1 = .i64 ∧ q.2 = (b : Int) ∧ 0 < b ∧ b ≤ 9223372036854775807 ∧ e' = e ∧ P.cellsOf e = 1 ∧ ownB base id = true then
     (bytesOf cs).bind fun l => k (kill id sl) (.d (.v (.string ⟨l.toArray⟩))) ((L.map (killB id)).set id .dead)
    else none
   | _ => none
  | _ => none
 | _ => none
def copyK (P : Program) (t : TypeId) (s x : AV) (L : Heap) (k : AV → Heap → Option R) : Option R :=
 match P.underlying t with
 | some (.slice e) => (P.info? e).bind fun i =>
  srcK x L i.size fun m new =>
  match s with
  | .sl id off n _ sz =>
   if sz = i.size then
    match L[id]? with
    | some (.d b cs) =>
     if off + n * sz ≤ b ∧ new.length = m * sz then
      k (.d (.v (.int .i64 (Nat.min m n : Nat)))) (L.set id (.d b (cs.take off ++ (new.take (Nat.min m n * sz) ++ cs.drop (off + Nat.min m n * sz)))))
     else none
    | _ => none
   else none
  | _ => none
 | _ => none
def clearK (P : Program) (t : TypeId) (s : AV) (L : Heap) (k : AV → Heap → Option R) : Option R :=
 match P.underlying t with
 | some (.slice e) => (Zak P e).bind fun z =>
  match s with
  | .sl id off n _ sz =>
   if sz = z.1 then
    match L[id]? with
    | some (.d b cs) => if off + n * sz ≤ b then k (.d (.tup [])) (L.set id (.d b (cs.take off ++ ((List.replicate n z.2).flatten ++ cs.drop (off + n * sz))))) else none
    | _ => none
   else none
  | .d (.list 0 _ _) => k (.d (.tup [])) L
  | _ => none
 | _ => none
def mm (mn : Bool) (a b : Int) : Int := if mn then (if b < a then b else a) else (if b > a then b else a)
def Z1eh (mn : Bool) : List AV → (AV → Option R) → Option R
 | [.d (.v (.int k a)),.d (.v (.int _ b))],g => g (.d (.v (.int k (mm mn a b))))
 | [.d (.v (.int k a)),.d (.v (.int _ b)),.d (.v (.int _ c))],g => g (.d (.v (.int k (mm mn (mm mn a b) c))))
 | _,_ => none
inductive Tgt where
 | fn (f : FuncId)
 | yld (id : Nat)
 | qfn (f : FuncId)
abbrev Orc (R : Type) := Own → Tgt → List AV → Heap → (AV → Heap → Option R) → Option R
def isDB : Option Blk → Bool
 | some (.d _ _) => true
 | some (.td _ _ _) => true
 | _ => false
def subOwn (o : Own) (sl : List AV) (L : Heap) : Own := ⟨L.length,(List.range L.length).filter (fun i => ownB o i && (isDB L[i]? && !(sl.any (hasRef i)))),true,o.mv⟩
abbrev SpTab := List (FuncId × (List D → Option D))
def mapO {α β : Type} (f : α → Option β) : List α → Option (List β)
 | [] => some []
 | x :: r => (f x).bind fun y => (mapO f r).bind fun ys => some (y :: ys)
def viewD (L : Heap) : Nat → AV → Option D
 | 0,_ => none
 | n + 1,x =>
  match x with
  | .d x => some x
  | .sl id off len cap sz =>
   match L[id]? with
   | some (.d m cs) => cut m cs off (len * sz) fun r => some (.list len cap r)
   | some (.a m cs) => cut m cs off (len * sz) fun r => (mapO (viewD L n) r).bind fun ds => if ds.all D.one = true then some (.list len cap ds) else none
   | _ => none
  | .agg cs => (mapO (viewD L n) cs).bind fun ds => if ds.all D.one = true then some (.agg ds) else none
  | .tup cs => (mapO (viewD L n) cs).bind fun ds => some (.tup ds)
  | .clo f cs => (mapO (viewD L n) cs).bind fun ds => some (.fn f ds)
  | _ => none
def viewDs (L : Heap) (xs : List AV) : Option (List D) := mapO (viewD L 8) xs
def mapK {α β : Type} (f : α → (β → Option R) → Option R) : List α → (List β → Option R) → Option R
 | [],k => k []
 | x :: r,k => f x fun y => mapK f r fun ys => k (y :: ys)
def viewK (L : Heap) : Nat → AV → (D → Option R) → Option R
 | 0,_,_ => none
 | n + 1,x,k =>
  match x with
  | .d x => k x
  | .sl id off len cap sz =>
   match L[id]? with
   | some (.d m cs) => cut m cs off (len * sz) fun r => k (.list len cap r)
   | some (.a m cs) => cut m cs off (len * sz) fun r => mapK (viewK L n) r fun ds => if ds.all D.one = true then k (.list len cap ds) else none
   | _ => none
  | .agg cs => mapK (viewK L n) cs fun ds => if ds.all D.one = true then k (.agg ds) else none
  | .tup cs => mapK (viewK L n) cs fun ds => k (.tup ds)
  | .clo f cs => mapK (viewK L n) cs fun ds => k (.fn f ds)
  | _ => none
def Z171 (P : Program) (t : TypeId) : Bool :=
 match P.underlying t with
 | some (.int _) | some .bool | some .string => true
 | some (.tuple ts) => ts.toList.all fun t => match P.underlying t with
  | some (.int _) | some .bool | some .string => true
  | _ => false
 | _ => false
def rdA : Option D → Option (List D)
 | some (.agg cs) => some cs
 | _ => none
def rdT : D → Option (List D)
 | .tup ds => some ds
 | _ => none
def open1 (P : Program) (t : TypeId) (x : Option D) (k : D → Option R) : Option R :=
 match P.underlying t with
 | some (.int kd) => (rdI kd x).bind fun i => k (.v (.int kd i))
 | some .bool => (rdB x).bind fun b => k (.v (.bool b))
 | some .string => (rdS x).bind fun s => k (.v (.string s))
 | some (.slice _) => (rdL x).bind fun s => k (.list s.n s.cap s.cs)
 | some (.func _ _ _) => (rdF x).bind k
 | some (.struct _) => (rdA x).bind fun cs => k (.agg cs)
 | some (.map _ _) => (rdM x).bind fun kvs => k (.mp kvs)
 | some (.array _ _) => (rdA x).bind fun cs => k (.agg cs)
 | _ => none
def openL (P : Program) (ds : List D) : Nat → List TypeId → (List D → Option R) → Option R
 | _,[],k => k []
 | i,t :: ts,k => open1 P t ds[i]? fun x => openL P ds (i + 1) ts fun xs => k (x :: xs)
def openK (P : Program) (t : TypeId) (d : D) (k : AV → Option R) : Option R :=
 match P.underlying t with
 | some (.tuple ts) => (rdT d).bind fun ds => if ds.length = ts.size then openL P ds 0 ts.toList fun xs => k (.d (.tup xs)) else none
 | _ => open1 P t (some d) fun x => k (.d x)
def flatT (P : Program) : Nat → TypeId → Option (List TypeId)
 | 0,_ => none
 | n + 1,t => match P.underlying t with
  | some (.struct fs) => (mapO (fun f : Field => flatT P n f.type) fs.toList).map List.flatten
  | some (.array m e) => (flatT P n e).map fun l => (List.replicate m l).flatten
  | _ => some [t]
def deep1 (P : Program) (mv : List Nat) (t : TypeId) (d : D) (k : D → Option R) : Option R :=
 cond (mv.elem (2000000 + t)) (match d with
  | .agg cs => (flatT P 8 t).bind fun ts => if cs.length = ts.length then openL P cs 0 ts fun xs => k (.agg xs) else none
  | _ => none) (k d)
def deepL (P : Program) (mv : List Nat) : List TypeId → List D → (List D → Option R) → Option R
 | [],[],k => k []
 | t :: ts,d :: ds,k => deep1 P mv t d fun x => deepL P mv ts ds fun xs => k (x :: xs)
 | _,_,_ => none
def deepK (P : Program) (mv : List Nat) (ty : TypeId) (v : AV) (k : AV → Option R) : Option R :=
 cond mv.isEmpty (k v) (match v with
  | .d d => match P.underlying ty with
   | some (.tuple ts) => match d with
    | .tup ds => deepL P mv ts.toList ds fun xs => k (.d (.tup xs))
    | _ => none
   | _ => deep1 P mv ty d fun x => k (.d x)
  | v => k v)
def spK (P : Program) (ty : TypeId) (s : List D → Option D) (args : List AV) (ds : List D) (L : Heap) (k : AV → Option R) : Option R :=
 mapK (viewK L 8) args fun xs =>
  if (args.all AV.isD || Z171 P ty) = true then (s (xs ++ ds)).bind fun d => openK P ty d k else none
def slIds : List AV → List Nat
 | [] => []
 | .sl id _ _ _ _ :: r => id :: slIds r
 | _ :: r => slIds r
def slIdA : List AV → List Nat
 | [] => []
 | .sl id _ _ _ _ :: r => id :: slIdA r
 | .agg cs :: r => slIds cs ++ slIdA r
 | _ :: r => slIdA r
def slIdG : List AV → List Nat
 | [] => []
 | .agg cs :: r => slIds cs ++ slIdG r
 | _ :: r => slIdG r
def frzOne (base : Own) (L : Heap) : AV → Bool
 | .d _ => true
 | .sl id _ _ _ _ => ownB base id && match L[id]? with
  | some (.d _ _) => true
  | _ => false
 | _ => false
def frzOk (base : Own) (L : Heap) : AV → Bool
 | .agg cs => cs.all (frzOne base L)
 | .d _ => true
 | .sl id off n cap sz => frzOne base L (.sl id off n cap sz)
 | _ => false
def frzSl : List Nat → List AV → List AV
 | [],sl => sl
 | id :: r,sl => frzSl r (kill id sl)
def frzL : List Nat → Heap → Heap
 | [],L => L
 | id :: r,L => frzL r ((L.map (killB id)).set id .dead)
def seeK (L : Heap) (ids : List Nat) : List AV → List AV → (List AV → Option R) → Option R
 | x :: xs,y :: ys,k =>
  match x with
  | .sl id off n cap sz =>
   if ids.elem id = true then
    match L[id]? with
    | some (.d m cs) => cut m cs off (n * sz) fun r => seeK L ids xs ys fun zs => k (.d (.list n cap r) :: zs)
    | _ => seeK L ids xs ys fun zs => k (y :: zs)
   else seeK L ids xs ys fun zs => k (y :: zs)
  | _ => seeK L ids xs ys fun zs => k (y :: zs)
 | _,ys,k => k ys
def seeB (L : Heap) (ids : List Nat) : Heap → Heap → (Heap → Option R) → Option R
 | A :: As,B :: Bs,k =>
  match A with
  | .a _ xs =>
   match B with
   | .a n ys => seeK L ids xs ys fun zs => seeB L ids As Bs fun r => k (.a n zs :: r)
   | B => seeB L ids As Bs fun r => k (B :: r)
  | _ => seeB L ids As Bs fun r => k (B :: r)
 | _,Bs,k => k Bs
def spF (P : Program) (base : Own) (ty : TypeId) (s : List D → Option D) (args : List AV) (ds : List D) (sl : List AV) (L : Heap) (k : List AV → AV → Heap → Option R) : Option R :=
 mapK (viewK L 8) args fun xs =>
  if args.all (frzOk base L) = true then (s (xs ++ ds)).bind fun d => openK P ty d fun v => seeK L (slIdA args) sl (frzSl (slIdA args) sl) fun sl' => seeB L (slIdG args) L (frzL (slIdA args) L) fun L' => k sl' v L' else none
def Z1ax (P : Program) (c : Call) (g : FuncId) : Bool := match c.argTypes.toList with
 | [t] => match P.underlying t with
  | some .unsafePointer => match P.funcs[g]? with
   | some fn => fn.body.isNone && (fn.name == "internal/abi.NoEscape" && fn.origin == "")
   | none => false
  | _ => false
 | _ => false
def escK (args : List AV) (ds : List D) (sl : List AV) (L : Heap) (k : List AV → AV → Heap → Option R) : Option R := match args,ds with
 | [x],[] => k sl x L
 | _,_ => none
def mvSl (o : Own) (g : FuncId) (args sl : List AV) : List AV := cond (o.mv.elem g) (frzSl (slIds args) sl) sl
def callK (P : Program) (sp : SpTab) (base : Own) (fz : Bool) (or : Orc R) (c : Call) (ty : TypeId) (sl : List AV) (L : Heap) (k : List AV → AV → Heap → Option R) : Option R :=
 match c.callee with
 | .builtin b =>
  match b,c.args.toList,c.argTypes.toList with
  | .len,[x],[t] => lenK P t (ev sl x) fun v => k sl v L
  | .cap,[x],[t] => capK P t (ev sl x) fun v => k sl v L
  | .append,[s,x],[t,t'] => if t = t' then Zxu P base t sl (ev sl s) (ev sl x) L k else Z1ee P base t t' sl (ev sl s) (ev sl x) L k
  | .copy,[s,x],[t,_] => copyK P t (ev sl s) (ev sl x) L (k sl)
  | .clear,[x],[t] => clearK P t (ev sl x) L (k sl)
  | .min,xs,_ => Z1eh true (xs.map (ev sl)) fun v => k sl v L
  | .max,xs,_ => Z1eh false (xs.map (ev sl)) fun v => k sl v L
  | .unsafeSliceData,[x],_ => Z1ef (ev sl x) fun v => k sl v L
  | .unsafeString,[x,n],[pt,_] => cond fz (Z1eg P base pt sl (ev sl x) (ev sl n) L k) none
  | _,_,_ => none
 | .value f =>
  match ev sl f with
  | .d (.fn g ds) =>
   match sp.lookup g with
   | some s =>
    if (fz && !((c.args.toList.map (ev sl)).all AV.isD || Z171 P ty)) = true then spF P base ty s (c.args.toList.map (ev sl)) ds sl L fun sl' v L' => deepK P base.mv ty v fun v => k sl' v L'
    else spK P ty s (c.args.toList.map (ev sl)) ds L fun v => deepK P base.mv ty v fun v => k sl v L
   | none => cond (Z1ax P c g) (escK (c.args.toList.map (ev sl)) ds sl L k) (cond fz (or (subOwn base (mvSl base g (c.args.toList.map (ev sl)) sl) L) (.fn g) (c.args.toList.map (ev sl) ++ ds.map .d) L (k (mvSl base g (c.args.toList.map (ev sl)) sl)))
    (or (subOwn base sl L) (.qfn g) (c.args.toList.map (ev sl) ++ ds.map .d) L (k sl)))
  | .clo g cs => cond fz (or (subOwn base (mvSl base g (c.args.toList.map (ev sl)) sl) L) (.fn g) (c.args.toList.map (ev sl) ++ cs) L (k (mvSl base g (c.args.toList.map (ev sl)) sl)))
    (or (subOwn base sl L) (.qfn g) (c.args.toList.map (ev sl) ++ cs) L (k sl))
  | .bnd g cs => cond fz (or (subOwn base (mvSl base g (c.args.toList.map (ev sl)) sl) L) (.fn g) (cs ++ c.args.toList.map (ev sl)) L (k (mvSl base g (c.args.toList.map (ev sl)) sl))) none
  | .yld id => cond fz (or (subOwn base sl L) (.yld id) (c.args.toList.map (ev sl)) L (k sl)) none
  | _ => none
 | _ => none
def mapOf (x : AV) (L : Heap) : Option (List (D × D)) := match x with
 | .mp id => match L[id]? with
  | some (.map kvs) => some kvs
  | _ => none
 | .d (.mp kvs) => some kvs
 | _ => none
def lookK (P : Program) (t : TypeId) (x i : AV) (ok : Bool) (L : Heap) (k : AV → Option R) : Option R :=
 match P.underlying t with
 | some (.map kt et) => (mapOf x L).bind fun kvs => match i with
  | .d kd => if keyOk P kt kd = true then ((P.info? et).bind fun i => i.zero.bind fun z => zeroD z).bind fun z => (lookM (keyEq P kt) kd z kvs).bind fun p => open1 P et (some p.1) fun v => k (.d (cond ok (.tup [v,.v (.bool p.2)]) v)) else none
  | _ => none
 | _ => none
def Z1ei (P : Program) (t : TypeId) (m i x : AV) (L : Heap) (k : Heap → Option R) : Option R :=
 match P.underlying t with
 | some (.map kt _) => match m with
  | .mp id => match L[id]? with
   | some (.map kvs) => match i with
    | .d kd => match x with
     | .d vd => if keyOk P kt kd = true then (putM (keyEq P kt) kd vd kvs).bind fun l => k (L.set id (.map l)) else none
     | _ => none
    | _ => none
   | _ => none
  | _ => none
 | _ => none
def selfT (P : Program) (t : TypeId) : Bool := match P.underlying t with
 | some (.struct fs) => match fs[0]? with
  | some f => match P.underlying f.type with
   | some (.pointer u) => u == t
   | _ => false
  | none => false
 | _ => false
def newBlk (P : Program) (t : TypeId) (z : Nat × List D) : Blk := cond (selfT P t) (.t t z.1 (z.2.map .d)) (.d z.1 z.2)
def opK (P : Program) (sp : SpTab) (base : Own) (fz : Bool) (or : Orc R) (o : Oper) (sl : List AV) (L : Heap) (k : List AV → AV → Heap → Option R) : Option R :=
 match o.op with
 | .move x | .assign x => k sl (ev sl x) L
 | .pick c a b => (asB (ev sl c)).bind fun t => cond t (k sl (ev sl a) L) (k sl (ev sl b) L)
 | .alloc t => (Zak P t).bind fun z => k sl (.ptr L.length 0) (L ++ [newBlk P t z])
 | .box t x => (P.info? t).bind fun i => blkOf i.size (ev sl x) fun b => k sl (.ptr L.length 0) (L ++ [b])
 | .build t parts => (Zak P t).bind fun z =>
  match P.underlying t with
  | some (.struct fs) => (fs.toList.mapM fun f => (P.info? f.type).map fun i => (f.offset,i.size)).bind fun places => buildK z (fun j => places.toArray[j]?) (parts.toList.map fun p => (p.1,ev sl p.2)) fun v => k sl v L
  | some (.array _ e) => (P.info? e).bind fun i => buildK z (fun j => some (j * i.size,i.size)) (parts.toList.map fun p => (p.1,ev sl p.2)) fun v => k sl v L
  | _ => none
 | .buildSlice t len parts =>
  match P.underlying t with
  | some (.slice e) => (Zak P e).bind fun z =>
   if len * z.1 ≤ 2 ^ 24 ∧ 0 < z.1 then
    cond ((!fz || base.mv.elem (1000000 + t)) && (parts.toList.map fun p => (p.1,ev sl p.2)).all fun p => p.2.isD)
     (fillD (len * z.1) (fun j => some (j * z.1,z.1)) ((List.replicate len z.2).flatten) (parts.toList.map fun p => (p.1,ev sl p.2)) fun cs => k sl (.d (.list len (some len) cs)) L)
     (Z1ed (len * z.1) (fun j => some (j * z.1,z.1)) ((List.replicate len z.2).flatten) (parts.toList.map fun p => (p.1,ev sl p.2)) fun B => k sl (.sl L.length 0 len (some len) z.1) (L ++ [B]))
   else none
  | _ => none
 | .load t a => loadK P t (ev sl a) L (k sl)
 | .store t a x => storeK P t (ev sl a) (ev sl x) L fun _ L' => k sl skipped L'
 | .nilCheck x =>
  match ev sl x with
  | .ptr id off => k sl (.ptr id off) L
  | .lp cs off => k sl (.lp cs off) L
  | .clo f cs => k sl (.clo f cs) L
  | .bnd f cs => k sl (.bnd f cs) L
  | .yld i => k sl (.yld i) L
  | .d (.fn f cs) => k sl (.d (.fn f cs)) L
  | _ => none
 | .binOp op t x y _ => cond (isNilC y) (nilK P op t (ev sl x) fun v => k sl v L) (cond (ptrT P t) (ptrK op (ev sl x) (ev sl y) fun v => k sl v L) (binK P op t (ev sl x) (ev sl y) fun v => k sl v L))
 | .unOp op _ x => unK op (ev sl x) fun v => k sl v L
 | .convert s d x => convK P s d (ev sl x) L (k sl)
 | .makeFunc (.func f) first captured =>
  if first.size = 0 then
   match allD (captured.toList.map (ev sl)) with
   | some ds => k sl (.d (.fn f ds)) L
   | none => k sl (.clo f (captured.toList.map (ev sl))) L
  else if captured.size = 0 then k sl (.bnd f (first.toList.map (ev sl))) L else none
 | .makeSlice t n c =>
  match P.underlying t with
  | some (.slice e) => (Zak P e).bind fun z => (P.info? e).bind fun i => (asI (ev sl n)).bind fun n => (asI (ev sl c)).bind fun c =>
   if 0 ≤ n.2 ∧ n.2 ≤ c.2 ∧ Zmr c.2.toNat i.bytes then
    k sl (.sl L.length 0 n.2.toNat (some c.2.toNat) z.1) (L ++ [.d (c.2.toNat * z.1) (List.replicate c.2.toNat z.2).flatten])
   else none
  | _ => none
 | .slice t x lo hi mx => sliceK P t (ev sl x) L (lo.map (ev sl)) (hi.map (ev sl)) (mx.map (ev sl)) fun v => k sl v L
 | .fieldAddr s x f => (Z1ec P s f).bind fun p =>
  match ev sl x with
  | .ptr id off => k sl (.ptr id (off + p.1)) L
  | .lp cs off => k sl (.lp cs (off + p.1)) L
  | _ => none
 | .field s x f => fieldK P s (ev sl x) f fun v => k sl v L
 | .indexAddr t x i => Zr3 P t (ev sl x) (ev sl i) fun v => k sl v L
 | .index t x i => indexK P t (ev sl x) (ev sl i) fun v => k sl v L
 | .extract t i =>
  match ev sl t with
  | .d (.tup ds) => (ds[i]?).bind fun d => k sl (.d d) L
  | .tup ds => (ds[i]?).bind fun d => k sl d L
  | _ => none
 | .call c => callK P sp base fz or c o.type sl L k
 | .makeMap _ none => k sl (.mp L.length) (L ++ [.map []])
 | .lookup t x i ok => lookK P t (ev sl x) (ev sl i) ok L fun v => k sl v L
 | .mapUpdate t m i x => Z1ei P t (ev sl m) (ev sl i) (ev sl x) L fun L' => k sl skipped L'
 | .insert t m i x => Z1ei P t (ev sl m) (ev sl i) (ev sl x) L fun L' => k sl skipped L'
 | .range t x =>
  match P.underlying t with
  | some .string => match ev sl x with
   | .d (.v (.string s)) => k sl (.it L.length) (L ++ [.iter s 0])
   | _ => none
  | _ => none
 | .next x str =>
  if str then
   match ev sl x with
   | .it id => match L[id]? with
    | some (.iter s pos) =>
     if pos < s.size then k sl (.d (.tup [.v (.bool true),.v (.int .i64 pos),.v (.int .i32 (Utf8.decode s pos).1)])) (L.set id (.iter s (pos + (Utf8.decode s pos).2)))
     else k sl (.d (.tup [.v (.bool false)])) L
    | _ => none
   | _ => none
  else none
 | _ => none
def opsK (P : Program) (sp : SpTab) (base : Own) (fzs : List Bool) (or : Orc R) (ops : Array Oper) : List Oper → St → (St → Option R) → Option R
 | [],st,k => k st
 | o :: rest,st,k =>
  let run (st : St) : Option R := opK P sp base (fzs.headD true) or o st.sl st.L fun sl v L => opsK P sp base fzs.tail or ops rest ⟨setSl sl o.dst v,L⟩ k
  let skip (st : St) : Option R := opsK P sp base fzs.tail or ops rest ⟨setSl st.sl o.dst skipped,st.L⟩ k
  match o.guard with
  | none => run st
  | some (j,want) =>
   (ops[j]?).bind fun g => g.dst.bind fun d =>
   match st.sl[d]? with
   | some (.d (.v (.bool b))) =>
    cond b (cond want (run ⟨st.sl.set d (.d (.v (.bool true))),st.L⟩) (skip ⟨st.sl.set d (.d (.v (.bool true))),st.L⟩))
     (cond want (skip ⟨st.sl.set d (.d (.v (.bool false))),st.L⟩) (run ⟨st.sl.set d (.d (.v (.bool false))),st.L⟩))
   | some (.d (.tup [])) => skip st
   | _ => none
def firstRegion : Code → Nat
 | .region id _ _ => id
 | .seq a _ => firstRegion a
 | .block _ c => firstRegion c
 | .rangeFunc _ _ a _ => firstRegion a
 | .loop c => firstRegion c
 | .scope c => firstRegion c
 | _ => 0
abbrev CO (R : Type) := St → (Ex → St → Option R) → Option R
def litB (sl : List AV) : Operand → Bool → List AV
 | .tmp t,b => sl.set t (.d (.v (.bool b)))
 | _,_ => sl
def Z11w (sp : SpTab) : Op → Bool
 | .move _ | .assign _ | .pick _ _ _ | .load _ _ | .nilCheck _ | .binOp _ _ _ _ _ | .unOp _ _ _ | .convert _ _ _ | .slice _ _ _ _ _ | .fieldAddr _ _ _ | .field _ _ _ | .indexAddr _ _ _ | .index _ _ _ | .extract _ _ | .build _ _ => true
 | .makeFunc (.func _) _ _ => true
 | .lookup _ _ _ _ => true
 | .call c =>
  match c.callee with
  | .builtin .len | .builtin .cap | .builtin .min | .builtin .max | .builtin .unsafeSliceData => true
  | .value _ => true
  | _ => false
 | _ => false
def growOp : Op → Bool
 | .alloc _ | .box _ _ | .buildSlice _ _ _ | .makeSlice _ _ _ => true
 | _ => false
def ancs : List Oper → List Nat → List Nat
 | [],acc => acc
 | o :: rest,acc => ancs rest (acc ++ [o.after.toList.foldl (fun s e => if Region.binds .any e then s ||| 2 ^ e.on ||| acc.getD e.on 0 else s) 0])
def Z14f (ops : Array Oper) (as : List Nat) : Bool :=
 (List.range ops.size).all fun j => (List.range j).all fun i =>
  (as.getD j 0).testBit i || match ops[i]?,ops[j]? with
   | some x,some y => Oper.apart ops x y
   | _,_ => true
def backOk (ops : Array Oper) : Bool :=
 (List.range ops.size).all fun j => match ops[j]? with
  | some o => o.after.all fun e => !Region.binds .any e || decide (e.on < j)
  | none => true
def barAt (n : Nat) (as : List Nat) (j : Nat) : Bool := (List.range n).all fun i => cond (Nat.blt i j) ((as.getD j 0).testBit i) (cond (Nat.blt j i) ((as.getD i 0).testBit j) true)
def barsOf (ops : Array Oper) : List Bool := let as := ancs ops.toList []; (List.range ops.size).map (barAt ops.size as)
def lateOp : Op → Bool
 | .extract _ _ | .move _ | .assign _ => true
 | _ => false
def isStore : Op → Bool
 | .store _ _ _ => true
 | _ => false
def lateAt (ops : Array Oper) (as : List Nat) (i : Nat) : Bool := match ops[i]? with
 | some o => lateOp o.op && (o.guard.isNone && (!(barAt ops.size as i) && (List.range ops.size).all fun k => match ops[k]? with
  | some x => (Nat.blt k i || (o.looksAt ops).all (fun t => !(x.dst == some t))) && (k == i || (o.dst.isNone || !(x.dst == o.dst)))
  | none => true))
 | none => false
def nearAt (ops : Array Oper) (as : List Nat) (j : Nat) : Bool := match ops[j]? with
 | some o => isStore o.op && (o.guard.isNone && (List.range ops.size).all fun i => cond (Nat.blt i j) ((as.getD j 0).testBit i || lateAt ops as i) (cond (Nat.blt j i) ((as.getD i 0).testBit j) true))
 | none => false
def drawOk (sp : SpTab) (ops : Array Oper) : Bool :=
 let as := ancs ops.toList []
 backOk ops && Z14f ops as && (List.range ops.size).all fun j => barAt ops.size as j || (nearAt ops as j || match ops[j]? with
  | some o => Z11w sp o.op || growOp o.op
  | none => true)
def stOp : Op → Bool
 | .load _ (.tmp _) | .store _ (.tmp _) _ | .move _ | .assign _ => true
 | _ => false
def addrSlot : Op → Option Tmp
 | .load _ (.tmp a) | .store _ (.tmp a) _ => some a
 | _ => none
def ptrsNe : AV → AV → Bool
 | .ptr i _,.ptr j _ => !(i == j)
 | _,_ => false
def Z1ej (sl : List AV) (x y : Op) : Bool :=
 match x,y with
 | .store _ _ _,.store _ _ _ => false
 | .load _ (.tmp a),.store _ (.tmp b) _ => ptrsNe (sl.getD a .junk) (sl.getD b .junk)
 | .store _ (.tmp a) _,.load _ (.tmp b) => ptrsNe (sl.getD b .junk) (sl.getD a .junk)
 | _,_ => true
def stSlot (ops : Array Oper) (a : Tmp) : Bool := ops.toList.all fun p => !(p.dst == some a)
def stKind (ops : Array Oper) (o : Oper) : Bool := o.guard.isNone && stOp o.op && match addrSlot o.op with
 | some a => stSlot ops a
 | none => true
def Z1la (ops : Array Oper) (sl : List AV) (as : List Nat) : Bool :=
 (List.range ops.size).all fun j => (List.range j).all fun i =>
  (as.getD j 0).testBit i || match ops[i]?,ops[j]? with
   | some x,some y => Z1ej sl x.op y.op
   | _,_ => true
def stOk (ops : Array Oper) (sl : List AV) : Bool :=
 let as := ancs ops.toList []
 backOk ops && Z14f ops as && ops.toList.all (stKind ops) && Z1la ops sl as
def isApp : Op → Bool
 | .call c => match c.callee,c.argTypes.toList with
  | .builtin .append,[t,t'] => t == t'
  | _,_ => false
 | _ => false
def appIx (ops : Array Oper) : Option Nat := (List.range ops.size).find? fun j => match ops[j]? with
 | some o => isApp o.op
 | none => false
def appArg : Op → Operand
 | .call c => c.args.toList.headD (.const .nilFunc)
 | _ => .const .nilFunc
def besideOp : Op → Bool
 | .move _ | .assign _ | .extract _ _ | .fieldAddr _ _ _ | .indexAddr _ _ _ | .load _ (.tmp _) => true
 | _ => false
def Z1ek (ops : Array Oper) (sl : List AV) (L : Heap) (id : Option Nat) (o : Oper) : Bool :=
 (o.looksAt ops).all (fun t => !(id.any fun id => hasRef id (sl.getD t .junk))) && match o.op with
 | .load _ (.tmp a) => match sl.getD a .junk with
  | .ptr j _ => !(id == some j) && match L[j]? with
   | some B => !(id.any fun id => blkRef id B)
   | none => false
  | _ => true
 | _ => true
def preOp (sp : SpTab) (o : Op) : Bool := Z11w sp o || match o with
 | .buildSlice _ _ _ => true
 | _ => false
def appOk (sp : SpTab) (ops : Array Oper) (p : Nat) : Bool :=
 let as := ancs ops.toList []
 backOk ops && (Z14f ops as && (List.range ops.size).all fun i => match ops[i]? with
  | some o => o.guard.isNone && cond (Nat.blt i p)
    (preOp sp o.op && ((as.getD p 0).testBit i || (besideOp o.op && (List.range p).all fun k => Nat.blt k i || match ops[k]? with
     | some x => (o.looksAt ops).all fun t => !(x.dst == some t)
     | none => true)))
    (i == p || barAt ops.size as i)
  | none => true)
def appId : AV → Option Nat
 | .sl id _ _ none _ => some id
 | _ => none
def appSl (s : AV) (sl : List AV) : List AV := match appId s with
 | some id => kill id sl
 | none => sl
def appKind : AV → Bool
 | .sl _ _ _ none _ | .d _ => true
 | _ => false
def Z11x (ops : Array Oper) (p : Nat) (s : AV) (sl : List AV) (L : Heap) : Bool := appKind s && (List.range p).all fun i => ((ancs ops.toList []).getD p 0).testBit i || match ops[i]? with
 | some o => Z1ek ops sl L (appId s) o
 | none => true
def appRun (P : Program) (sp : SpTab) (base : Own) (or : Orc R) (ops : Array Oper) (st : St) (k : St → Option R) : Option R :=
 match appIx ops with
 | some p =>
  if appOk sp ops p = true then
   match ops[p]? with
   | some o => opsK P sp base (List.replicate p false) or ops (ops.toList.take p) st fun st1 =>
     if (Nat.beq st1.L.length st.L.length && Z11x ops p (ev st1.sl (appArg o.op)) st1.sl st1.L) = true then
      opK P sp base true or o st1.sl st1.L fun sl v L => opsK P sp base [] or ops (ops.toList.drop (p + 1)) ⟨setSl sl o.dst v,L⟩ k
     else none
   | none => none
  else none
 | none => none
def topOf (M : Mask) (base : Nat) (L : Heap) : Nat := match M.top with
 | none => L.length
 | some t => base + t
def keepSl : List Bool → List AV → List AV
 | true :: ks,x :: xs => x :: keepSl ks xs
 | false :: ks,_ :: xs => .junk :: keepSl ks xs
 | [],xs => xs.map fun _ => .junk
 | _,[] => []
def refsLt (m : Nat) : AV → Bool
 | .ptr i _ => decide (i < m)
 | .sl i _ _ _ _ => decide (i < m)
 | .agg cs => refsLts m cs
 | .tup cs => refsLts m cs
 | .clo _ cs => refsLts m cs
 | .bnd _ cs => refsLts m cs
 | .yld i => decide (i < m)
 | .it i => decide (i < m)
 | .mp i => decide (i < m)
 | _ => true
where refsLts (m : Nat) : List AV → Bool
 | [] => true
 | x :: r => refsLt m x && refsLts m r
def blkLt (m : Nat) : Blk → Bool
 | .a _ cs => cs.all (refsLt m)
 | .t _ _ cs => cs.all (refsLt m)
 | .loop _ _ sl _ _ _ _ => sl.all (refsLt m)
 | _ => true
def frzK (m : Nat) (L : Heap) : List AV → (List AV → Option R) → Option R
 | [],k => k []
 | x :: r,k =>
  match x with
  | .sl id off n cap sz =>
   if Nat.ble m id = true then
    match L[id]? with
    | some (.d b cs) => cut b cs off (n * sz) fun q => frzK m L r fun ys => k (.d (.list n cap q) :: ys)
    | _ => none
   else frzK m L r fun ys => k (.sl id off n cap sz :: ys)
  | x => frzK m L r fun ys => k (x :: ys)
def lostSl (m : Nat) : List AV → Bool
 | [] => false
 | .sl id _ _ _ _ :: r => Nat.ble m id || lostSl m r
 | _ :: r => lostSl m r
def maskK (keep : List Bool) (base m : Nat) (st : St) (k : St → Option R) : Option R :=
 cond (Nat.blt st.sl.length keep.length && lostSl m (keepSl keep st.sl)) none
 (frzK m st.L (keepSl keep st.sl) fun sl =>
  let L := st.L.take m
  if (Nat.ble base m && (sl.all (refsLt m) && L.all (blkLt m))) = true then k ⟨sl,L⟩ else none)
def promK : List (Nat × Nat) → St → (St → Option R) → Option R
 | [],st,k => k st
 | (t,sz) :: r,st,k =>
  cond (Nat.blt t 1000000)
   (match st.sl[t]? with
   | some (.d (.list 0 (some 0) [])) => promK r ⟨st.sl.set t (.sl st.L.length 0 0 none sz),st.L ++ [.d 0 []]⟩ k
   | _ => promK r st k)
   (match st.L[(t - 1000000) / 1000]? with
   | some (.d n cs) =>
    match cs[(t - 1000000) % 1000]? with
    | some (.list 0 (some 0) []) => promK r ⟨st.sl,(st.L.set ((t - 1000000) / 1000) (.a n ((cs.map .d).set ((t - 1000000) % 1000) (.sl st.L.length 0 0 none sz)))) ++ [.d 0 []]⟩ k
    | _ => promK r st k
   | some (.a n cs) =>
    match cs[(t - 1000000) % 1000]? with
    | some (.d (.list 0 (some 0) [])) => promK r ⟨st.sl,(st.L.set ((t - 1000000) / 1000) (.a n (cs.set ((t - 1000000) % 1000) (.sl st.L.length 0 0 none sz)))) ++ [.d 0 []]⟩ k
    | _ => promK r st k
   | _ => promK r st k)
def Ziu (keep : List Bool) (base m : Nat) (body : CO R) : Nat → CO R
 | 0,_,_ => none
 | n + 1,st,k => body st fun e st' => match e with
  | .normal => maskK keep base m st' fun st'' => Ziu keep base m body n st'' k
  | e => k e st'
structure Hints where
 sp : SpTab
 inl : List (FuncId × Func × FnH)
 mv : List FuncId
def Z1aq (id n : Nat) (k : Ex → St → Option R) : AV → Heap → Option R := fun _ L =>
 match L[id]? with
 | some (.loop s p sl ps a b fh) =>
  if s ≠ 1 ∧ sl.length = n then k (p.getD .normal) ⟨sl,L.set id (.loop 3 p sl ps a b fh)⟩ else none
 | _ => none
def cutK (m : Nat) (x : Option R) : Option R := match m with
 | 0 => x
 | _ + 1 => x
theorem Zms (m : Nat) (x : Option R) : cutK m x = x := by cases m <;> rfl
def scopeK (base : Own) (fh : FnH) (body : Code) (jump : Nat → St → Option R) (k : Ex → St → Option R) : Ex → St → Option R := fun e st => match e with
 | .goto l => match findLabel body l with
  | some _ => match fh.loops.lookup (100000 + l) with
   | some M => promK M.prom st fun st1 => maskK M.keep base.base (topOf M base.base st1.L) st1 fun st2 => jump l st2
   | none => none
  | none => k (.goto l) st
 | e => k e st
def Z1el (base : Own) (fh : FnH) (body : Code) (lab : Nat → CO R) (k : Ex → St → Option R) : Nat → Nat → St → Option R
 | 0,_,_ => none
 | n + 1,l,st => lab l st (scopeK base fh body (Z1el base fh body lab k n) k)
def codeF (P : Program) (sp : SpTab) (base : Own) (or : Orc R) (m : Nat) (fh : FnH) : Code → Option Nat → CO R
 | .skip,none,st,k => k .normal st
 | .label _,none,st,k => k .normal st
 | .label l',some l,st,k => if l' = l then k .normal st else none
 | .ret,none,st,k => k .ret st
 | .exit id,none,st,k => k (.exit id) st
 | .goto l,none,st,k => k (.goto l) st
 | .seq a b,fr,st,k =>
  let next : Ex → St → Option R := fun e st' => match e with
   | .normal => match fh.cuts.lookup (firstRegion b) with
    | some M => promK M.prom st' fun st' => maskK M.keep base.base (topOf M base.base st'.L) st' fun st' => cutK m (codeF P sp base or m fh b none st' k)
    | none => codeF P sp base or m fh b none st' k
   | e => k e st'
  match fr with
  | none => codeF P sp base or m fh a none st next
  | some l => match findLabel a l with
   | some _ => codeF P sp base or m fh a (some l) st next
   | none => codeF P sp base or m fh b (some l) st k
 | .region _ ops draw,none,st,k =>
  if draw then (if drawOk sp ops then opsK P sp base (barsOf ops) or ops ops.toList st fun st' => k .normal st' else if stOk ops st.sl then opsK P sp base [] or ops ops.toList st fun st' => k .normal st' else appRun P sp base or ops st fun st' => k .normal st')
  else opsK P sp base [] or ops ops.toList st fun st' => k .normal st'
 | .cond c x y,none,st,k =>
  match ev st.sl c with
  | .d (.v (.bool b)) => cond b (codeF P sp base or m fh x none ⟨litB st.sl c true,st.L⟩ k) (codeF P sp base or m fh y none ⟨litB st.sl c false,st.L⟩ k)
  | _ => none
 | .block id body,none,st,k => codeF P sp base or m fh body none st fun e st' => match e with
  | .exit i => if i = id then k .normal st' else k (.exit i) st'
  | e => k e st'
 | .loop body,none,st,k =>
  match fh.loops.lookup (firstRegion body) with
  | some M => promK M.prom st fun st1 => maskK M.keep base.base (topOf M base.base st1.L) st1 fun st2 => Ziu M.keep base.base (topOf M base.base st1.L) (codeF P sp base or m fh body none) (M.fuel.getD m) st2 k
  | none => none
 | .scope body,none,st,k => codeF P sp base or m fh body none st (scopeK base fh body (Z1el base fh body (fun l => codeF P sp base or m fh body (some l)) k m) k)
 | .rangeFunc g ps a b,none,st,k =>
  if base.rd = true then none else
  match fh.loops.lookup (firstRegion a) with
  | some M =>
   let id := st.L.length
   let L1 := st.L ++ [.loop 0 none (keepSl M.keep st.sl) ps.toList a b fh]
   match ev st.sl g with
   | .d (.fn f ds) => or (subOwn base [] L1) (.fn f) (.yld id :: ds.map .d) L1 (Z1aq id st.sl.length k)
   | .clo f cs => or (subOwn base [] L1) (.fn f) (.yld id :: cs) L1 (Z1aq id st.sl.length k)
   | _ => none
  | none => none
 | _,_,_,_ => none
def codeK (P : Program) (sp : SpTab) (base : Own) (or : Orc R) (m : Nat) (fh : FnH) (c : Code) : CO R := codeF P sp base or m fh c none
inductive Itm where
 | code (c : Code)
 | block (id : Nat)
 | loop (keep : List Bool) (mm : Nat) (body : Code) (n : Nat)
 | scope (body : Code) (n : Nat)
def contK (P : Program) (sp : SpTab) (base : Own) (or : Orc R) (m : Nat) (fh : FnH) (k : Ex → St → Option R) : List Itm → Ex → St → Option R
 | [] => k
 | .code b :: s => fun e st' => match e with
  | .normal => match fh.cuts.lookup (firstRegion b) with
   | some M => promK M.prom st' fun st' => maskK M.keep base.base (topOf M base.base st'.L) st' fun st' => cutK m (codeK P sp base or m fh b st' (contK P sp base or m fh k s))
   | none => codeK P sp base or m fh b st' (contK P sp base or m fh k s)
  | e => contK P sp base or m fh k s e st'
 | .block id :: s => fun e st' => match e with
  | .exit i => if i = id then contK P sp base or m fh k s .normal st' else contK P sp base or m fh k s (.exit i) st'
  | e => contK P sp base or m fh k s e st'
 | .loop keep mm body n :: s => fun e st' => match e with
  | .normal => maskK keep base.base mm st' fun st'' => Ziu keep base.base mm (codeK P sp base or m fh body) n st'' (contK P sp base or m fh k s)
  | e => contK P sp base or m fh k s e st'
 | .scope body n :: s => scopeK base fh body (Z1el base fh body (fun l => codeF P sp base or m fh body (some l)) (contK P sp base or m fh k s) n) (contK P sp base or m fh k s)
def subc : List Nat → Code → Code
 | [],c => c
 | 0 :: p,.seq a _ => subc p a
 | _ :: p,.seq _ b => subc p b
 | 0 :: p,.cond _ a _ => subc p a
 | _ :: p,.cond _ _ b => subc p b
 | _ :: p,.block _ c => subc p c
 | _ :: p,.loop c => subc p c
 | _ :: p,.scope c => subc p c
 | 0 :: p,.rangeFunc _ _ a _ => subc p a
 | _ :: p,.rangeFunc _ _ _ b => subc p b
 | _,c => c
def bodyOf (fn : Func) : Code := fn.body.getD .skip
def resK (P : Program) (sl : List AV) (L : Heap) : List ResultVar → (List AV → Option R) → Option R
 | [],k => k []
 | .tmp t :: r,k => resK P sl L r fun vs => k (sl.getD t .junk :: vs)
 | .cell a t :: r,k => loadK P t (sl.getD a .junk) L fun v _ => resK P sl L r fun vs => k (v :: vs)
def endK (P : Program) (fn : Func) (k : AV → Heap → Option R) : Ex → St → Option R := fun e st =>
 match e with
 | .normal | .ret => resK P st.sl st.L fn.results.toList fun vs =>
  match vs with
  | [v] => k v st.L
  | vs => k (mkTup vs) st.L
 | _ => none
def funK (P : Program) (sp : SpTab) (ow : Own) (or : Orc R) (m : Nat) (fh : FnH) (fn : Func) (args : List AV) (L : Heap) (k : AV → Heap → Option R) : Option R :=
 match fn.body with
 | none => none
 | some c =>
  codeK P sp ow or m fh c ⟨args ++ List.replicate (fn.ntmps - args.length) .junk,L⟩ (endK P fn k)
def setsSl : List AV → List Nat → List AV → List AV
 | sl,t :: ts,x :: xs => setsSl (sl.set t x) ts xs
 | sl,_,_ => sl
def Z1fl (id : Nat) (k : AV → Heap → Option R) : Ex → St → Option R := fun e st =>
 match st.L[id]? with
 | some (.loop 1 _ sl ps a b fh) =>
  match e with
  | .normal => k (.d (.v (.bool true))) (st.L.set id (.loop 0 none sl ps a b fh))
  | e => k (.d (.v (.bool false))) (st.L.set id (.loop 2 (some e) sl ps a b fh))
 | _ => none
def roundK (P : Program) (sp : SpTab) (ow : Own) (or : Orc R) (m : Nat) (id : Nat) (args : List AV) (L : Heap) (k : AV → Heap → Option R) : Option R :=
 match L[id]? with
 | some (.loop 0 none sl ps a b fh) =>
  if ps.length = args.length then
   codeK P sp ow or m fh a ⟨setsSl sl ps args,L⟩ fun e st => match e with
    | .normal => match st.L[id]? with
     | some (.loop 0 none sl' ps' a' b' fh') => codeK P sp ow or m fh b ⟨st.sl,st.L.set id (.loop 1 none sl' ps' a' b' fh')⟩ (Z1fl id k)
     | _ => none
    | _ => none
  else none
 | _ => none
def codeQ (P : Program) (sp : SpTab) (ow : Own) (or : Orc R) (L : Heap) : Code → List AV → (Ex → List AV → Option R) → Option R
 | .skip,sl,k => k .normal sl
 | .label _,sl,k => k .normal sl
 | .ret,sl,k => k .ret sl
 | .exit id,sl,k => k (.exit id) sl
 | .seq a b,sl,k => codeQ P sp ow or L a sl fun e sl' => match e with
  | .normal => codeQ P sp ow or L b sl' k
  | e => k e sl'
 | .region _ ops draw,sl,k =>
  if draw then none else
  if ops.toList.all (fun o => Z11w sp o.op) = true then opsK P sp ow (ops.toList.map fun _ => false) or ops ops.toList ⟨sl,L⟩ fun st' => k .normal st'.sl else none
 | .cond c x y,sl,k =>
  match ev sl c with
  | .d (.v (.bool b)) => cond b (codeQ P sp ow or L x (litB sl c true) k) (codeQ P sp ow or L y (litB sl c false) k)
  | _ => none
 | .block id body,sl,k => codeQ P sp ow or L body sl fun e sl' => match e with
  | .exit i => if i = id then k .normal sl' else k (.exit i) sl'
  | e => k e sl'
 | _,_,_ => none
def funQ (P : Program) (sp : SpTab) (ow : Own) (or : Orc R) (fn : Func) (args : List AV) (L : Heap) (k : AV → Heap → Option R) : Option R :=
 match fn.body with
 | none => none
 | some c => codeQ P sp ow or L c (args ++ List.replicate (fn.ntmps - args.length) .junk) fun e sl => endK P fn k e ⟨sl,L⟩
def inlK (P : Program) (H : Hints) (m : Nat) : Nat → Orc R
 | 0 => fun _ _ _ _ _ => none
 | n + 1 => fun ow t args L k =>
  match t with
  | .fn f =>
   match H.inl.lookup f with
   | some (fn,fh) => funK P H.sp ow (inlK P H m n) m fh fn args L k
   | none => none
  | .yld id => roundK P H.sp ow (inlK P H m n) m id args L k
  | .qfn f =>
   match H.inl.lookup f with
   | some (fn,_) => funQ P H.sp ow (inlK P H m n) fn args L k
   | none => none
def endV (v : AV) (L : Heap) : Option D := match v with
 | .mp id => match L[id]? with
  | some (.map kvs) => some (.mp kvs)
  | _ => none
 | v => viewK L 8 v some
def funD (P : Program) (H : Hints) (m n : Nat) (fh : FnH) (fn : Func) (ds : List D) : Option D :=
 funK P H.sp ⟨0,[],false,H.mv⟩ (inlK P H m n) m fh fn (ds.map .d) [] endV
end
end Go.Ev
/-
 What a value of the machine stands for,in a world: 'RepD' (data),'Rep' (values with local references),'Mem' (the local blocks as they lie).
-/
namespace Go.Ev
open Go Go.RowKit
inductive RepD (w : World) (ok : Nat → Prop) : Value → D → Prop
 | v {x : Value} : leaf x = true → RepD w ok x (.v x)
 | fn {f : FuncId} {vs : List Value} {cs : List D} : vs.length = cs.length → (∀ (i : Nat) x d,vs[i]? = some x → cs[i]? = some d → RepD w ok x d) → RepD w ok (.func (.func f) #[] vs.toArray) (.fn f cs)
 | agg {vs : List Value} {cs : List D} : vs.length = cs.length → (∀ d,d ∈ cs → d.one = true) → (∀ (i : Nat) x d,vs[i]? = some x → cs[i]? = some d → RepD w ok x d) → RepD w ok (.agg vs.toArray) (.agg cs)
 | tup {vs : List Value} {cs : List D} : vs.length = cs.length → (∀ (i : Nat) x d,vs[i]? = some x → cs[i]? = some d → RepD w ok x d) → RepD w ok (.tuple vs.toArray) (.tup cs)
 | nil {a : Option Addr} {cap : Option Nat} : (cap = none ∨ cap = some 0) → RepD w ok (.slice a 0 0) (.list 0 cap [])
 | list {b off n cp : Nat} {cap : Option Nat} {cs : List D} {f : Nat → Value} : ok b → n ≤ cp → (∀ c,cap = some c → c = cp) → (∀ d,d ∈ cs → d.one = true) →
   (∀ j,j < cs.length → w.cell? ⟨b,off + j,none⟩ = some (f j)) → (∀ (j : Nat) d,cs[j]? = some d → RepD w ok (f j) d) → RepD w ok (.slice (some ⟨b,off,none⟩) n cp) (.list n cap cs)
 | mp {b q : Nat} {es : Array MapEntry} {kvs : List (D × D)} : ok b → w.heap[b]? = some (.map es q) → es.size = kvs.length → (∀ (j : Nat) e p,es.toList[j]? = some e → kvs[j]? = some p → RepD w ok e.key p.1) →
   (∀ (j : Nat) e p,es.toList[j]? = some e → kvs[j]? = some p → RepD w ok e.val p.2) → RepD w ok (.map (some b)) (.mp kvs)
structure Env where
 e : Nat → Option (Nat × Nat)
 y : Nat → Option Nat
instance : CoeFun Env (fun _ => Nat → Option (Nat × Nat)) := ⟨Env.e⟩
def Env.nil : Env := ⟨fun _ => .none,fun _ => .none⟩
inductive Rep (E : Env) (w : World) (ok : Nat → Prop) : Value → AV → Prop
 | d {x : Value} {d : D} : RepD w ok x d → Rep E w ok x (.d d)
 | agg {vs : List Value} {cs : List AV} : vs.length = cs.length → (∀ c,c ∈ cs → c.one = true) → (∀ (i : Nat) x c,vs[i]? = some x → cs[i]? = some c → Rep E w ok x c) → Rep E w ok (.agg vs.toArray) (.agg cs)
 | tup {vs : List Value} {cs : List AV} : vs.length = cs.length → (∀ (i : Nat) x c,vs[i]? = some x → cs[i]? = some c → Rep E w ok x c) → Rep E w ok (.tuple vs.toArray) (.tup cs)
 | ptr {id off b m : Nat} : E id = some (b,m) → Rep E w ok (.pointer (some ⟨b,off,none⟩)) (.ptr id off)
 | sl {id off off' n cp b m sz : Nat} {cap : Option Nat} : E id = some (b,m) → n ≤ cp → (∀ c,cap = some c → c = cp) → off + cp * sz ≤ m → (off' = off ∨ cp = 0) → Rep E w ok (.slice (some ⟨b,off',none⟩) n cp) (.sl id off n cap sz)
 | slz {id off sz : Nat} {cap : Option Nat} {a : Option Addr} : (∀ q,cap = some q → q = 0) → Rep E w ok (.slice a 0 0) (.sl id off 0 cap sz)
 | lp {b base off : Nat} {cs : List D} {f : Nat → Value} : ok b → (∀ d,d ∈ cs → d.one = true) → (∀ j,j < cs.length → w.cell? ⟨b,base + j,none⟩ = some (f j)) → (∀ (j : Nat) d,cs[j]? = some d → RepD w ok (f j) d) →
   Rep E w ok (.pointer (some ⟨b,base + off,none⟩)) (.lp cs off)
 | clo {f : FuncId} {vs : List Value} {cs : List AV} : vs.length = cs.length → (∀ (i : Nat) x c,vs[i]? = some x → cs[i]? = some c → Rep E w ok x c) → Rep E w ok (.func (.func f) #[] vs.toArray) (.clo f cs)
 | bnd {f : FuncId} {vs : List Value} {cs : List AV} : vs.length = cs.length → (∀ (i : Nat) x c,vs[i]? = some x → cs[i]? = some c → Rep E w ok x c) → Rep E w ok (.func (.func f) vs.toArray #[]) (.bnd f cs)
 | yld {id l : Nat} : E.y id = some l → Rep E w ok (.func (.yield l) #[] #[]) (.yld id)
 | it {id l : Nat} : E.y id = some l → Rep E w ok (.pointer (some ⟨l,0,none⟩)) (.it id)
 | mp {id l : Nat} : E.y id = some l → Rep E w ok (.map (some l)) (.mp id)
 | junk {x : Value} : Rep E w ok x .junk
theorem RepD.mono {w w' : World} {ok ok' : Nat → Prop} (hok : ∀ b,ok b → ok' b) (hh : ∀ b,ok b → w'.heap[b]? = w.heap[b]?) {x : Value} {d : D} (h : RepD w ok x d) : RepD w' ok' x d := by
 induction h with
 | v hl => exact .v hl
 | fn hlen _ ih => exact .fn hlen ih
 | agg hlen h1 _ ih => exact .agg hlen h1 ih
 | tup hlen _ ih => exact .tup hlen ih
 | nil hc => exact .nil hc
 | list hb hn hcap h1 hcell _ ih => exact .list (hok _ hb) hn hcap h1 (fun j hj => (World.cell?_of_block (hh _ hb)).trans (hcell j hj)) ih
 | mp hb hm hl _ _ ih1 ih2 => exact .mp (hok _ hb) ((hh _ hb).trans hm) hl ih1 ih2
def kept : Obj → Bool
 | .deferred (some []) => true
 | .loop _ => true
 | _ => false
def Keeps (o o' : Obj) : Prop := o' = o ∨ ∃ r r',o = .loop r ∧ o' = .loop r' ∧ r'.tmps = r.tmps ∧ r'.fn = r.fn
theorem Keeps.kept {o o' : Obj} (h : Keeps o o') (hk : kept o = true) : kept o' = true := by
 rcases h with rfl | ⟨r,r',rfl,rfl,_⟩
 ·exact hk
 ·rfl
theorem Keeps.trans {o o' o'' : Obj} (h : Keeps o o') (h' : Keeps o' o'') : Keeps o o'' := by
 rcases h with rfl | ⟨r,r',rfl,rfl,h1,h2⟩
 ·exact h'
 ·rcases h' with rfl | ⟨q,q',hq,rfl,h3,h4⟩
  ·exact .inr ⟨r,r',rfl,rfl,h1,h2⟩
  ·cases hq; exact .inr ⟨r,q',rfl,rfl,h3.trans h1,h4.trans h2⟩
def KeptIn (w w' : World) : Prop := ∀ (b : Nat) o,w.heap[b]? = some o → Go.Ev.kept o = true → ∃ o',w'.heap[b]? = some o' ∧ Keeps o o'
theorem KeptIn.refl (w : World) : KeptIn w w := fun _ o h _ => ⟨o,h,.inl rfl⟩
theorem KeptIn.trans {w w1 w2 : World} (h : KeptIn w w1) (h' : KeptIn w1 w2) : KeptIn w w2 := fun b o hb hk => by
 obtain ⟨o1,h1,k1⟩ := h b o hb hk
 obtain ⟨o2,h2,k2⟩ := h' b o1 h1 (k1.kept hk)
 exact ⟨o2,h2,k1.trans k2⟩
theorem KeptIn.of {w w' : World} (h : ∀ (b : Nat) o,w.heap[b]? = some o → Go.Ev.kept o = true → w'.heap[b]? = w.heap[b]?) : KeptIn w w' := fun b o hb hk => ⟨o,(h b o hb hk).trans hb,.inl rfl⟩
theorem KeptIn.old {w w' : World} (h : ∀ (b : Nat),b < w.heap.size → w'.heap[b]? = w.heap[b]?) : KeptIn w w' := .of fun b _ hb _ => h b (Array.getElem?_eq_some_iff.1 hb).1
structure Grow (E : Env) (w : World) (ok : Nat → Prop) (E' : Env) (w' : World) (ok' : Nat → Prop) : Prop where
 env : ∀ id x,E id = some x → E' id = some x
 oks : ∀ b,ok b → ok' b
 heap : ∀ b,ok b → w'.heap[b]? = w.heap[b]?
 envy : ∀ id x,E.y id = some x → E'.y id = some x
 df : KeptIn w w'
theorem Grow.refl (E : Env) (w : World) (ok : Nat → Prop) : Grow E w ok E w ok := ⟨fun _ _ h => h,fun _ h => h,fun _ _ => rfl,fun _ _ h => h,.refl _⟩
theorem Grow.trans {E E1 E2 : Env} {w w1 w2 : World} {ok ok1 ok2 : Nat → Prop} (h : Grow E w ok E1 w1 ok1) (k : Grow E1 w1 ok1 E2 w2 ok2) : Grow E w ok E2 w2 ok2 :=
 ⟨fun id x hx => k.env id x (h.env id x hx),fun b hb => k.oks b (h.oks b hb),fun b hb => (k.heap b (h.oks b hb)).trans (h.heap b hb),fun id x hx => k.envy id x (h.envy id x hx),h.df.trans k.df⟩
structure Step (B0 : Nat) (n : Own) (E : Env) (w : World) (ok : Nat → Prop) (E' : Env) (w' : World) (ok' : Nat → Prop) : Prop where
 env : ∀ id x,ownB n id = false → E id = some x → E' id = some x
 oks : ∀ b,ok b → ok' b
 heap : ∀ b,ok b → w'.heap[b]? = w.heap[b]?
 ext : ∀ b,ok' b → ok b ∨ B0 ≤ b
 envy : ∀ id x,id < n.base → E.y id = some x → E'.y id = some x
 df : KeptIn w w'
theorem Step.refl (B0 : Nat) (n : Own) (E : Env) (w : World) (ok : Nat → Prop) : Step B0 n E w ok E w ok := ⟨fun _ _ _ h => h,fun _ h => h,fun _ _ => rfl,fun _ h => .inl h,fun _ _ _ h => h,.refl _⟩
theorem Step.trans {B0 : Nat} {n : Own} {E E1 E2 : Env} {w w1 w2 : World} {ok ok1 ok2 : Nat → Prop} (h : Step B0 n E w ok E1 w1 ok1) (k : Step B0 n E1 w1 ok1 E2 w2 ok2) : Step B0 n E w ok E2 w2 ok2 :=
 ⟨fun id x hn hx => k.env id x hn (h.env id x hn hx),fun b hb => k.oks b (h.oks b hb),fun b hb => (k.heap b (h.oks b hb)).trans (h.heap b hb),fun b hb => (k.ext b hb).elim (h.ext b) .inr,fun id x hn hx => k.envy id x hn (h.envy id x hn hx),h.df.trans k.df⟩
theorem Step.of {B0 : Nat} {n : Own} {E E' : Env} {w w' : World} {ok ok' : Nat → Prop} (g : Grow E w ok E' w' ok') (e : ∀ b,ok' b → ok b ∨ B0 ≤ b) : Step B0 n E w ok E' w' ok' := ⟨fun id x _ => g.env id x,g.oks,g.heap,e,fun id x _ => g.envy id x,g.df⟩
theorem Step.of' {B0 : Nat} {n : Own} {E E' : Env} {w w' : World} {ok : Nat → Prop} (g : Grow E w ok E' w' ok) : Step B0 n E w ok E' w' ok := ⟨fun id x _ => g.env id x,g.oks,g.heap,fun _ h => .inl h,fun id x _ => g.envy id x,g.df⟩
theorem RepD.grow {E E' : Env} {w w' : World} {ok ok' : Nat → Prop} (g : Grow E w ok E' w' ok') {x : Value} {d : D} (h : RepD w ok x d) : RepD w' ok' x d := h.mono g.oks g.heap
theorem Rep.grow {E E' : Env} {w w' : World} {ok ok' : Nat → Prop} (g : Grow E w ok E' w' ok') {x : Value} {c : AV} (h : Rep E w ok x c) : Rep E' w' ok' x c := by
 induction h with
 | d h => exact .d (h.grow g)
 | agg hlen h1 _ ih => exact .agg hlen h1 ih
 | tup hlen _ ih => exact .tup hlen ih
 | ptr he => exact .ptr (g.env _ _ he)
 | sl he hn hc hm ho => exact .sl (g.env _ _ he) hn hc hm ho
 | slz hc => exact .slz hc
 | lp hb h1 hcell hrep => exact .lp (g.oks _ hb) h1 (fun j hj => (World.cell?_of_block (g.heap _ hb)).trans (hcell j hj)) (fun j d hd => (hrep j d hd).grow g)
 | clo hlen _ ih => exact .clo hlen ih
 | bnd hlen _ ih => exact .bnd hlen ih
 | yld he => exact .yld (g.envy _ _ he)
 | it he => exact .it (g.envy _ _ he)
 | mp he => exact .mp (g.envy _ _ he)
 | junk => exact .junk
theorem RepD.one {w : World} {ok : Nat → Prop} {x : Value} {d : D} (h : RepD w ok x d) (h1 : d.one = true) : x.oneCell' = true := by
 cases h with
 | v hl => cases x <;> simp_all [leaf,Value.oneCell']
 | fn => rfl
 | agg => simp [D.one] at h1
 | tup => simp [D.one] at h1
 | nil => rfl
 | list => rfl
 | mp => rfl
theorem Rep.one {E : Env} {w : World} {ok : Nat → Prop} {x : Value} {c : AV} (h : Rep E w ok x c) (h1 : c.one = true) : x.oneCell' = true := by
 cases h with
 | d h => exact h.one h1
 | agg => simp [AV.one] at h1
 | tup => simp [AV.one] at h1
 | ptr => rfl
 | sl => rfl
 | slz => rfl
 | lp => rfl
 | clo => rfl
 | bnd => rfl
 | yld => rfl
 | it => rfl
 | mp => rfl
 | junk => simp [AV.one] at h1
theorem Ziv {x : Value} (h : x.oneCell' = true) : x.cells = #[x] := by cases x <;> simp_all [Value.cells,Value.oneCell']
def CellsRep (E : Env) (w : World) (ok : Nat → Prop) (e : TypeId) (c : List Value) : Blk → Prop
 | .dead => False
 | .d n cs => cs.length = n ∧ n ≤ c.length ∧ (∀ d,d ∈ cs → d.one = true) ∧ ∀ (j : Nat) d,cs[j]? = some d → ∃ x,c[j]? = some x ∧ RepD w ok x d
 | .a n cs => cs.length = n ∧ n ≤ c.length ∧ ∀ (j : Nat) a,cs[j]? = some a → ∃ x,c[j]? = some x ∧ Rep E w ok x a
 | .t ty n cs => e = ty ∧ cs.length = n ∧ n = c.length ∧ ∀ (j : Nat) a,cs[j]? = some a → ∃ x,c[j]? = some x ∧ Rep E w ok x a
 | .td ty n cs => e = ty ∧ cs.length = n ∧ n ≤ c.length ∧ (∀ d,d ∈ cs → d.one = true) ∧ ∀ (j : Nat) d,cs[j]? = some d → ∃ x,c[j]? = some x ∧ RepD w ok x d
 | .iter _ _ => False
 | .map _ => False
 | .loop _ _ _ _ _ _ _ => False
theorem CellsRep.grow {e : TypeId} {E E' : Env} {w w' : World} {ok ok' : Nat → Prop} (g : Grow E w ok E' w' ok') {c : List Value} {B : Blk} (h : CellsRep E w ok e c B) : CellsRep E' w' ok' e c B := by
 cases B with
 | dead => exact h
 | d n cs => exact ⟨h.1,h.2.1,h.2.2.1,fun j d hd => let ⟨x,hx,hr⟩ := h.2.2.2 j d hd; ⟨x,hx,hr.grow g⟩⟩
 | a n cs => exact ⟨h.1,h.2.1,fun j d hd => let ⟨x,hx,hr⟩ := h.2.2 j d hd; ⟨x,hx,hr.grow g⟩⟩
 | t ty n cs => exact ⟨h.1,h.2.1,h.2.2.1,fun j d hd => let ⟨x,hx,hr⟩ := h.2.2.2 j d hd; ⟨x,hx,hr.grow g⟩⟩
 | td ty n cs => exact ⟨h.1,h.2.1,h.2.2.1,h.2.2.2.1,fun j d hd => let ⟨x,hx,hr⟩ := h.2.2.2.2 j d hd; ⟨x,hx,hr.grow g⟩⟩
 | iter s pos => exact h
 | map => exact h
 | loop => exact h
def Blk.ok : Blk → Prop
 | .d n cs => cs.length = n
 | .a n cs => cs.length = n
 | .t _ n cs => cs.length = n
 | .td _ n cs => cs.length = n
 | _ => True
def WF (L : Heap) : Prop := ∀ (id : Nat) (B : Blk),L[id]? = some B → B.ok
theorem CellsRep.len {e : TypeId} {E : Env} {w : World} {ok : Nat → Prop} {c : List Value} {B : Blk} (h : CellsRep E w ok e c B) : B.ok := by
 cases B with
 | dead => exact h.elim
 | d n cs => exact h.1
 | a n cs => exact h.1
 | t ty n cs => exact h.2.1
 | td ty n cs => exact h.2.1
 | iter s pos => exact h.elim
 | map => exact h.elim
 | loop => exact h.elim
theorem WF.set {L : Heap} (h : WF L) {e : TypeId} {E : Env} {w : World} {ok : Nat → Prop} {c : List Value} {B : Blk} (hB : CellsRep E w ok e c B) (id : Nat) : WF (L.set id B) := fun i B' hi => by
 by_cases hid : i = id
 ·subst hid
  by_cases hlt : i < L.length
  ·rw [List.getElem?_set_self hlt] at hi; cases hi; exact hB.len
  ·rw [List.getElem?_eq_none (by simp; omega)] at hi; cases hi
 ·rw [List.getElem?_set_ne (Ne.symm hid)] at hi; exact h i B' hi
theorem WF.push' {L : Heap} (h : WF L) {B : Blk} (hB : B.ok) : WF (L ++ [B]) := fun i B' hi => by
 by_cases hlt : i < L.length
 ·rw [List.getElem?_append_left hlt] at hi; exact h i B' hi
 ·rw [List.getElem?_append_right (by omega)] at hi
  cases hj : i - L.length with
  | zero => rw [hj] at hi; cases hi; exact hB
  | succ j => rw [hj] at hi; cases hi
theorem WF.push {L : Heap} (h : WF L) {e : TypeId} {E : Env} {w : World} {ok : Nat → Prop} {c : List Value} {B : Blk} (hB : CellsRep E w ok e c B) : WF (L ++ [B]) := h.push' hB.len
def GlOk (w : World) (ok : Nat → Prop) : Prop := ∀ (g : Nat) (cs : List D),Gl g = some cs → ok g ∧ (∀ d,d ∈ cs → d.one = true) ∧ ∃ f : Nat → Value,(∀ j,j < cs.length → w.cell? ⟨g,0 + j,none⟩ = some (f j)) ∧ ∀ (j : Nat) d,cs[j]? = some d → RepD w ok (f j) d
theorem GlOk.mono {w w' : World} {ok ok' : Nat → Prop} (h : GlOk w ok) (hok : ∀ b,ok b → ok' b) (hh : ∀ b,ok b → w'.heap[b]? = w.heap[b]?) : GlOk w' ok' := fun g cs hg => by
 obtain ⟨h1,h2,f,h3,h4⟩ := h g cs hg
 exact ⟨hok _ h1,h2,f,fun j hj => (World.cell?_of_block (hh _ h1)).trans (h3 j hj),fun j d hd => (h4 j d hd).mono hok hh⟩
theorem GlOk.grow {E E' : Env} {w w' : World} {ok ok' : Nat → Prop} (h : GlOk w ok) (g : Grow E w ok E' w' ok') : GlOk w' ok' := h.mono g.oks g.heap
theorem GlOk.rep {w : World} {ok : Nat → Prop} (h : GlOk w ok) {E : Env} {g : Nat} {cs : List D} (hg : Gl g = some cs) : Rep E w ok (.pointer (some ⟨g,0,none⟩)) (.lp cs 0) := by
 obtain ⟨h1,h2,f,h3,h4⟩ := h g cs hg
 exact Rep.lp (base := 0) (off := 0) h1 h2 h3 h4
def SlRep (E : Env) (w : World) (ok : Nat → Prop) (tmps : Array Value) (sl : List AV) : Prop := ∀ (t : Nat) c,sl[t]? = some c → Rep E w ok (tmps.getD t undef) c
theorem SlRep.grow {E E' : Env} {w w' : World} {ok ok' : Nat → Prop} (g : Grow E w ok E' w' ok') {tmps : Array Value} {sl : List AV} (h : SlRep E w ok tmps sl) : SlRep E' w' ok' tmps sl := fun t c hc => (h t c hc).grow g
def stN : LoopState → Nat
 | .ready => 0
 | .busy => 1
 | .done => 2
 | .exhausted => 3
def exCode : Ex → Code
 | .normal => .skip
 | .exit id => .exit id
 | .goto l => .goto l
 | .ret => .ret
def ObjRep (E : Env) (w : World) (ok : Nat → Prop) : Obj → Blk → Prop
 | .stringIter s pos,.iter s' pos' => s = s' ∧ pos = pos'
 | .map es _,.map kvs => es.size = kvs.length ∧ ∀ (j : Nat) e p,es.toList[j]? = some e → kvs[j]? = some p → RepD w ok e.key p.1 ∧ RepD w ok e.val p.2
 | .loop r,.loop s p sl ps a b _ => stN r.state = s ∧ r.pending = p.map exCode ∧ SlRep E w ok r.tmps sl ∧ r.tmps.size = sl.length ∧ r.params.toList = ps ∧ r.assign = a ∧ r.body = b
 | _,_ => False
theorem ObjRep.sl {E E' : Env} {w w' : World} {ok ok' : Nat → Prop} {o : Obj} {B : Blk} (h : ObjRep E w ok o B) (hs : ∀ tmps sl,SlRep E w ok tmps sl → SlRep E' w' ok' tmps sl) (hd : ∀ x d,RepD w ok x d → RepD w' ok' x d) : ObjRep E' w' ok' o B := by
 cases o <;> cases B <;> first | exact h | exact ⟨h.1,h.2.1,hs _ _ h.2.2.1,h.2.2.2⟩ | exact ⟨h.1,fun j e p he hp => ⟨hd _ _ (h.2 j e p he hp).1,hd _ _ (h.2 j e p he hp).2⟩⟩ | exact h.elim
theorem ObjRep.grow {E E' : Env} {w w' : World} {ok ok' : Nat → Prop} (g : Grow E w ok E' w' ok') {o : Obj} {B : Blk} (h : ObjRep E w ok o B) : ObjRep E' w' ok' o B := h.sl (fun _ _ hs => hs.grow g) (fun _ _ hd => hd.grow g)
def noCells : Obj → Bool
 | .cells _ _ _ => false
 | _ => true
theorem ObjRep.no {E : Env} {w : World} {ok : Nat → Prop} {o : Obj} {B : Blk} (h : ObjRep E w ok o B) : noCells o = true := by
 cases o <;> first | rfl | (cases B <;> exact h.elim)
structure Mem (B0 : Nat) (w0 : World) (ok : Nat → Prop) (E : Env) (L : Heap) (w : World) : Prop where
 below : Below B0 w0 w
 okb : ∀ b,ok b → b < w.heap.size ∧ ∀ id m,E id ≠ some (b,m)
 inj : ∀ i j b m m',E i = some (b,m) → E j = some (b,m') → i = j
 loc : ∀ id b m,E id = some (b,m) → B0 ≤ b ∧ ∃ (c : Array Value) (e : TypeId) (B : Blk),w.heap[b]? = some (.cells c e (0,0)) ∧ c.size = m ∧ (∀ x,x ∈ c.toList → x.oneCell' = true) ∧ L[id]? = some B ∧ CellsRep E w ok e c.toList B
 b0 : B0 ≤ w.heap.size
 wf : WF L
 gl : GlOk w ok
 obj : ∀ id l,E.y id = some l → B0 ≤ l ∧ ∃ o B,w.heap[l]? = some o ∧ L[id]? = some B ∧ ObjRep E w ok o B
 yinj : ∀ i j l,E.y i = some l → E.y j = some l → i = j
 yok : ∀ b,ok b → ∀ id,E.y id ≠ some b
theorem Mem.lt {B0 : Nat} {w0 : World} {ok : Nat → Prop} {E : Env} {L : Heap} {w : World} (h : Mem B0 w0 ok E L w) {id b m : Nat} (he : E id = some (b,m)) : b < w.heap.size := by
 obtain ⟨_,c,e,B,hb,_⟩ := h.loc id b m he
 exact (Array.getElem?_eq_some_iff.1 hb).1
theorem Mem.idlt {B0 : Nat} {w0 : World} {ok : Nat → Prop} {E : Env} {L : Heap} {w : World} (h : Mem B0 w0 ok E L w) {id b m : Nat} (he : E id = some (b,m)) : id < L.length := by
 obtain ⟨_,c,e,B,_,_,_,hB,_⟩ := h.loc id b m he
 exact (List.getElem?_eq_some_iff.1 hB).1
theorem Mem.ylt {B0 : Nat} {w0 : World} {ok : Nat → Prop} {E : Env} {L : Heap} {w : World} (h : Mem B0 w0 ok E L w) {id l : Nat} (he : E.y id = some l) : l < w.heap.size := by
 obtain ⟨_,o,B,hb,_⟩ := h.obj id l he
 exact (Array.getElem?_eq_some_iff.1 hb).1
theorem Mem.yidlt {B0 : Nat} {w0 : World} {ok : Nat → Prop} {E : Env} {L : Heap} {w : World} (h : Mem B0 w0 ok E L w) {id l : Nat} (he : E.y id = some l) : id < L.length := by
 obtain ⟨_,o,B,_,hB,_⟩ := h.obj id l he
 exact (List.getElem?_eq_some_iff.1 hB).1
theorem Mem.yne {B0 : Nat} {w0 : World} {ok : Nat → Prop} {E : Env} {L : Heap} {w : World} (h : Mem B0 w0 ok E L w) {id b m : Nat} (he : E id = some (b,m)) {id' l : Nat} (hy : E.y id' = some l) : l ≠ b := fun e => by
 obtain ⟨_,c,_,_,hb,_⟩ := h.loc id b m he
 obtain ⟨_,o,B,hl,_,ho⟩ := h.obj id' l hy
 rw [e,hb] at hl
 cases hl
 exact absurd ho.no (by simp [noCells])
theorem Mem.yidne {B0 : Nat} {w0 : World} {ok : Nat → Prop} {E : Env} {L : Heap} {w : World} (h : Mem B0 w0 ok E L w) {id b m : Nat} (he : E id = some (b,m)) {id' l : Nat} (hy : E.y id' = some l) : id' ≠ id := fun e => by
 subst e
 obtain ⟨_,c,_,B1,_,_,_,hB1,hc⟩ := h.loc _ b m he
 obtain ⟨_,o,B2,_,hB2,ho⟩ := h.obj _ l hy
 rw [hB1] at hB2
 cases hB2
 cases o <;> cases B1 <;> first | exact ho.elim | exact hc.elim
theorem Grow.drew (E : Env) (w : World) (ok : Nat → Prop) : Grow E w ok E w.drew ok := ⟨fun _ _ h => h,fun _ h => h,fun _ _ => rfl,fun _ _ h => h,fun _ o h _ => ⟨o,h,.inl rfl⟩⟩
theorem Mem.drew {B0 : Nat} {w0 : World} {ok : Nat → Prop} {E : Env} {L : Heap} {w : World} (h : Mem B0 w0 ok E L w) : Mem B0 w0 ok E L w.drew :=
 ⟨h.below.drew,h.okb,h.inj,fun id b m he => let ⟨h0,c,e,B,hb,hs,h1,hB,hc⟩ := h.loc id b m he; ⟨h0,c,e,B,hb,hs,h1,hB,hc.grow (Grow.drew E w ok)⟩,h.b0,h.wf,h.gl.grow (Grow.drew E w ok),fun id l hy => let ⟨h0,o,B,hb,hB,ho⟩ := h.obj id l hy; ⟨h0,o,B,hb,hB,ho.grow (Grow.drew E w ok)⟩,h.yinj,h.yok⟩
def Env.put (E : Env) (id : Nat) (x : Nat × Nat) : Env := ⟨fun i => if i = id then some x else E i,E.y⟩
def Fresh (E : Env) (L : Heap) : Prop := ∀ id,L.length ≤ id → E id = none
theorem Mem.fresh {B0 : Nat} {w0 : World} {ok : Nat → Prop} {E : Env} {L : Heap} {w : World} (h : Mem B0 w0 ok E L w) : Fresh E L := fun id hid => by
 cases he : E id with
 | none => rfl
 | some x => obtain ⟨b,m⟩ := x; have := h.idlt he; omega
theorem Grow.alloc {B0 : Nat} {w0 : World} {ok : Nat → Prop} {E : Env} {L : Heap} {w : World} (h : Mem B0 w0 ok E L w) (o : Obj) (m : Nat) : Grow E w ok (E.put L.length (w.heap.size,m)) (w.alloc o) ok :=
 ⟨fun id x hx => by
  have hne : id ≠ L.length := fun e => by rw [h.fresh id (by omega)] at hx; cases hx
  simp [Env.put,hne,hx],fun _ hb => hb,fun b hb => heap_alloc_old w o (h.okb b hb).1,fun _ _ hx => hx,.old fun b hb => heap_alloc_old w o hb⟩
theorem Mem.alloc {B0 : Nat} {w0 : World} {ok : Nat → Prop} {E : Env} {L : Heap} {w : World} (h : Mem B0 w0 ok E L w) (c : Array Value) (e : TypeId) (B : Blk)
  (h1 : ∀ x,x ∈ c.toList → x.oneCell' = true) (hc : CellsRep E w ok e c.toList B) :
  Mem B0 w0 ok (E.put L.length (w.heap.size,c.size)) (L ++ [B]) (w.alloc (.cells c e)) := by
 have g := Grow.alloc h (.cells c e) c.size
 refine ⟨h.below.alloc h.b0 _,fun b hb => ⟨by have := (h.okb b hb).1; simp; omega,fun id m he => ?_⟩,fun i j b m m' hi hj => ?_,fun id b m he => ?_,by have := h.b0; simp; omega,h.wf.push hc,h.gl.grow g,fun id l hy => ?_,h.yinj,h.yok⟩
 ·by_cases hid : id = L.length
  ·simp [Env.put,hid] at he; have := (h.okb b hb).1; omega
  ·simp [Env.put,hid] at he; exact (h.okb b hb).2 id m he
 ·by_cases hid : i = L.length <;> by_cases hjd : j = L.length
  ·omega
  ·simp [Env.put,hid] at hi; simp [Env.put,hjd] at hj; have := h.lt hj; omega
  ·simp [Env.put,hid] at hi; simp [Env.put,hjd] at hj; have := h.lt hi; omega
  ·simp [Env.put,hid] at hi; simp [Env.put,hjd] at hj; exact h.inj i j b m m' hi hj
 ·by_cases hid : id = L.length
  ·simp [Env.put,hid] at he
   obtain ⟨rfl,rfl⟩ := he
   subst hid
   exact ⟨h.b0,c,e,B,heap_alloc_new w _,rfl,h1,by simp,hc.grow g⟩
  ·simp [Env.put,hid] at he
   obtain ⟨h0,c',e',B',hb,hs,h1',hB,hc'⟩ := h.loc id b m he
   have hlt := h.idlt he
   exact ⟨h0,c',e',B',(heap_alloc_old w _ (h.lt he)).trans hb,hs,h1',by rw [List.getElem?_append_left hlt]; exact hB,hc'.grow g⟩
 ·obtain ⟨h0,o,B',hb,hB,ho⟩ := h.obj id l hy
  exact ⟨h0,o,B',(heap_alloc_old w _ (h.ylt hy)).trans hb,by rw [List.getElem?_append_left (h.yidlt hy)]; exact hB,ho.grow g⟩
structure Place (E : Env) (L L' : Heap) (id : Nat) (B : Blk) : Prop where
 e : E id = none
 y : E.y id = none
 here : L'[id]? = some B
 old : ∀ i,i ≠ id → i < L.length → L'[i]? = L[i]?
 wf : WF L → B.ok → WF L'
theorem Place.push {B0 : Nat} {w0 : World} {ok : Nat → Prop} {E : Env} {L : Heap} {w : World} (h : Mem B0 w0 ok E L w) (B : Blk) : Place E L (L ++ [B]) L.length B :=
 ⟨h.fresh _ (Nat.le_refl _),by cases hy : E.y L.length with | none => rfl | some l => (have := h.yidlt hy; omega),by simp,fun i _ hi => List.getElem?_append_left hi,fun hw hB => hw.push' hB⟩
theorem Place.at {B0 : Nat} {w0 : World} {ok : Nat → Prop} {E : Env} {L : Heap} {w : World} (h : Mem B0 w0 ok E L w) {B : Blk} {id : Nat} (he : E id = none) (hy : E.y id = none) (hB : L[id]? = some B) : Place E L L id B :=
 ⟨he,hy,hB,fun _ _ _ => rfl,fun hw _ => hw⟩
theorem Mem.place {B0 : Nat} {w0 : World} {ok : Nat → Prop} {E : Env} {L L' : Heap} {id : Nat} {w : World} (h : Mem B0 w0 ok E L w) (c : Array Value) (e : TypeId) (B : Blk) (hp : Place E L L' id B)
  (h1 : ∀ x,x ∈ c.toList → x.oneCell' = true) (hc : CellsRep E w ok e c.toList B) :
  Mem B0 w0 ok (E.put id (w.heap.size,c.size)) L' (w.alloc (.cells c e)) ∧ Grow E w ok (E.put id (w.heap.size,c.size)) (w.alloc (.cells c e)) ok := by
 have g : Grow E w ok (E.put id (w.heap.size,c.size)) (w.alloc (.cells c e)) ok := ⟨fun i x hx => by
  have hne : i ≠ id := fun e => by rw [e,hp.e] at hx; cases hx
  simp [Env.put,hne,hx],fun _ hb => hb,fun b hb => heap_alloc_old w _ (h.okb b hb).1,fun _ _ hx => hx,.old fun b hb => heap_alloc_old w _ hb⟩
 refine ⟨⟨h.below.alloc h.b0 _,fun b hb => ⟨by have := (h.okb b hb).1; simp; omega,fun i m he => ?_⟩,fun i j b m m' hi hj => ?_,fun i b m he => ?_,by have := h.b0; simp; omega,hp.wf h.wf hc.len,h.gl.grow g,fun i l hy => ?_,h.yinj,h.yok⟩,g⟩
 ·by_cases hid : i = id
  ·simp [Env.put,hid] at he; have := (h.okb b hb).1; omega
  ·simp [Env.put,hid] at he; exact (h.okb b hb).2 i m he
 ·by_cases hid : i = id <;> by_cases hjd : j = id
  ·omega
  ·simp [Env.put,hid] at hi; simp [Env.put,hjd] at hj; have := h.lt hj; omega
  ·simp [Env.put,hid] at hi; simp [Env.put,hjd] at hj; have := h.lt hi; omega
  ·simp [Env.put,hid] at hi; simp [Env.put,hjd] at hj; exact h.inj i j b m m' hi hj
 ·by_cases hid : i = id
  ·simp [Env.put,hid] at he
   obtain ⟨rfl,rfl⟩ := he
   subst hid
   exact ⟨h.b0,c,e,B,heap_alloc_new w _,rfl,h1,hp.here,hc.grow g⟩
  ·simp [Env.put,hid] at he
   obtain ⟨h0,c',e',B',hb,hs,h1',hB,hc'⟩ := h.loc i b m he
   exact ⟨h0,c',e',B',(heap_alloc_old w _ (h.lt he)).trans hb,hs,h1',by rw [hp.old i hid (h.idlt he)]; exact hB,hc'.grow g⟩
 ·have hy : E.y i = some l := hy
  have hid : i ≠ id := fun e => by rw [e,hp.y] at hy; cases hy
  obtain ⟨h0,o,B',hl,hB,ho⟩ := h.obj i l hy
  exact ⟨h0,o,B',(heap_alloc_old w _ (h.ylt hy)).trans hl,by rw [hp.old i hid (h.yidlt hy)]; exact hB,ho.grow g⟩
theorem Rep.new {E : Env} {w' : World} {ok : Nat → Prop} {id b m : Nat} : Rep (E.put id (b,m)) w' ok (.pointer (some ⟨b,0,none⟩)) (.ptr id 0) :=
 .ptr (m := m) (by simp [Env.put])
end Go.Ev