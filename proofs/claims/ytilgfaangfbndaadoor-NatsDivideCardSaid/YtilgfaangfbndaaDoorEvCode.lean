/-
  The abstract evaluator, its second part: builtins, calls, regions, code, functions: in continuation form.
-/
import Derived.Test.YtilgfaangfbndaaDoorEvDef
import Derived.Orders
namespace Go.Ev
open Go

structure St where
  sl : List AV
  L : Heap

inductive Ex where
  | normal | exit (id : Nat) | goto (l : Nat) | ret

section
variable {R : Type}

def setSl (sl : List AV) : Option Tmp → AV → List AV
  | some d, v => sl.set d v
  | none, _ => sl

/-- The value that a skipped operation leaves. -/
def skipped : AV := .d (.tup [])

def kill (id : Nat) (sl : List AV) : List AV := sl.map fun x => if hasRef id x then .junk else x
def killB (id : Nat) : Blk → Blk
  | .a n cs => .a n (cs.map fun x => if hasRef id x then .junk else x)
  | x => x
def blkRef (id : Nat) : Blk → Bool
  | .a _ cs => cs.any (hasRef id)
  | _ => false

def lenK (P : Program) (t : TypeId) (x : AV) (k : AV → Option R) : Option R :=
  match P.underlying t with
  | some .string => match x with
    | .d (.v (.string s)) => k (.d (.v (.int .i64 s.size)))
    | _ => none
  | some (.slice _) => match x with
    | .d (.list n _ _) => k (.d (.v (.int .i64 n)))
    | .sl _ _ n _ _ => k (.d (.v (.int .i64 n)))
    | _ => none
  | _ => none
def capK (P : Program) (t : TypeId) (x : AV) (k : AV → Option R) : Option R :=
  match P.underlying t with
  | some (.slice _) => match x with
    | .d (.list _ (some c) _) => k (.d (.v (.int .i64 c)))
    | .sl _ _ _ (some c) _ => k (.d (.v (.int .i64 c)))
    | _ => none
  | _ => none

/-- The bytes of an array of the appended length: no memory refuses them. -/
abbrev fitsRow (n bytes : Nat) : Prop := n * bytes ≤ 140737488355328 ∧ n ≤ 9223372036854775807

def appendK (P : Program) (base : Nat) (t : TypeId) (sl : List AV) (s x : AV) (L : Heap) (k : List AV → AV → Heap → Option R) : Option R :=
  match P.underlying t with
  | some (.slice e) => (zerosOf P e).bind fun _ => (P.info? e).bind fun i =>
    srcK x L i.size fun m new =>
    match s with
    | .d (.list n cap cs) =>
      match cap with
      | some c =>
        if c = n then
          if m = 0 then k sl (.d (.list n cap cs)) L
          else if fitsRow (n + m) i.bytes ∧ cs.length = n * i.size ∧ new.length = m * i.size then
            k sl (.sl L.length 0 (n + m) none i.size) (L ++ [.d ((n + m) * i.size) (cs ++ new)])
          else none
        else none
      | none => none
    | .sl id off n (some c) sz =>
      if sz = i.size then
        match L[id]? with
        | some (.d b cs) =>
          if n + m ≤ c then
            if off + (n + m) * sz ≤ b ∧ new.length = m * sz then
              k sl (.sl id off (n + m) (some c) sz) (L.set id (.d b (cs.take (off + n * sz) ++ (new ++ cs.drop (off + (n + m) * sz)))))
            else none
          else if fitsRow (n + m) i.bytes ∧ new.length = m * sz then
            cut b cs off (n * sz) fun old =>
            k sl (.sl L.length 0 (n + m) none sz) (L ++ [.d ((n + m) * sz) (old ++ new)])
          else none
        | _ => none
      else none
    | .sl id off n none sz =>
      if sz = i.size ∧ off = 0 then
        match L[id]? with
        | some (.d b cs) =>
          if base ≤ id ∧ b = n * sz ∧ fitsRow (n + m) i.bytes ∧ new.length = m * sz then
            k (kill id sl) (.sl id 0 (n + m) none sz) ((L.map (killB id)).set id (.d ((n + m) * sz) (cs ++ new)))
          else none
        | _ => none
      else none
    | _ => none
  | _ => none

def copyK (P : Program) (t : TypeId) (s x : AV) (L : Heap) (k : AV → Heap → Option R) : Option R :=
  match P.underlying t with
  | some (.slice e) => (P.info? e).bind fun i =>
    srcK x L i.size fun m new =>
    match s with
    | .sl id off n _ sz =>
      if sz = i.size then
        match L[id]? with
        | some (.d b cs) =>
          if off + n * sz ≤ b ∧ new.length = m * sz then
            k (.d (.v (.int .i64 (Nat.min m n : Nat)))) (L.set id (.d b (cs.take off ++ (new.take (Nat.min m n * sz) ++ cs.drop (off + Nat.min m n * sz)))))
          else none
        | _ => none
      else none
    | _ => none
  | _ => none

def mm (mn : Bool) (a b : Int) : Int := if mn then (if b < a then b else a) else (if b > a then b else a)
def minmaxK (mn : Bool) : List AV → (AV → Option R) → Option R
  | [.d (.v (.int k a)), .d (.v (.int _ b))], g => g (.d (.v (.int k (mm mn a b))))
  | [.d (.v (.int k a)), .d (.v (.int _ b)), .d (.v (.int _ c))], g => g (.d (.v (.int k (mm mn (mm mn a b) c))))
  | _, _ => none

/-- What a call of a Go function comes to: asked of whoever knows it. -/
abbrev Orc (R : Type) := FuncId → List AV → Heap → (AV → Heap → Option R) → Option R

/-- Functions from data to data: what they answer. -/
abbrev SpTab := List (FuncId × (List D → Option D))

def mapO {α β : Type} (f : α → Option β) : List α → Option (List β)
  | [] => some []
  | x :: r => (f x).bind fun y => (mapO f r).bind fun ys => some (y :: ys)

/-- A value seen as data, its local slices read. -/
def viewD (L : Heap) : Nat → AV → Option D
  | 0, _ => none
  | n + 1, x =>
    match x with
    | .d x => some x
    | .sl id off len cap sz =>
      match L[id]? with
      | some (.d m cs) => cut m cs off (len * sz) fun r => some (.list len cap r)
      | some (.a m cs) => cut m cs off (len * sz) fun r => (mapO (viewD L n) r).bind fun ds => if ds.all D.one = true then some (.list len cap ds) else none
      | _ => none
    | .agg cs => (mapO (viewD L n) cs).bind fun ds => if ds.all D.one = true then some (.agg ds) else none
    | .tup cs => (mapO (viewD L n) cs).bind fun ds => some (.tup ds)
    | .clo f cs => (mapO (viewD L n) cs).bind fun ds => some (.fn f ds)
    | _ => none
def viewDs (L : Heap) (xs : List AV) : Option (List D) := mapO (viewD L 8) xs

/-- The same, handed on. -/
def mapK {α β : Type} (f : α → (β → Option R) → Option R) : List α → (List β → Option R) → Option R
  | [], k => k []
  | x :: r, k => f x fun y => mapK f r fun ys => k (y :: ys)
def viewK (L : Heap) : Nat → AV → (D → Option R) → Option R
  | 0, _, _ => none
  | n + 1, x, k =>
    match x with
    | .d x => k x
    | .sl id off len cap sz =>
      match L[id]? with
      | some (.d m cs) => cut m cs off (len * sz) fun r => k (.list len cap r)
      | some (.a m cs) => cut m cs off (len * sz) fun r => mapK (viewK L n) r fun ds => if ds.all D.one = true then k (.list len cap ds) else none
      | _ => none
    | .agg cs => mapK (viewK L n) cs fun ds => if ds.all D.one = true then k (.agg ds) else none
    | .tup cs => mapK (viewK L n) cs fun ds => k (.tup ds)
    | .clo f cs => mapK (viewK L n) cs fun ds => k (.fn f ds)
    | _ => none

def AV.isD : AV → Bool
  | .d _ => true
  | _ => false

/-- No address in any value of the type. -/
def scalarT (P : Program) (t : TypeId) : Bool :=
  match P.underlying t with
  | some (.int _) | some .bool | some .string => true
  | some (.tuple ts) => ts.toList.all fun t => match P.underlying t with
    | some (.int _) | some .bool | some .string => true
    | _ => false
  | _ => false

def rdA : Option D → Option (List D)
  | some (.agg cs) => some cs
  | _ => none
def rdT : D → Option (List D)
  | .tup ds => some ds
  | _ => none

/-- A value of a type, its shape laid open. -/
def open1 (P : Program) (t : TypeId) (x : Option D) (k : D → Option R) : Option R :=
  match P.underlying t with
  | some (.int kd) => (rdI kd x).bind fun i => k (.v (.int kd i))
  | some .bool => (rdB x).bind fun b => k (.v (.bool b))
  | some .string => (rdS x).bind fun s => k (.v (.string s))
  | some (.slice _) => (rdL x).bind fun s => k (.list s.n s.cap s.cs)
  | some (.func _ _ _) => (rdF x).bind k
  | some (.struct _) => (rdA x).bind fun cs => k (.agg cs)
  | some (.array _ _) => (rdA x).bind fun cs => k (.agg cs)
  | _ => none
def openL (P : Program) (ds : List D) : Nat → List TypeId → (List D → Option R) → Option R
  | _, [], k => k []
  | i, t :: ts, k => open1 P t ds[i]? fun x => openL P ds (i + 1) ts fun xs => k (x :: xs)
def openK (P : Program) (t : TypeId) (d : D) (k : AV → Option R) : Option R :=
  match P.underlying t with
  | some (.tuple ts) => (rdT d).bind fun ds => if ds.length = ts.size then openL P ds 0 ts.toList fun xs => k (.d (.tup xs)) else none
  | _ => open1 P t (some d) fun x => k (.d x)

def spK (P : Program) (ty : TypeId) (s : List D → Option D) (args : List AV) (ds : List D) (L : Heap) (k : AV → Option R) : Option R :=
  mapK (viewK L 8) args fun xs =>
    if (args.all AV.isD || scalarT P ty) = true then (s (xs ++ ds)).bind fun d => openK P ty d k else none

/-- The local slices among arguments: the numbers of their blocks. -/
def slIds : List AV → List Nat
  | [] => []
  | .sl id _ _ _ _ :: r => id :: slIds r
  | _ :: r => slIds r

/-- Data, or a local slice of data. -/
def frzOk (base : Nat) (L : Heap) : AV → Bool
  | .d _ => true
  | .sl id _ _ _ _ => Nat.ble base id && match L[id]? with
    | some (.d _ _) => true
    | _ => false
  | _ => false

def frzSl : List Nat → List AV → List AV
  | [], sl => sl
  | id :: r, sl => frzSl r (kill id sl)
def frzL : List Nat → Heap → Heap
  | [], L => L
  | id :: r, L => frzL r ((L.map (killB id)).set id .dead)

/-- Slots that lead into frozen blocks see what lies there. -/
def seeK (L : Heap) (ids : List Nat) : List AV → List AV → (List AV → Option R) → Option R
  | x :: xs, y :: ys, k =>
    match x with
    | .sl id off n cap sz =>
      if ids.elem id = true then
        match L[id]? with
        | some (.d m cs) => cut m cs off (n * sz) fun r => seeK L ids xs ys fun zs => k (.d (.list n cap r) :: zs)
        | _ => seeK L ids xs ys fun zs => k (y :: zs)
      else seeK L ids xs ys fun zs => k (y :: zs)
    | _ => seeK L ids xs ys fun zs => k (y :: zs)
  | _, ys, k => k ys

/-- A data call whose result may lead into its arguments: the local slices that go in are written no more. -/
def spF (P : Program) (base : Nat) (ty : TypeId) (s : List D → Option D) (args : List AV) (ds : List D) (sl : List AV) (L : Heap) (k : List AV → AV → Heap → Option R) : Option R :=
  mapK (viewK L 8) args fun xs =>
    if args.all (frzOk base L) = true then (s (xs ++ ds)).bind fun d => openK P ty d fun v => seeK L (slIds args) sl (frzSl (slIds args) sl) fun sl' => k sl' v (frzL (slIds args) L) else none

def callK (P : Program) (sp : SpTab) (base : Nat) (fz : Bool) (or : Orc R) (c : Call) (ty : TypeId) (sl : List AV) (L : Heap) (k : List AV → AV → Heap → Option R) : Option R :=
  match c.callee with
  | .builtin b =>
    match b, c.args.toList, c.argTypes.toList with
    | .len, [x], [t] => lenK P t (ev sl x) fun v => k sl v L
    | .cap, [x], [t] => capK P t (ev sl x) fun v => k sl v L
    | .append, [s, x], [t, t'] => if t = t' then appendK P base t sl (ev sl s) (ev sl x) L k else none
    | .copy, [s, x], [t, _] => copyK P t (ev sl s) (ev sl x) L (k sl)
    | .min, xs, _ => minmaxK true (xs.map (ev sl)) fun v => k sl v L
    | .max, xs, _ => minmaxK false (xs.map (ev sl)) fun v => k sl v L
    | _, _, _ => none
  | .value f =>
    match ev sl f with
    | .d (.fn g ds) =>
      match sp.lookup g with
      | some s =>
        if (fz && !((c.args.toList.map (ev sl)).all AV.isD || scalarT P ty)) = true then spF P base ty s (c.args.toList.map (ev sl)) ds sl L k
        else spK P ty s (c.args.toList.map (ev sl)) ds L fun v => k sl v L
      | none => or g (c.args.toList.map (ev sl) ++ ds.map .d) L (k sl)
    | .clo g cs => or g (c.args.toList.map (ev sl) ++ cs) L (k sl)
    | _ => none
  | _ => none

def opK (P : Program) (sp : SpTab) (base : Nat) (fz : Bool) (or : Orc R) (o : Oper) (sl : List AV) (L : Heap) (k : List AV → AV → Heap → Option R) : Option R :=
  match o.op with
  | .move x | .assign x => k sl (ev sl x) L
  | .pick c a b => (asB (ev sl c)).bind fun t => cond t (k sl (ev sl a) L) (k sl (ev sl b) L)
  | .alloc t => (zerosOf P t).bind fun z => k sl (.ptr L.length 0) (L ++ [.d z.1 z.2])
  | .box t x => (P.info? t).bind fun i => blkOf i.size (ev sl x) fun b => k sl (.ptr L.length 0) (L ++ [b])
  | .build t parts => (zerosOf P t).bind fun z =>
    match P.underlying t with
    | some (.struct fs) => (fs.toList.mapM fun f => (P.info? f.type).map fun i => (f.offset, i.size)).bind fun places => fillK z.1 (fun j => places.toArray[j]?) (z.2.map .d) (parts.toList.map fun p => (p.1, ev sl p.2)) fun cs => if cs.all AV.one then k sl (mkAgg cs) L else none
    | some (.array _ e) => (P.info? e).bind fun i => fillK z.1 (fun j => some (j * i.size, i.size)) (z.2.map .d) (parts.toList.map fun p => (p.1, ev sl p.2)) fun cs => if cs.all AV.one then k sl (mkAgg cs) L else none
    | _ => none
  | .buildSlice t len parts =>
    match P.underlying t with
    | some (.slice e) => (zerosOf P e).bind fun z =>
      if len * z.1 ≤ 2 ^ 24 ∧ 0 < z.1 then
        fillK (len * z.1) (fun j => some (j * z.1, z.1)) ((List.replicate len (z.2.map .d)).flatten) (parts.toList.map fun p => (p.1, ev sl p.2)) fun cs =>
          if cs.all AV.one then k sl (.sl L.length 0 len (some len) z.1) (L ++ [mkBlk (len * z.1) cs]) else none
      else none
    | _ => none
  | .load t a => loadK P t (ev sl a) L (k sl)
  | .store t a x => storeK P t (ev sl a) (ev sl x) L fun _ L' => k sl skipped L'
  | .nilCheck x =>
    match ev sl x with
    | .ptr id off => k sl (.ptr id off) L
    | .lp cs off => k sl (.lp cs off) L
    | .clo f cs => k sl (.clo f cs) L
    | .d (.fn f cs) => k sl (.d (.fn f cs)) L
    | _ => none
  | .binOp op t x y _ => binK P op t (ev sl x) (ev sl y) fun v => k sl v L
  | .unOp op _ x => unK op (ev sl x) fun v => k sl v L
  | .convert s d x => convK P s d (ev sl x) L (k sl)
  | .makeFunc (.func f) first captured =>
    if first.size = 0 then
      match allD (captured.toList.map (ev sl)) with
      | some ds => k sl (.d (.fn f ds)) L
      | none => k sl (.clo f (captured.toList.map (ev sl))) L
    else none
  | .makeSlice t n c =>
    match P.underlying t with
    | some (.slice e) => (zerosOf P e).bind fun z => (P.info? e).bind fun i => (asI (ev sl n)).bind fun n => (asI (ev sl c)).bind fun c =>
      if 0 ≤ n.2 ∧ n.2 ≤ c.2 ∧ fitsRow c.2.toNat i.bytes then
        k sl (.sl L.length 0 n.2.toNat (some c.2.toNat) z.1) (L ++ [.d (c.2.toNat * z.1) (List.replicate c.2.toNat z.2).flatten])
      else none
    | _ => none
  | .slice t x lo hi mx => sliceK P t (ev sl x) L (lo.map (ev sl)) (hi.map (ev sl)) (mx.map (ev sl)) fun v => k sl v L
  | .fieldAddr s x f => (fieldOf P s f).bind fun p =>
    match ev sl x with
    | .ptr id off => k sl (.ptr id (off + p.1)) L
    | .lp cs off => k sl (.lp cs (off + p.1)) L
    | _ => none
  | .field s x f => fieldK P s (ev sl x) f fun v => k sl v L
  | .indexAddr t x i => indexAddrK P t (ev sl x) (ev sl i) fun v => k sl v L
  | .index t x i => indexK P t (ev sl x) (ev sl i) fun v => k sl v L
  | .extract t i =>
    match ev sl t with
    | .d (.tup ds) => (ds[i]?).bind fun d => k sl (.d d) L
    | .tup ds => (ds[i]?).bind fun d => k sl d L
    | _ => none
  | .call c => callK P sp base fz or c o.type sl L k
  | _ => none

/-- Operations one after another; a guard's outcome is written into its slot where it is known. -/
def opsK (P : Program) (sp : SpTab) (base : Nat) (fz : Bool) (or : Orc R) (ops : Array Oper) : List Oper → St → (St → Option R) → Option R
  | [], st, k => k st
  | o :: rest, st, k =>
    let run (st : St) : Option R := opK P sp base fz or o st.sl st.L fun sl v L => opsK P sp base fz or ops rest ⟨setSl sl o.dst v, L⟩ k
    let skip (st : St) : Option R := opsK P sp base fz or ops rest ⟨setSl st.sl o.dst skipped, st.L⟩ k
    match o.guard with
    | none => run st
    | some (j, want) =>
      (ops[j]?).bind fun g => g.dst.bind fun d =>
      match st.sl[d]? with
      | some (.d (.v (.bool b))) =>
        cond b (cond want (run ⟨st.sl.set d (.d (.v (.bool true))), st.L⟩) (skip ⟨st.sl.set d (.d (.v (.bool true))), st.L⟩))
          (cond want (skip ⟨st.sl.set d (.d (.v (.bool false))), st.L⟩) (run ⟨st.sl.set d (.d (.v (.bool false))), st.L⟩))
      | some (.d (.tup [])) => skip st
      | _ => none

/-- The number of the first region. -/
def firstRegion : Code → Nat
  | .region id _ _ => id
  | .seq a _ => firstRegion a
  | .block _ c => firstRegion c
  | .loop c => firstRegion c
  | .scope c => firstRegion c
  | _ => 0

abbrev CO (R : Type) := St → (Ex → St → Option R) → Option R

def litB (sl : List AV) : Operand → Bool → List AV
  | .tmp t, b => sl.set t (.d (.v (.bool b)))
  | _, _ => sl

/-! ### Reordered regions -/
/-- The operations that may run in any order: they read, and make values. -/
def quietOp (sp : SpTab) : Op → Bool
  | .move _ | .assign _ | .pick _ _ _ | .load _ _ | .nilCheck _ | .binOp _ _ _ _ _ | .unOp _ _ _ | .convert _ _ _ | .slice _ _ _ _ _ | .fieldAddr _ _ _ | .field _ _ _ | .indexAddr _ _ _ | .index _ _ _ | .extract _ _ | .build _ _ => true
  | .makeFunc (.func _) _ _ => true
  | .call c =>
    match c.callee with
    | .builtin .len | .builtin .cap | .builtin .min | .builtin .max => true
    | .value (.func g) => (sp.lookup g).isSome
    | _ => false
  | _ => false

/-- Those that look at their operands alone. -/
def pureOp : Op → Bool
  | .move _ | .assign _ | .pick _ _ _ | .nilCheck _ | .binOp _ _ _ _ _ | .unOp _ _ _ | .fieldAddr _ _ _ | .field _ _ _ | .indexAddr _ _ _ | .index _ _ _ | .extract _ _ => true
  | _ => false
/-- Those that write. -/
def effOp : Op → Bool
  | .store _ _ _ => true
  | _ => false

/-- The ancestors of each operation, as bits. -/
def ancs : List Oper → List Nat → List Nat
  | [], acc => acc
  | o :: rest, acc => ancs rest (acc ++ [o.after.toList.foldl (fun s e => if Region.binds .any e then s ||| 2 ^ e.on ||| acc.getD e.on 0 else s) 0])

def pairsOk (ops : Array Oper) (as : List Nat) : Bool :=
  (List.range ops.size).all fun j => (List.range j).all fun i =>
    (as.getD j 0).testBit i || match ops[i]?, ops[j]? with
      | some x, some y => Oper.apart ops x y
      | _, _ => true

def backOk (ops : Array Oper) : Bool :=
  (List.range ops.size).all fun j => match ops[j]? with
    | some o => o.after.all fun e => !Region.binds .any e || decide (e.on < j)
    | none => true

/-- Writes are bound to whatever looks at the memory. -/
def effsOk (ops : Array Oper) (as : List Nat) : Bool :=
  (List.range ops.size).all fun j => (List.range j).all fun i =>
    (as.getD j 0).testBit i || match ops[i]?, ops[j]? with
      | some x, some y => (!effOp x.op || pureOp y.op) && (!effOp y.op || pureOp x.op)
      | _, _ => true

def drawOk (sp : SpTab) (ops : Array Oper) : Bool :=
  ops.toList.all (fun o => quietOp sp o.op || effOp o.op) && backOk ops && pairsOk ops (ancs ops.toList []) && effsOk ops (ancs ops.toList [])

/-! ### Masks: what is still of use -/
structure Mask where
  keep : List Bool
  prom : List (Nat × Nat)
  top : Option Nat := none
/-- How many blocks stay. -/
def topOf (M : Mask) (base : Nat) (L : Heap) : Nat := match M.top with
  | none => L.length
  | some t => base + t

def keepSl : List Bool → List AV → List AV
  | true :: ks, x :: xs => x :: keepSl ks xs
  | false :: ks, _ :: xs => .junk :: keepSl ks xs
  | [], xs => xs.map fun _ => .junk
  | _, [] => []

/-- Does a value lead to blocks below 'm' alone? -/
def refsLt (m : Nat) : AV → Bool
  | .ptr i _ => decide (i < m)
  | .sl i _ _ _ _ => decide (i < m)
  | .agg cs => refsLts m cs
  | .tup cs => refsLts m cs
  | .clo _ cs => refsLts m cs
  | _ => true
where refsLts (m : Nat) : List AV → Bool
  | [] => true
  | x :: r => refsLt m x && refsLts m r
def blkLt (m : Nat) : Blk → Bool
  | .a _ cs => cs.all (refsLt m)
  | _ => true

/-- Slices of blocks from 'm' on: seen as data from now on. -/
def frzK (m : Nat) (L : Heap) : List AV → (List AV → Option R) → Option R
  | [], k => k []
  | x :: r, k =>
    match x with
    | .sl id off n cap sz =>
      if Nat.ble m id = true then
        match L[id]? with
        | some (.d b cs) => cut b cs off (n * sz) fun q => frzK m L r fun ys => k (.d (.list n cap q) :: ys)
        | _ => none
      else frzK m L r fun ys => k (.sl id off n cap sz :: ys)
    | x => frzK m L r fun ys => k (x :: ys)

/-- Forget what is of no use: all slots but those kept, all blocks from 'm' on. -/
def maskK (keep : List Bool) (base m : Nat) (st : St) (k : St → Option R) : Option R :=
  frzK m st.L (keepSl keep st.sl) fun sl =>
    let L := st.L.take m
    if (Nat.ble base m && (sl.all (refsLt m) && L.all (blkLt m))) = true then k ⟨sl, L⟩ else none

/-- A nil slice as a local slice that grows. -/
def promK : List (Nat × Nat) → St → (St → Option R) → Option R
  | [], st, k => k st
  | (t, sz) :: r, st, k =>
    match st.sl[t]? with
    | some (.d (.list 0 (some 0) [])) => promK r ⟨st.sl.set t (.sl st.L.length 0 0 none sz), st.L ++ [.d 0 []]⟩ k
    | _ => promK r st k

/-- A loop: at most so many rounds. -/
def loopIter (keep : List Bool) (base m : Nat) (body : CO R) : Nat → CO R
  | 0, _, _ => none
  | n + 1, st, k => body st fun e st' => match e with
    | .normal => maskK keep base m st' fun st'' => loopIter keep base m body n st'' k
    | e => k e st'

structure FnH where
  loops : List (Nat × Mask)
  cuts : List (Nat × Mask)

structure Hints where
  sp : SpTab
  inl : List (FuncId × Func × FnH)

/-- A mark at which two texts are held against each other. -/
def cutK (x : Option R) : Option R := x

def codeK (P : Program) (sp : SpTab) (base : Nat) (or : Orc R) (m : Nat) (fh : FnH) : Code → CO R
  | .skip, st, k => k .normal st
  | .label _, st, k => k .normal st
  | .ret, st, k => k .ret st
  | .exit id, st, k => k (.exit id) st
  | .seq a b, st, k => codeK P sp base or m fh a st fun e st' => match e with
    | .normal => match fh.cuts.lookup (firstRegion b) with
      | some M => promK M.prom st' fun st' => maskK M.keep base (topOf M base st'.L) st' fun st' => cutK (codeK P sp base or m fh b st' k)
      | none => codeK P sp base or m fh b st' k
    | e => k e st'
  | .region _ ops draw, st, k =>
    if draw then (if drawOk sp ops then opsK P sp base false or ops ops.toList st fun st' => k .normal st' else none)
    else opsK P sp base true or ops ops.toList st fun st' => k .normal st'
  | .cond c x y, st, k =>
    match ev st.sl c with
    | .d (.v (.bool b)) => cond b (codeK P sp base or m fh x ⟨litB st.sl c true, st.L⟩ k) (codeK P sp base or m fh y ⟨litB st.sl c false, st.L⟩ k)
    | _ => none
  | .block id body, st, k => codeK P sp base or m fh body st fun e st' => match e with
    | .exit i => if i = id then k .normal st' else k (.exit i) st'
    | e => k e st'
  | .loop body, st, k =>
    match fh.loops.lookup (firstRegion body) with
    | some M => promK M.prom st fun st1 => maskK M.keep base (topOf M base st1.L) st1 fun st2 => loopIter M.keep base (topOf M base st1.L) (codeK P sp base or m fh body) m st2 k
    | none => none
  | _, _, _ => none

/-- What is still to do, as data: behind the code that runs. -/
inductive Itm where
  | code (c : Code)
  | block (id : Nat)
  | loop (keep : List Bool) (mm : Nat) (body : Code) (n : Nat)

def contK (P : Program) (sp : SpTab) (base : Nat) (or : Orc R) (m : Nat) (fh : FnH) (k : Ex → St → Option R) : List Itm → Ex → St → Option R
  | [] => k
  | .code b :: s => fun e st' => match e with
    | .normal => match fh.cuts.lookup (firstRegion b) with
      | some M => promK M.prom st' fun st' => maskK M.keep base (topOf M base st'.L) st' fun st' => cutK (codeK P sp base or m fh b st' (contK P sp base or m fh k s))
      | none => codeK P sp base or m fh b st' (contK P sp base or m fh k s)
    | e => contK P sp base or m fh k s e st'
  | .block id :: s => fun e st' => match e with
    | .exit i => if i = id then contK P sp base or m fh k s .normal st' else contK P sp base or m fh k s (.exit i) st'
    | e => contK P sp base or m fh k s e st'
  | .loop keep mm body n :: s => fun e st' => match e with
    | .normal => maskK keep base mm st' fun st'' => loopIter keep base mm (codeK P sp base or m fh body) n st'' (contK P sp base or m fh k s)
    | e => contK P sp base or m fh k s e st'

/-- A part of code. -/
def subc : List Nat → Code → Code
  | [], c => c
  | 0 :: p, .seq a _ => subc p a
  | _ :: p, .seq _ b => subc p b
  | 0 :: p, .cond _ a _ => subc p a
  | _ :: p, .cond _ _ b => subc p b
  | _ :: p, .block _ c => subc p c
  | _ :: p, .loop c => subc p c
  | _, c => c
def bodyOf (fn : Func) : Code := fn.body.getD .skip

def regOps : Code → Array Oper
  | .region _ ops _ => ops
  | _ => #[]

/-- The results of a function. -/
def resK (P : Program) (sl : List AV) (L : Heap) : List ResultVar → (List AV → Option R) → Option R
  | [], k => k []
  | .tmp t :: r, k => resK P sl L r fun vs => k (sl.getD t .junk :: vs)
  | .cell a t :: r, k => loadK P t (sl.getD a .junk) L fun v _ => resK P sl L r fun vs => k (v :: vs)

/-- What follows a function's code. -/
def endK (P : Program) (fn : Func) (k : AV → Heap → Option R) : Ex → St → Option R := fun e st =>
  match e with
  | .normal | .ret => resK P st.sl st.L fn.results.toList fun vs =>
    match vs with
    | [v] => k v st.L
    | vs => k (mkTup vs) st.L
  | _ => none

def funK (P : Program) (sp : SpTab) (or : Orc R) (m : Nat) (fh : FnH) (fn : Func) (args : List AV) (L : Heap) (k : AV → Heap → Option R) : Option R :=
  match fn.body with
  | none => none
  | some c =>
    codeK P sp L.length or m fh c ⟨args ++ List.replicate (fn.ntmps - args.length) .junk, L⟩ (endK P fn k)

/-- The functions that are walked where they are called. -/
def inlK (P : Program) (H : Hints) (m : Nat) : Nat → Orc R
  | 0 => fun _ _ _ _ => none
  | n + 1 => fun f args L k =>
    match H.inl.lookup f with
    | some (fn, fh) => funK P H.sp (inlK P H m n) m fh fn args L k
    | none => none

/-- A function from data to data: rounds, depth. -/
def funD (P : Program) (H : Hints) (m n : Nat) (fh : FnH) (fn : Func) (ds : List D) : Option D :=
  funK P H.sp (inlK P H m n) m fh fn (ds.map .d) [] fun v L => viewK L 8 v some

end
end Go.Ev
