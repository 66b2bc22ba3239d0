/-
 Calls that are known otherwise: functions whose result is new, so that what goes in stays local; and others that are given with what they leave.
-/
import Derived.Test.YthakkigkdhaihaaGreatDoorEzXD
set_option linter.unusedSimpArgs false
set_option linter.unusedVariables false
namespace Go.Ev
open Go Go.RowKit
variable {R : Type} {P : Program}
abbrev ExtTab (R : Type) := List (FuncId × (Own → List AV → Heap → (AV → Heap → Option R) → Option R))
def inlE (P : Program) (H : Hints) (ext : ExtTab R) (m : Nat) : Nat → Orc R
 | 0 => fun _ _ _ _ _ => none
 | n + 1 => fun ow t args L k =>
  match t with
  | .fn f =>
   match ext.lookup f with
   | some s => s ow args L k
   | none =>
    match H.inl.lookup f with
    | some (fn, fh) => funK P H.sp ow (inlE P H ext m n) m fh fn args L k
    | none => none
  | .yld id => roundK P H.sp ow (inlE P H ext m n) m id args L k
  | .qfn f =>
   match H.inl.lookup f with
   | some (fn, _) => funQ P H.sp ow (inlE P H ext m n) fn args L k
   | none => none
def ExtSem (P : Program) (f : FuncId) (s : Own → List AV → Heap → (AV → Heap → Option R) → Option R) : Prop :=
 ∀ ow args L k r, ow.base = L.length → ow.rd = true → s ow args L k = some r → ∃ v L', k v L' = some r ∧ Enters P f ∧ CallSem P ow f args L v L'
def ExtOk (P : Program) (ext : ExtTab R) : Prop := ∀ f s, ext.lookup f = some s → ExtSem P f s
theorem ExtOk.nil : ExtOk P ([] : ExtTab R) := fun f s h => by cases h
theorem ExtOk.cons {f : FuncId} {s : Own → List AV → Heap → (AV → Heap → Option R) → Option R} {ext : ExtTab R} (h : ExtSem P f s) (hr : ExtOk P ext) : ExtOk P ((f, s) :: ext) := fun g s' hl => by
 simp only [List.lookup] at hl
 split at hl
 ·rename_i e
  cases hl
  have : g = f := by simpa using e
  subst this
  exact h
 ·exact hr g s' hl
theorem Zxm {H : Hints} {ext : ExtTab R} (hsp : SpOk P H.sp) (hm : P.follows .mixedOrders = true) (hi : InlOk P H) (he : ExtOk P ext) {m : Nat} : ∀ n, OrOk P (inlE (R := R) P H ext m n)
 | 0 => fun ow t args L k r _ _ h => by cases h
 | n + 1 => fun ow t args L k r how hrd h => by
  simp only [inlE] at h
  cases t with
  | fn f =>
   simp only at h
   split at h
   ·rename_i s hl
    obtain ⟨v, L', hk, hs⟩ := he f s hl ow args L k r how hrd h
    exact ⟨v, L', hk, hs⟩
   ·split at h
    ·rename_i fn fh hl
     obtain ⟨hf, hen⟩ := hi f fn fh hl
     obtain ⟨v, L', hk, hcs⟩ := Z19p hsp hm (Zxm hsp hm hi he n) hf how hrd h
     exact ⟨v, L', hk, hen, hcs⟩
    ·cases h
  | yld id =>
   obtain ⟨v, L', hk, hcs⟩ := Z13e hsp hm (Zxm hsp hm hi he n) how hrd h
   exact ⟨v, L', hk, hcs⟩
  | qfn f =>
   simp only at h
   split at h
   ·rename_i fn fh hl
    obtain ⟨hf, hen⟩ := hi f fn fh hl
    obtain ⟨v, hk, hq⟩ := Z16c hsp (Zxm hsp hm hi he n) hf h
    exact ⟨v, L, hk, rfl, hen, hq⟩
   ·cases h
def FreshSem (P : Program) (f : FuncId) (ds : List D) (d : D) : Prop :=
 Enters P f ∧ ∀ {w : World} {ok : Nat → Prop} {vals : List Value}, (∀ b, ok b → b < w.heap.size) → GlOk w ok → RepDs w ok vals ds →
  Calls P f vals.toArray w (fun e w' => ∃ u, e = .returned u ∧ Below w.heap.size w w' ∧ RepD w' (fun b => w.heap.size ≤ b ∧ b < w'.heap.size) u d)
def fresh1 : AV → Bool
 | .d (.v _) => true
 | .d (.list 0 (some 0) []) => true
 | .sl _ _ _ _ _ => true
 | _ => false
def freshA : AV → Bool
 | .tup xs => xs.all fresh1
 | x => fresh1 x
def leaf1 : D → Bool
 | .v _ => true
 | _ => false
def leafs1 : D → Bool
 | .v _ => true
 | .list k _ cs => cs.all leaf1 && (k != 0 || cs.isEmpty)
 | _ => false
def leafs : D → Bool
 | .tup ds => ds.all leafs1
 | d => leafs1 d
def endF (v : AV) (L : Heap) : Option D := if freshA v = true then endV v L else none
theorem Z1dp {w w' : World} {ok ok' : Nat → Prop} {u : Value} {d : D} (hl : leaf1 d = true) (h : RepD w ok u d) : RepD w' ok' u d := by
 cases d <;> try cases hl
 cases h with
 | v h => exact .v h
theorem Z14u {B0 : Nat} {w0 : World} {ok ok' : Nat → Prop} {E : Env} {L : Heap} {w : World} {n : Nat} {x : AV} {d : D} {u : Value} (hf : fresh1 x = true) (hl : leafs1 d = true) (hv : viewD L n x = some d) (hM : Mem B0 w0 ok E L w) (h2 : ∀ id b m, E id = some (b, m) → ok' b) (hr : Rep E w ok u x) : RepD w ok' u d := by
 have hD : RepD w (fun b => ok b ∨ ok' b) u d := viewD_sound hv hM (fun b hb => .inl hb) (fun id b m he => .inr (h2 id b m he)) hr
 cases d with
 | v a => exact Z1dp rfl hD
 | list k cap cs =>
  have hl' : cs.all leaf1 = true ∧ (k = 0 → cs = []) := by
   simp only [leafs1, Bool.and_eq_true, Bool.or_eq_true, bne_iff_ne, List.isEmpty_iff] at hl
   exact ⟨hl.1, fun e => hl.2.resolve_left (fun q => q e)⟩
  have hcs : ∀ c, c ∈ cs → leaf1 c = true := fun c hc => List.all_eq_true.1 hl'.1 c hc
  have zero : ∀ {a : Option Addr}, u = .slice a 0 0 → RepD w ok' u (.list k cap cs) := fun {a} hu => by
   subst hu
   cases hD with
   | nil hc => exact .nil hc
   | list hb hn hcap h1 hcell hcs' =>
    have := hl'.2 rfl
    subst this
    refine .nil ?_
    cases cap with
    | none => exact .inl rfl
    | some q => exact .inr (by rw [hcap q rfl])
  cases x with
  | sl id off k' cap' sz =>
   cases hr with
   | sl he hn hcap hle hoff =>
    rename_i off' cp b m
    have hb' := h2 _ _ _ he
    cases hD with
    | nil hc => exact .nil hc
    | list hb hn hcap h1 hcell hcs' => exact .list hb' hn hcap h1 hcell fun j c hc => Z1dp (hcs c (List.mem_of_getElem? hc)) (hcs' j c hc)
   | slz hq => exact zero rfl
  | d dd =>
   cases hr with
   | d hr =>
    cases n with
    | zero => cases hv
    | succ n =>
     simp only [viewD] at hv
     cases hv
     have hz : k = 0 ∧ cap = some 0 ∧ cs = [] := by
      cases k with
      | succ k => exact Bool.noConfusion hf
      | zero =>
       cases cap with
       | none => exact Bool.noConfusion hf
       | some q =>
        cases q with
        | succ q => exact Bool.noConfusion hf
        | zero =>
         cases cs with
         | nil => exact ⟨rfl, rfl, rfl⟩
         | cons c r => exact Bool.noConfusion hf
     obtain ⟨rfl, rfl, rfl⟩ := hz
     cases hr with
     | nil hc => exact zero rfl
     | list hb hn hcap h1 hcell hcs' =>
      have := hcap 0 rfl
      subst this
      exact zero rfl
  | _ => cases hf
 | _ => cases hl
theorem Z1hp {B0 : Nat} {w0 : World} {ok ok' : Nat → Prop} {E : Env} {L : Heap} {w : World} {n : Nat} {x : AV} {d : D} {u : Value} (hf : freshA x = true) (hl : leafs d = true) (hv' : viewD L (n + 1) x = some d) (hM : Mem B0 w0 ok E L w) (h2 : ∀ id b m, E id = some (b, m) → ok' b) (hr : Rep E w ok u x) : RepD w ok' u d := by
 have one : ∀ {y : D}, y = d → (∀ ds, y ≠ .tup ds) → leafs1 d = true := fun {y} he hn => by
  subst he
  cases y <;> first | exact hl | exact absurd rfl (hn _)
 cases x with
 | tup xs =>
  simp only [viewD] at hv'
  obtain ⟨ds, hds, h3⟩ := Option.bind_eq_some_iff.1 hv'
  cases h3
  cases hr with
  | tup hlen hr =>
   obtain ⟨hl', hi⟩ := Zgc hds
   refine .tup (by omega) fun i y d hy hd => ?_
   have hlt : i < xs.length := by have := (List.getElem?_eq_some_iff.1 hd).1; omega
   have hx := List.getElem?_eq_getElem hlt
   exact Z14u (List.all_eq_true.1 hf _ (List.getElem_mem hlt)) (List.all_eq_true.1 hl _ (List.mem_of_getElem? hd)) (hi i _ d hx hd) hM h2 (hr i y _ hy hx)
 | sl id off k cap sz =>
  refine Z14u (x := .sl id off k cap sz) rfl (one rfl fun ds e => ?_) hv' hM h2 hr
  subst e
  have hD : RepD w (fun b => ok b ∨ ok' b) u (.tup ds) := viewD_sound hv' hM (fun b hb => .inl hb) (fun id b m he => .inr (h2 id b m he)) hr
  cases hr <;> cases hD
 | d dd =>
  refine Z14u (x := .d dd) hf (one rfl fun ds e => ?_) hv' hM h2 hr
  subst e
  simp only [viewD] at hv'
  cases hv'
  exact Bool.noConfusion hf
 | _ => exact Bool.noConfusion hf
theorem Z1ec {B0 : Nat} {w0 : World} {ok ok' : Nat → Prop} {E : Env} {L : Heap} {w : World} {x : AV} {d : D} {u : Value} (hf : freshA x = true) (hl : leafs d = true) (hv : endV x L = some d) (hM : Mem B0 w0 ok E L w) (h2 : ∀ id b m, E id = some (b, m) → ok' b) (hr : Rep E w ok u x) : RepD w ok' u d := by
 have hv' : viewD L (7 + 1) x = some d := by
  unfold endV at hv
  split at hv
  ·exact Bool.noConfusion hf
  ·rw [Ztf] at hv
   cases hq : viewD L 8 x <;> rw [hq] at hv <;> exact hv
 exact Z1hp hf hl hv' hM h2 hr
theorem Z1cq {H : Hints} (hsp : SpOk P H.sp) (hm : P.follows .mixedOrders = true) {or : Orc D} (hor : OrOk P or) {m : Nat} {fh : FnH} {f : FuncId} {fn : Func} (hf : P.funcs[f]? = some fn) (hen : Enters P f) {ds : List D} {d : D} (hlf : leafs d = true) (h : funK P H.sp ⟨0, [], false, H.mv⟩ or m fh fn (ds.map .d) [] endF = some d) : FreshSem P f ds d := by
 unfold funK at h
 cases hb : fn.body with
 | none => rw [hb] at h; cases h
 | some c =>
 rw [hb] at h
 simp only at h
 obtain ⟨e, st', c', hc', h1, hl, hs⟩ := Zl9 (base := ⟨0, [], false, H.mv⟩) hsp hm hor h
 cases hc'
 have fin : (e = .normal ∨ e = .ret) → (resK P st'.sl st'.L fn.results.toList fun vs => match vs with | [v] => endF v st'.L | vs => endF (mkTup vs) st'.L) = some d → FreshSem P f ds d := fun he h2 => by
  obtain ⟨vs, hk, hres⟩ := Zvy h2
  have hk' : endF (resA vs) st'.L = some d := by
   cases vs with
   | nil => exact hk
   | cons a r => cases r <;> exact hk
  unfold endF at hk'
  split at hk'
  case isFalse => cases hk'
  rename_i hfr
  refine ⟨hen, fun {w ok vals} hok hgl hv => ?_⟩
  have hM : Mem w.heap.size w ok Env.nil [] w := { below := Below.refl _ _, okb := fun b hb => ⟨hok b hb, fun id m he => nomatch he⟩, inj := fun i j b m m' hi => (nomatch hi), loc := fun id b m he => (nomatch he), b0 := Nat.le_refl _, wf := fun i B hB => by simp at hB, gl := hgl, obj := fun id l hy => (nomatch hy), yinj := fun i j l hi => (nomatch hi), yok := fun b _ id hy => (nomatch hy) }
  have hvr : ∀ (i : Nat) x a, vals[i]? = some x → (ds.map AV.d)[i]? = some a → Rep Env.nil w ok x a := fun i x a hx ha => by
   rw [List.getElem?_map] at ha
   cases hd : ds[i]? with
   | none => rw [hd] at ha; cases ha
   | some d => rw [hd] at ha; cases ha; exact .d (hv.2 i x d hx hd)
  have hS := Zry (fn := fn) (args := ds.map .d) hM (by simpa using hv.1) hvr
  refine Zrs (n := 0) (callsIn_of_wp_marks hf hb trivial ?_)
  refine hs (ro := none) (fun _ => rfl) hS _ fun ok' E' a' w' hS' g hd => ?_
  have post : LeavesInM (Fw none) 0 P fn a'.tmps (fun e w' => ∃ u, e = .returned u ∧ Below w.heap.size w w' ∧ RepD w' (fun b => w.heap.size ≤ b ∧ b < w'.heap.size) u d) a'.defers .returning w' := by
   refine Zmu (w1 := w') (fun w2 hb hs hc => ?_) _ _ hS'.defers hS'.mem.below rfl (fun _ _ h _ => h)
   have hM2 := hS'.mem.butMarks hb hs hc
   obtain ⟨us, hr, hrep⟩ := hres hM2 (fun t c hc' => (hS'.sl t c hc').cells hc)
   exact ⟨_, Zlg hr, _, rfl, hb, Z1ec hfr hlf hk' hM2 (fun id b m he => ⟨(hM2.loc id b m he).1, hM2.lt he⟩) (Z13d hrep)⟩
  rcases he with rfl | rfl
  ·exact post
  ·exact post
 unfold endK at h1
 cases e with
 | normal => exact fin (.inl rfl) h1
 | ret => exact fin (.inr rfl) h1
 | exit id => cases h1
 | goto l => cases h1
def funE (P : Program) (H : Hints) (ext : ExtTab D) (m n : Nat) (fh : FnH) (fn : Func) (ds : List D) : Option D :=
 funK P H.sp ⟨0, [], false, H.mv⟩ (inlE P H ext m n) m fh fn (ds.map .d) [] endV
theorem Z1cr {H : Hints} {ext : ExtTab D} (hsp : SpOk P H.sp) (hm : P.follows .mixedOrders = true) (hi : InlOk P H) (he : ExtOk P ext) {m n : Nat} {fh : FnH} {f : FuncId} {fn : Func} (hf : P.funcs[f]? = some fn) (hen : Enters P f) {ds : List D} {d : D} (h : funE P H ext m n fh fn ds = some d) : DataSem P f ds d := by
 unfold funE funK at h
 cases hb : fn.body with
 | none => rw [hb] at h; cases h
 | some c =>
 rw [hb] at h
 simp only at h
 obtain ⟨e, st', c', hc', h1, hl, hs⟩ := Zl9 (base := ⟨0, [], false, H.mv⟩) hsp hm (Zxm hsp hm hi he n) h
 cases hc'
 have fin : (e = .normal ∨ e = .ret) → (resK P st'.sl st'.L fn.results.toList fun vs => match vs with | [v] => endV v st'.L | vs => endV (mkTup vs) st'.L) = some d → DataSem P f ds d := fun he h2 => by
  obtain ⟨vs, hk, hres⟩ := Zvy h2
  have hk' : endV (resA vs) st'.L = some d := by
   cases vs with
   | nil => exact hk
   | cons a r => cases r <;> exact hk
  refine ⟨hen, fun {w ok vals} hok hgl hv => ?_⟩
  have hM : Mem w.heap.size w ok Env.nil [] w := { below := Below.refl _ _, okb := fun b hb => ⟨hok b hb, fun id m he => nomatch he⟩, inj := fun i j b m m' hi => (nomatch hi), loc := fun id b m he => (nomatch he), b0 := Nat.le_refl _, wf := fun i B hB => by simp at hB, gl := hgl, obj := fun id l hy => (nomatch hy), yinj := fun i j l hi => (nomatch hi), yok := fun b _ id hy => (nomatch hy) }
  have hvr : ∀ (i : Nat) x a, vals[i]? = some x → (ds.map AV.d)[i]? = some a → Rep Env.nil w ok x a := fun i x a hx ha => by
   rw [List.getElem?_map] at ha
   cases hd : ds[i]? with
   | none => rw [hd] at ha; cases ha
   | some d => rw [hd] at ha; cases ha; exact .d (hv.2 i x d hx hd)
  have hS := Zry (fn := fn) (args := ds.map .d) hM (by simpa using hv.1) hvr
  refine Zrs (n := 0) (callsIn_of_wp_marks hf hb trivial ?_)
  refine hs (ro := none) (fun _ => rfl) hS _ fun ok' E' a' w' hS' g hd => ?_
  have post : LeavesInM (Fw none) 0 P fn a'.tmps (fun e w' => ∃ u ok', e = .returned u ∧ Below w.heap.size w w' ∧ (∀ b, ok' b → b < w'.heap.size ∧ (ok b ∨ w.heap.size ≤ b)) ∧ RepD w' ok' u d) a'.defers .returning w' := by
   refine Zmu (w1 := w') (fun w2 hb hs hc => ?_) _ _ hS'.defers hS'.mem.below rfl (fun _ _ h _ => h)
   have hM2 := hS'.mem.butMarks hb hs hc
   obtain ⟨us, hr, hrep⟩ := hres hM2 (fun t c hc' => (hS'.sl t c hc').cells hc)
   exact ⟨_, Zlg hr, _, fun b => b < w2.heap.size ∧ (ok b ∨ w.heap.size ≤ b), rfl, hb, fun b hb => hb, Z16d hk' hM2 (fun b hb => ⟨(hM2.okb b hb).1, g.ext b hb⟩) (fun id b m he => ⟨hM2.lt he, .inr (hM2.loc id b m he).1⟩) (fun id l hy => ⟨hM2.ylt hy, .inr (hM2.obj id l hy).1⟩) (Z13d hrep)⟩
  rcases he with rfl | rfl
  ·exact post
  ·exact post
 unfold endK at h1
 cases e with
 | normal => exact fin (.inl rfl) h1
 | ret => exact fin (.inr rfl) h1
 | exit id => cases h1
 | goto l => cases h1
def frE (P : Program) (ty : TypeId) (s : List D → Option D) : Own → List AV → Heap → (AV → Heap → Option R) → Option R := fun _ args L k =>
 mapK (viewK L 8) args fun xs => (s xs).bind fun d => openK P ty d fun v => k v L
theorem frE_ok {g : FuncId} {ty : TypeId} {s : List D → Option D} (hs : ∀ ds d, s ds = some d → FreshSem P g ds d) : ExtSem P g (frE (R := R) P ty s) := fun ow args L k r _ _ h => by
 unfold frE at h
 rw [Z12x (Ztf 8)] at h
 obtain ⟨xs, hxs, h1⟩ := Option.bind_eq_some_iff.1 h
 obtain ⟨d, hd, h2⟩ := Option.bind_eq_some_iff.1 h1
 refine ⟨.d d, L, Zxv h2, (hs _ _ hd).1, fun {B0 w0 ok E w vals} hM hlen hr => ?_⟩
 have hvals : RepDs w (okAll w) vals xs := by
  obtain ⟨hl, hi⟩ := Zgc hxs
  refine ⟨by omega, fun i x d hx hxd => ?_⟩
  have hlt : i < args.length := by have := (List.getElem?_eq_some_iff.1 hxd).1; omega
  have ha := List.getElem?_eq_getElem hlt
  exact viewD_sound (hi i _ d ha hxd) hM (fun b hb => (hM.okb b hb).1) (fun id b m he => hM.lt he) (hr i x _ hx ha)
 refine ((hs _ _ hd).2 (w := w) (ok := okAll w) (fun b hb => hb) (hM.gl.mono (fun b hb => (hM.okb b hb).1) (fun _ _ => rfl)) hvals).mono ?_
 rintro e w' ⟨u, rfl, hb, hu⟩
 obtain ⟨hM', g, ext⟩ := hM.call (ok' := fun b => w.heap.size ≤ b ∧ b < w'.heap.size) hb (fun b hb => ⟨hb.2, .inr hb.1⟩)
 exact ⟨u, _, E, rfl, hM', .d (hu.mono (fun b hb => .inr hb) (fun _ _ => rfl)), Step.of g ext⟩
end Go.Ev