/-
 Calls that are known otherwise: functions whose result is new, so that what goes in stays local; and others that are given with what they leave.
-/
import Derived.Test.YthakkigkdhaihaaGreatDoorEzXD
set_option linter.unusedSimpArgs false
set_option linter.unusedVariables false
namespace Go.Ev
open Go Go.RowKit
variable {R : Type} {P : Program}
abbrev ExtTab (R : Type) := List (FuncId × (Own → List AV → Heap → (AV → Heap → Option R) → Option R))
def inlE (P : Program) (H : Hints) (ext : ExtTab R) (m : Nat) : Nat → Orc R
 | 0 => fun _ _ _ _ _ => none
 | n + 1 => fun ow t args L k =>
  match t with
  | .fn f =>
   match ext.lookup f with
   | some s => s ow args L k
   | none =>
    match H.inl.lookup f with
    | some (fn, fh) => funK P H.sp ow (inlE P H ext m n) m fh fn args L k
    | none => none
  | .yld id => roundK P H.sp ow (inlE P H ext m n) m id args L k
  | .qfn f =>
   match H.inl.lookup f with
   | some (fn, _) => funQ P H.sp ow (inlE P H ext m n) fn args L k
   | none => none
def ExtSem (P : Program) (f : FuncId) (s : Own → List AV → Heap → (AV → Heap → Option R) → Option R) : Prop :=
 ∀ ow args L k r, ow.base = L.length → ow.rd = true → s ow args L k = some r → ∃ v L', k v L' = some r ∧ Enters P f ∧ CallSem P ow f args L v L'
def ExtOk (P : Program) (ext : ExtTab R) : Prop := ∀ f s, ext.lookup f = some s → ExtSem P f s
theorem ExtOk.nil : ExtOk P ([] : ExtTab R) := fun f s h => by cases h
theorem ExtOk.cons {f : FuncId} {s : Own → List AV → Heap → (AV → Heap → Option R) → Option R} {ext : ExtTab R} (h : ExtSem P f s) (hr : ExtOk P ext) : ExtOk P ((f, s) :: ext) := fun g s' hl => by
 simp only [List.lookup] at hl
 split at hl
 ·rename_i e
  cases hl
  have : g = f := by simpa using e
  subst this
  exact h
 ·exact hr g s' hl
theorem Z15x {H : Hints} {ext : ExtTab R} (hsp : SpOk P H.sp) (hm : P.follows .mixedOrders = true) (hi : InlOk P H) (he : ExtOk P ext) {m : Nat} : ∀ n, OrOk P (inlE (R := R) P H ext m n)
 | 0 => fun ow t args L k r _ _ h => by cases h
 | n + 1 => fun ow t args L k r how hrd h => by
  simp only [inlE] at h
  cases t with
  | fn f =>
   simp only at h
   split at h
   ·rename_i s hl
    obtain ⟨v, L', hk, hs⟩ := he f s hl ow args L k r how hrd h
    exact ⟨v, L', hk, hs⟩
   ·split at h
    ·rename_i fn fh hl
     obtain ⟨hf, hen⟩ := hi f fn fh hl
     obtain ⟨v, L', hk, hcs⟩ := Z1bm hsp hm (Z15x hsp hm hi he n) hf how hrd h
     exact ⟨v, L', hk, hen, hcs⟩
    ·cases h
  | yld id =>
   obtain ⟨v, L', hk, hcs⟩ := Z1bn hsp hm (Z15x hsp hm hi he n) how hrd h
   exact ⟨v, L', hk, hcs⟩
  | qfn f =>
   simp only at h
   split at h
   ·rename_i fn fh hl
    obtain ⟨hf, hen⟩ := hi f fn fh hl
    obtain ⟨v, hk, hq⟩ := Z1e2 hsp (Z15x hsp hm hi he n) hf h
    exact ⟨v, L, hk, rfl, hen, hq⟩
   ·cases h
def leaf1 : D → Bool
 | .v _ => true
 | _ => false
def funE (P : Program) (H : Hints) (ext : ExtTab D) (m n : Nat) (fh : FnH) (fn : Func) (ds : List D) : Option D :=
 funK P H.sp ⟨0, [], false, H.mv⟩ (inlE P H ext m n) m fh fn (ds.map .d) [] endV
theorem Zrd {H : Hints} {ext : ExtTab D} (hsp : SpOk P H.sp) (hm : P.follows .mixedOrders = true) (hi : InlOk P H) (he : ExtOk P ext) {m n : Nat} {fh : FnH} {f : FuncId} {fn : Func} (hf : P.funcs[f]? = some fn) (hen : Enters P f) {ds : List D} {d : D} (h : funE P H ext m n fh fn ds = some d) : DataSem P f ds d := by
 unfold funE funK at h
 cases hb : fn.body with
 | none => rw [hb] at h; cases h
 | some c =>
 rw [hb] at h
 simp only at h
 obtain ⟨e, st', c', hc', h1, hl, hs⟩ := Zvr (base := ⟨0, [], false, H.mv⟩) hsp hm (Z15x hsp hm hi he n) h
 cases hc'
 have fin : (e = .normal ∨ e = .ret) → (resK P st'.sl st'.L fn.results.toList fun vs => match vs with | [v] => endV v st'.L | vs => endV (mkTup vs) st'.L) = some d → DataSem P f ds d := fun he h2 => by
  obtain ⟨vs, hk, hres⟩ := Z1bl h2
  have hk' : endV (resA vs) st'.L = some d := by
   cases vs with
   | nil => exact hk
   | cons a r => cases r <;> exact hk
  refine ⟨hen, fun {w ok vals} hok hgl hv => ?_⟩
  have hM : Mem w.heap.size w ok Env.nil [] w := { below := Below.refl _ _, okb := fun b hb => ⟨hok b hb, fun id m he => nomatch he⟩, inj := fun i j b m m' hi => (nomatch hi), loc := fun id b m he => (nomatch he), b0 := Nat.le_refl _, wf := fun i B hB => by simp at hB, gl := hgl, obj := fun id l hy => (nomatch hy), yinj := fun i j l hi => (nomatch hi), yok := fun b _ id hy => (nomatch hy) }
  have hvr : ∀ (i : Nat) x a, vals[i]? = some x → (ds.map AV.d)[i]? = some a → Rep Env.nil w ok x a := fun i x a hx ha => by
   rw [List.getElem?_map] at ha
   cases hd : ds[i]? with
   | none => rw [hd] at ha; cases ha
   | some d => rw [hd] at ha; cases ha; exact .d (hv.2 i x d hx hd)
  have hS := Z15h (fn := fn) (args := ds.map .d) hM (by simpa using hv.1) hvr
  refine Z159 (n := 0) (callsIn_of_wp_marks hf hb trivial ?_)
  refine hs (ro := none) (fun _ => rfl) hS _ fun ok' E' a' w' hS' g hd => ?_
  have post : LeavesInM (Fw none) 0 P fn a'.tmps (fun e w' => ∃ u ok', e = .returned u ∧ Below w.heap.size w w' ∧ (∀ b, ok' b → b < w'.heap.size ∧ (ok b ∨ w.heap.size ≤ b)) ∧ RepD w' ok' u d) a'.defers .returning w' := by
   refine Z127 (w1 := w') (fun w2 hb hs hc => ?_) _ _ hS'.defers hS'.mem.below rfl (fun _ _ h _ => h)
   have hM2 := hS'.mem.butMarks hb hs hc
   obtain ⟨us, hr, hrep⟩ := hres hM2 (fun t c hc' => (hS'.sl t c hc').cells hc)
   exact ⟨_, Zy6 hr, _, fun b => b < w2.heap.size ∧ (ok b ∨ w.heap.size ≤ b), rfl, hb, fun b hb => hb, Z1e3 hk' hM2 (fun b hb => ⟨(hM2.okb b hb).1, g.ext b hb⟩) (fun id b m he => ⟨hM2.lt he, .inr (hM2.loc id b m he).1⟩) (fun id l hy => ⟨hM2.ylt hy, .inr (hM2.obj id l hy).1⟩) (Z1f1 hrep)⟩
  rcases he with rfl | rfl
  ·exact post
  ·exact post
 unfold endK at h1
 cases e with
 | normal => exact fin (.inl rfl) h1
 | ret => exact fin (.inr rfl) h1
 | exit id => cases h1
 | goto l => cases h1
end Go.Ev