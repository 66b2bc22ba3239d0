/-
 slices.Clone as a call that is known otherwise: of a slice without elements by the shelf's contract, of others by the evaluator.
-/
import Derived.Test.YthakkigkdhaihaaGreatDoorEzFr
import Derived.Test.YthakkigkdhaihaaGreatDoorEzCl0
set_option linter.unusedVariables false
namespace Go.Ev
open Go Go.RowKit
variable {R : Type} {P : Program}
def cloneE (P : Program) (fn : Func) : Own → List AV → Heap → (AV → Heap → Option R) → Option R := fun ow args L k =>
 match args with
 | [.d (.list n cap cs)] => if n = 0 then k (.d (.list 0 (some 0) [])) L else funK P [] ow (fun _ _ _ _ _ => none) 0 ⟨[], []⟩ fn [.d (.list n cap cs)] L k
 | _ => none
open Go.Proofs Go.Shelf in
theorem Z1kd {ρ : Ren} (L41 : SlLaysE0.n41 P ρ) {i0 : TypeInfo} (hi : P.info? (ρ.t 23) = some i0) {size : Nat} (z23 : ∀ w, (Go.sizeOf (ρ.t 23)).run P w = .ok size w) {f : FuncId} {fn : Func} (hf : ρ.f 41 = f) (hfn : P.funcs[f]? = some fn) (hen : Enters P f) (hm : P.follows .mixedOrders = true) :
  ExtSem P f (cloneE (R := R) P fn) := by
 subst hf
 intro ow args Lh k r hb hrd h
 unfold cloneE at h
 split at h
 case h_2 => cases h
 rename_i n cap cs
 split at h
 ·rename_i h0
  subst h0
  refine ⟨_, _, h, hen, fun {B0 w0 ok E w vals} hM hlen hr => ?_⟩
  obtain ⟨u1, rfl⟩ : ∃ u1, vals = [u1] := by
   match vals, hlen with
   | [u1], _ => exact ⟨u1, rfl⟩
  have r1 := hr 0 u1 _ rfl rfl
  obtain ⟨a, cp, rfl⟩ : ∃ a cp, u1 = .slice a 0 cp := by
   cases r1 with
   | d r1 =>
    cases r1 with
    | nil hc0 => exact ⟨_, _, rfl⟩
    | list hb hn hcap h1 hcell hrep => exact ⟨_, _, rfl⟩
  have fin : Calls P (ρ.f 41) #[.slice a 0 cp] w fun e w' => ∃ a', e = .returned (.slice a' 0 0) ∧ Below w.heap.size w w' := by
   cases a with
   | none => exact (AnyE.slices_Clone_nil L41 0 cp w).mono fun e w' ⟨he, hw⟩ => ⟨none, he, hw ▸ Below.refl _ _⟩
   | some a => exact Z1j9 L41 i0 hi z23 a cp w
  refine fin.mono ?_
  rintro e w' ⟨a', rfl, hbl⟩
  obtain ⟨hM', g, ext⟩ := hM.call (ok' := fun _ => False) hbl (fun b hb => hb.elim)
  exact ⟨_, _, E, rfl, hM', .d (.nil (.inr rfl)), Step.of g ext⟩
 ·obtain ⟨v, L', hk, hs⟩ := Z1bm (f := ρ.f 41) (sp := []) (fun f s ds d hl _ => by cases hl) hm (fun ow t args L k r _ _ h => by cases h) hfn hb hrd h
  exact ⟨v, L', hk, hen, hs⟩
end Go.Ev