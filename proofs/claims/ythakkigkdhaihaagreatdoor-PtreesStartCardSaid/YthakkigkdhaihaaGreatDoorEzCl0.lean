/-
 slices.Clone of a slice without elements, nil or not: what comes back is without elements and room.
-/
import Derived.Shelf.SlicesE.Clone
import Derived.Test.YthakkigkdhaihaaGreatDoorEzXB
set_option linter.unusedVariables false
namespace Go.Proofs
open Go.Shelf Go.RowKit Go.Lib
variable {P : Program} {ρ : Ren}
theorem Z1c4 {size : Nat} {a : Option Addr} {c : Nat} {w : World} : (Builtin.firstCells size 0 (.slice a 0 c)).run P w = .ok #[] w := by
 cases a <;> simp [Builtin.firstCells, loadCells, loadCellsFrom]
theorem Z160 {P : Program} {w : World} {ops : Array Oper} {rest : List Oper} {o : Oper} {a : Act} {Q : Exit → Act → World → Prop} (hgd : o.guard = none) (s x : Operand) (t : TypeId)
  (ho : o.op = .call { callee := .builtin .append, args := #[s, x], argTypes := #[t, t] })
  (e : TypeId) (i : TypeInfo) (ht : P.underlying t = some (.slice e)) (hi : P.info? e = some i) (b b' : Option Addr) (c' : Nat)
  (hs : a.eval s = .slice b 0 0) (hx : a.eval x = .slice b' 0 c')
  (h : wpList P ops Q rest (a.put o.dst (.slice b 0 0)) w) : wpList P ops Q (o :: rest) a w := by
 refine wpList_plain hgd fun K hK => ?_
 have hrun := Go.Ev.run_append_zero (P := P) (w := w) (ty := o.type) ht hi (s := b) (sLen := 0) (sCap := 0) (a := b') (c := c') (Nat.le_refl _) Z1c4
 unfold Oper.wp
 simp [execOp, ho, resolve, invoke, builtin, hs, hx, hrun, Result.andThen]
 exact hK _ _ h
set_option maxRecDepth 100000 in
theorem Z1j9 (L : SlLaysE0.n41 P ρ) (i0 : TypeInfo) (hi : P.info? (ρ.t 23) = some i0) {size : Nat} (z23 : ∀ w, (Go.sizeOf (ρ.t 23)).run P w = .ok size w)
  (a : Addr) (c : Nat) (w : World) :
  Calls P (ρ.f 41) #[.slice (some a) 0 c] w fun e w' => ∃ a', e = .returned (.slice a' 0 0) ∧ Below w.heap.size w w' := by
 have mixed := L.mixed; have t4 := L.t4; have a4 := L.a4; have z4 := L.z4; have v4 := L.v4; have t22 := L.t22; have a22 := L.a22; have z22 := L.z22; have v22 := L.v22
 have q22 : ∀ (w : World) (a : Option Addr) (n c n' c' : Nat), (binOp .eql (ρ.t 22) (.slice a n c) (.slice none n' c')).run P w = .ok (.bool a.isNone) w := fun w a n c n' c' => Lib.run_eql_slice_nil w _ _ a n c n' c' L.t22
 have u22 : ∀ w, Sem.run P (underlying (ρ.t 22)) w = .ok (TypeDesc.slice (ρ.t 23)) w := run_underlying t22
 obtain ⟨_, _, FG⟩ := L.f41
 go_enter FG, SlBodyN.n41_ntmps ρ
 go_wp2_with (at_builtin; refine Z160 rfl _ _ (ρ.t 22) rfl (ρ.t 23) i0 t22 hi (some ⟨w.heap.size, 0, none⟩) (some a) c rfl rfl ?_)
 go_wp2
 go_ret
 exact ⟨_, rfl, (Below.refl _ w).alloc (Nat.le_refl _) _⟩
end Go.Proofs