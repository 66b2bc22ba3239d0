/-
 Steps of a machine never take a draw back. No conditions.
-/
import Derived.Calls
set_option linter.unusedSimpArgs false
set_option linter.unusedVariables false
namespace Go.Ev
open Go
def resW {α : Type} : Result α → World
 | .ok _ w => w
 | .halt _ w => w
theorem Z1bv {α : Type} : ∀ (a : Ask α) (w : World), w.drawn ≤ (w.ask a).2.drawn
 | .done a, w => Nat.le_refl _
 | .ask what range k, w => by
  unfold World.ask
  dsimp only
  split
  ·exact Z1bv (k 0) w
  ·exact Nat.le_trans (Nat.le_succ _) (Z1bv (k _) { w with drawn := w.drawn + 1 })
theorem Z1k8 (w : World) (c : Sys) : w.drawn ≤ (w.sys c).2.drawn := by
 unfold World.sys
 have h := Z1bv (Kernel.perform c w.os) w
 split
 ·exact Nat.le_refl _
 ·rename_i heq
  rw [heq] at h
  exact h
theorem Z1gj (w : World) (a : Addr) (n : Nat) : (w.freeze a n).drawn = w.drawn := by
 unfold World.freeze
 split <;> rfl
theorem Z1bw {p : Program} {w w' : World} {at_ : Addr} {u : TypeId} {k : Addr} {v : Value} {b : Bool} {l : List Addr} (h : w.viewStore p at_ u k v b = .ok (w', l)) : w'.drawn = w.drawn := by
 unfold World.viewStore at h
 simp only [bind, Except.bind, pure, Except.pure, throw, throwThe, MonadExceptOf.throw] at h
 repeat' split at h
 all_goals first | (cases h; done) | (injection h with h; injection h with h1 h2; subst h1; rfl) | skip
theorem Z1dg {p : Program} {w w' : World} {a : Addr} {v : Value} {b : Bool} {l : List Addr} (h : w.farStore p a v b = .ok (w', l)) : w'.drawn = w.drawn := by
 unfold World.farStore at h
 split at h
 ·split at h
  ·rename_i r hr
   cases h
   exact Z1bw hr
  ·cases h
 ·cases h
theorem Z1u {α : Type} (p : Program) : ∀ (s : Sem α) (w : World), w.drawn ≤ (resW (s.run p w)).drawn
 | .pure a, w => Nat.le_refl _
 | .load m a k, w => by
  unfold Sem.run
  split
  ·exact Z1u p _ w
  ·split
   ·exact Z1u p _ w
   ·exact Nat.le_refl _
 | .store m a v k, w => by
  have other : ∀ (r : Result α), (match w.cell? a with
    | some _ => if w.frozen? a then .halt (.unsupported (.unsafePointer "a write to bytes that a string shares")) w else k.run p (w.setCell a v)
    | none => match w.farStore p a v (m == .atomic) with
     | .ok (w, _) => k.run p w
     | .error h => .halt h w) = r → w.drawn ≤ (resW r).drawn := by
   intro r hr
   subst hr
   split
   ·split
    ·exact Nat.le_refl _
    ·exact Z1u p k (w.setCell a v)
   ·split
    ·rename_i w' l hw
     have := Z1u p k w'
     rw [Z1dg hw] at this
     exact this
    ·exact Nat.le_refl _
  cases v <;> first | exact other _ rfl | exact Nat.le_refl _
 | .new o k, w => Z1u p (k w.heap.size) { w with heap := w.heap.push o }
 | .shape r k, w => Z1u p (k (w.shape? r)) w
 | .freeze a n k, w => by
  have := Z1u p k (w.freeze a n)
  rw [Z1gj] at this
  exact this
 | .frozen a k, w => Z1u p (k (w.frozen? a)) w
 | .getObj r k, w => by
  unfold Sem.run
  split
  ·exact Nat.le_refl _
  ·exact Z1u p _ w
  ·exact Nat.le_refl _
 | .setObj r o k, w => by
  unfold Sem.run
  split
  ·exact Nat.le_refl _
  ·exact Z1u p k { w with heap := w.heap.setIfInBounds r o }
  ·exact Nat.le_refl _
 | .choose q k, w => by
  unfold Sem.run
  split
  ·exact Z1u p _ w
  ·exact Nat.le_trans (Nat.le_succ _) (Z1u p (k _) { w with drawn := w.drawn + 1 })
 | .sys c k, w => Nat.le_trans (Z1k8 w c) (Z1u p (k (w.sys c).1) (w.sys c).2)
 | .program k, w => Z1u p (k p) w
 | .mark _ k, w => Z1u p k w
 | .halt h, w => Nat.le_refl _
termination_by structural s => s
end Go.Ev