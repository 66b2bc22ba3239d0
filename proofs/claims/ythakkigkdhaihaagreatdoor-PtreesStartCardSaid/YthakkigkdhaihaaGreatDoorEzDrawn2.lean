/-
 Steps of a machine never take a draw back: its parts. No conditions.
-/
import Derived.Test.YthakkigkdhaihaaGreatDoorEzDrawn
import Derived.Lone
import Derived.RunT
set_option linter.unusedSimpArgs false
set_option linter.unusedVariables false
set_option maxHeartbeats 4000000
namespace Go.Ev
open Go
theorem run_ok {α : Type} {p : Program} {s : Sem α} {w w' : World} {a : α} (h : s.run p w = .ok a w') : w.drawn ≤ w'.drawn := by
 have := Z1u p s w
 rw [h] at this
 exact this
theorem Z1io {α : Type} {p : Program} {s : Sem α} {w w' : World} {a : Halt} (h : s.run p w = .halt a w') : w.drawn ≤ w'.drawn := by
 have := Z1u p s w
 rw [h] at this
 exact this
theorem runT_d {α : Type} {p : Program} {s : Sem α} {w : World} {es es' : Array Event} {r : Result α} (h : s.runT p w es = (r, es')) : w.drawn ≤ (resW r).drawn := by
 have := Z1u p s w
 rw [← Sem.runT_fst p s w es, h] at this
 exact this
def gsW : GStep → Option World
 | .go _ w _ => some w
 | .comm _ _ _ _ w _ => some w
 | .spawn _ _ w _ => some w
 | .count _ w _ => some w
 | .timer _ _ w _ => some w
 | .alone _ _ w _ => some w
 | .newcoro _ _ _ w _ => some w
 | .coroswitch _ _ _ w _ => some w
 | .collect _ w _ => some w
 | .watch _ w _ => some w
 | .ended _ _ _ => none
def DrUp (w : World) (s : GStep) : Prop := ∀ w', gsW s = some w' → w.drawn ≤ w'.drawn
theorem Z1k9 (es : Array Event) (s : GStep) : gsW (s.after es) = gsW s := by cases s <;> rfl
theorem Zt3 {w : World} {es : Array Event} {s : GStep} (h : DrUp w s) : DrUp w (s.after es) := by
 unfold DrUp; rw [Z1k9]; exact h
theorem up_of {w w1 : World} {s : GStep} (h : gsW s = some w1 ∨ gsW s = none) (hd : w.drawn ≤ w1.drawn) : DrUp w s := fun w' hw => by
 rcases h with h | h <;> rw [h] at hw <;> cases hw
 exact hd
theorem Zj8 {w w1 : World} {s : GStep} (hd : w.drawn ≤ w1.drawn) (h : DrUp w1 s) : DrUp w s := fun w' hw => Nat.le_trans hd (h w' hw)
theorem Z27 {w w1 : World} {o : Outcome} {es : Array Event} : DrUp w (.ended o w1 es) := fun w' hw => by cases hw
theorem up_ite {w : World} {c : Prop} [Decidable c] {a b : GStep} (ha : DrUp w a) (hb : DrUp w b) : DrUp w (if c then a else b) := by split <;> assumption
theorem Z1j5 {w1 w : World} {fd : Nat} {text : ByteArray} {o : Outcome} : DrUp w1 (endWith w fd text o) := by
 unfold endWith
 dsimp only
 repeat' first | exact Z27 | refine up_ite ?_ ?_ | split
theorem Z1aw {fr : Frame} {ahead : List ByteArray} {m : String} {whole : Bool} {w : World} : DrUp w (dieOf fr ahead m whole w) := by
 unfold dieOf
 dsimp only
 repeat' first | exact Z27 | exact up_of (.inl rfl) (Nat.le_refl _) | refine up_ite ?_ ?_ | split
theorem up_endThrow {fr : Frame} {m : String} {w : World} : DrUp w (endThrow fr m w) := Z1aw
theorem Z14c {p : Program} {fr : Frame} {v : Value} {w : World} : DrUp w (endPrinting p fr v w) := by
 unfold endPrinting
 dsimp only
 repeat' first | exact Z27 | exact up_endThrow | refine up_ite ?_ ?_ | split
theorem Z1bx {p : Program} {fr : Frame} {callers : List Frame} {dying : Option Dying} {m : String} {w : World} : DrUp w (endFatal p fr callers dying m w) := by
 unfold endFatal
 dsimp only
 repeat' first
  | exact Z27
  | exact Z1aw
  | (refine Zj8 (run_ok (by assumption)) Z1aw)
  | (refine Zj8 (Z1io (by assumption)) Z1aw)
  | refine up_ite ?_ ?_
  | split
theorem Z1j6 {p : Program} {fr : Frame} {d : Dying} {f : Fatal} {w : World} : DrUp w (writeOn p fr d f w) := by
 unfold writeOn
 dsimp only
 repeat' first
  | exact Z27
  | exact up_of (.inl rfl) (runT_d (by assumption))
  | refine up_ite ?_ ?_
  | split
theorem Z14r {p : Program} {main : Bool} {fr : Frame} {callers : List Frame} {dying : Option Dying} {v : Value} {w : World} : DrUp w (doReturn p main fr callers dying v w) := by
 unfold doReturn
 dsimp only
 repeat' first | exact Z27 | exact up_of (.inl rfl) (Nat.le_refl _) | refine up_ite ?_ ?_ | split
theorem Z1by {p : Program} {fr : Frame} {callers : List Frame} {dying : Option Dying} {d : Deferred} {w : World} : DrUp w (callDeferred p fr callers dying d w) := by
 unfold callDeferred
 dsimp only
 refine up_ite Z27 ?_
 have h := Z1u p (invoke d.target d.args) w
 rw [← Sem.runT_fst p (invoke d.target d.args) w #[]] at h
 generalize (invoke d.target d.args).runT p w #[] = r at h ⊢
 obtain ⟨r, es⟩ := r
 refine Zt3 ?_
 dsimp only at h ⊢
 repeat' first
  | exact Z27
  | exact Zj8 h up_endThrow
  | exact Zj8 h Z1bx
  | exact up_of (.inl rfl) h
  | refine up_ite ?_ ?_
  | split
theorem Z1ka {p : Program} {main : Bool} {fr : Frame} {callers : List Frame} {dying : Option Dying} {w : World} : DrUp w (unwind p main fr callers dying w) := by
 unfold unwind
 split
 ·rename_i block _ ds _
  have h := Z1u p (Instr.takeDeferred block) w
  rw [← Sem.runT_fst p _ w #[]] at h
  generalize (Instr.takeDeferred block).runT p w #[] = r at h ⊢
  obtain ⟨r, es⟩ := r
  refine Zt3 ?_
  dsimp only at h ⊢
  repeat' first | exact Z27 | exact up_of (.inl rfl) h | refine up_ite ?_ ?_ | split
 ·exact Z1by
 ·split
  ·exact Z27
  ·split
   ·exact Z27
   ·split
    ·exact up_of (.inl rfl) (Nat.le_refl _)
    ·cases dying with
     | none =>
      dsimp only
      refine up_ite (up_of (.inl rfl) (Nat.le_refl _)) ?_
      repeat' first
       | exact Z27
       | exact up_of (.inl rfl) (run_ok (by assumption))
       | split
     | some d =>
      dsimp only
      repeat' first
       | exact Z27
       | exact Z14c
       | split
  ·split
   ·exact Z14r
   ·rename_i fn _
    have h := Z1u p (results fn fr.tmps) w
    rw [← Sem.runT_fst p _ w #[]] at h
    generalize (results fn fr.tmps).runT p w #[] = r at h ⊢
    obtain ⟨r, es⟩ := r
    refine Zt3 ?_
    dsimp only at h ⊢
    repeat' first | exact Z27 | exact Zj8 h Z14r | refine up_ite ?_ ?_ | split
theorem up_die {p : Program} {fr : Frame} {d : Dying} {w : World} : DrUp w (die p fr d w) := by
 unfold die
 dsimp only
 split
 ·exact Z1j6
 ·split
  ·repeat' first | exact Z1j5 | exact up_of (.inl rfl) (Nat.le_refl _) | refine up_ite ?_ ?_ | split
  ·split
   ·exact up_of (.inl rfl) (Nat.le_refl _)
   ·repeat' first | exact Z27 | exact up_of (.inl rfl) (run_ok (by assumption)) | refine up_ite ?_ ?_ | split
   ·rename_i t recv name _
    have h := Z1u p (invoke (.fn (.method name) #[]) #[.iface t recv]) w
    rw [← Sem.runT_fst p _ w #[]] at h
    generalize (invoke (.fn (.method name) #[]) #[.iface t recv]).runT p w #[] = r at h ⊢
    obtain ⟨r, es⟩ := r
    refine Zt3 ?_
    dsimp only at h ⊢
    repeat' first | exact Z27 | exact Zj8 h Z14c | exact up_of (.inl rfl) h | refine up_ite ?_ ?_ | split
   ·exact Z27
theorem Z1l6 {p : Program} {fr : Frame} {callers : List Frame} {dying : Option Dying} {g : Nat} {w : World} : DrUp w (early p fr callers dying g w) := by
 unfold early
 dsimp only
 repeat' first
  | exact Z27
  | exact up_of (.inl rfl) (Nat.le_refl _)
  | exact up_of (.inl rfl) (run_ok (by assumption))
  | (refine up_of (.inl rfl) ?_; dsimp only; exact run_ok (by assumption))
  | refine up_ite ?_ ?_
  | split
theorem Z15y {p : Program} {fr : Frame} {callers : List Frame} {dying : Option Dying} {s : Sem Next} {w : World} {listen : Bool} : DrUp w (stepG.apply p listen fr callers dying s w) := by
 unfold stepG.apply
 dsimp only
 have h : w.drawn ≤ (resW (if listen = true then s.runT p w #[] else (s.run p w, #[])).1).drawn := by
  split
  ·rw [Sem.runT_fst]; exact Z1u p s w
  ·exact Z1u p s w
 generalize (if listen = true then s.runT p w #[] else (s.run p w, #[])) = r at h ⊢
 obtain ⟨r, es⟩ := r
 refine Zt3 ?_
 dsimp only at h ⊢
 repeat' first
  | exact Z27
  | exact up_of (.inl rfl) h
  | exact Zj8 h up_endThrow
  | exact Zj8 h Z1bx
  | exact Zj8 h Z1l6
  | refine up_ite ?_ ?_
  | split
end Go.Ev