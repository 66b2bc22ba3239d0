/-
  The statements about the first certificates before which counters are 0.
-/
import Derived.Test.YtjgpddbebgndbaaGreatDoorEzR5
set_option linter.unusedSimpArgs false
set_option linter.unusedVariables false
set_option maxRecDepth 100000
namespace Go.Ev
open Go

/-- One counter behind the first records. -/
def compAt (lim : Rcd → Int) (l : List Rcd) (v : Int) (k : Nat) : Int := (l.take k).foldl (fun v q => afterC q.s v (lim q)) v
theorem foldl_nx : ∀ (l : List Rcd) (c : C3), l.foldl (fun c q => q.nx c) c = (l.foldl (fun v q => afterC q.s v q.r) c.1, l.foldl (fun v q => afterC q.s v q.i) c.2.1, l.foldl (fun v q => afterC q.s v q.y) c.2.2)
  | [], c => rfl
  | q :: r, c => by rw [List.foldl_cons, foldl_nx r]; rfl
theorem stAt_comp (l : List Rcd) (c : C3) (k : Nat) : stAt l c k = (compAt Rcd.r l c.1 k, compAt Rcd.i l c.2.1 k, compAt Rcd.y l c.2.2 k) := foldl_nx _ _

section
variable {l : List Rcd} (h : Chain l) {cp : Option Nat} {u : List Oid} (hu : ∀ x, x ∈ u → x.ok) (hue : setErr u = 0) {cu : Option Nat} {x y z : Bool}
include h hu hue
end
theorem t4 {a b c d : D} : [a, b, c, d].length = 4 := rfl

section
variable {l : List Rcd} (h : Chain l) {cp : Option Nat} {u : List Oid} (hu : ∀ x, x ∈ u → x.ok) (hue : setErr u = 0) {cu : Option Nat} {x y z : Bool}
include h hu hue
end

end Go.Ev
