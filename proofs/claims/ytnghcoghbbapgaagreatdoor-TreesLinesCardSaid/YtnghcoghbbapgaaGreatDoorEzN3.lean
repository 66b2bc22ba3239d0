/-
 Nodes deleted: what is left of a tree.
-/
import Derived.Test.YtnghcoghbbapgaaGreatDoorEzN2
set_option linter.unusedSimpArgs false
set_option linter.unusedVariables false
set_option maxRecDepth 100000
namespace Go.Ev
open Go
def ifn (f : Nat → Int) (n : Nat) : List D := (List.range n).map fun i => .v (.int .i64 (f i))
theorem Z23d {f : Nat → Int} {n i : Nat} (h : i < n) : rdI .i64 (ifn f n)[i]? = some (f i) := by simp [ifn, h, rdI]
theorem Z1mv {f g : Nat → Int} {n : Nat} (h : ∀ i, i < n → f i = g i) : ifn f n = ifn g n := List.map_congr_left fun i hi => by rw [h i (List.mem_range.1 hi)]
theorem Z22v {α : Type} (f : Nat → α) (n j : Nat) (v : α) : ((List.range n).map f).set j v = (List.range n).map fun i => if i = j then v else f i := by
 refine Z6r (by simp) fun i hi => ?_
 have hi' : i < n := by simpa using hi
 by_cases e : j = i
 ·subst e
  rw [List.getElem?_set_self (by simpa using hi')]
  simp [hi']
 ·rw [List.getElem?_set_ne e]
  have e' : ¬ i = j := fun h => e h.symm
  simp [hi', e']
theorem Z23e (f : Nat → Int) (n j : Nat) (x : Int) : (ifn f n).set j (.v (.int .i64 x)) = ifn (fun i => if i = j then x else f i) n := by
 unfold ifn
 rw [Z22v]
 exact List.map_congr_left fun i _ => by by_cases e : i = j <;> simp [e]
theorem Z23g (n : Nat) : (List.replicate n [D.v (.int .i64 0)]).flatten = ifn (fun _ => 0) n := by
 induction n with
 | zero => rfl
 | succ n ih =>
  rw [List.replicate_succ', List.flatten_append, ih]
  simp [ifn, List.range_succ]
def lc (l : List Cd) (A : Nat → Bool) : Nat → List Cd
 | 0 => []
 | i + 1 => match l[i]? with
  | none => lc l A i
  | some x => if A i then lc l A i ++ [⟨mv (nds l) A x.n, some x.n.ex.length, some x.n.q.length⟩] else lc l A i
section
variable {l : List Cd} {at_ : List Int}
end
end Go.Ev