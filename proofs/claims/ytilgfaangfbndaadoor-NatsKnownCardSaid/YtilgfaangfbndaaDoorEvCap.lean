/-
  A capacity that may be unknown, read as the evaluator reads it.
-/
import Derived.Test.YtilgfaangfbndaaDoorEvG8
set_option maxRecDepth 100000
namespace Go.Ev
open Go Go.Proofs
variable {R : Type}
def capO (c : Option Nat) (k : Nat → Option R) : Option R :=
  match AV.d (D.list 0 c []) with
  | .d (.list _ (some c) _) => k c
  | .sl _ _ _ (some c) _ => k c
  | _ => none
theorem capO_some (c : Nat) (k : Nat → Option R) : capO (some c) k = k c := rfl
theorem capO_test (n : Nat) (c : Option Nat) (l : List D) (k : AV → Option R) : capK Tryd.prog 22 (.d (.list n c l)) k = capO c fun x => k (.d (.v (.int .i64 ((x : Nat) : Int)))) := by kernel_rfl
end Go.Ev
