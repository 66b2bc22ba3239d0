/-
  Chains: what their checks return, where those of their records are known; one step.
-/
import Derived.Test.YtjgpddbebgndbaaGreatDoorEzL8
set_option linter.unusedSimpArgs false
set_option linter.unusedVariables false
set_option maxRecDepth 100000
namespace Go.Ev
open Go

/-- The first error of a list. -/
def firstL {α : Type} (g : α → Int) : List α → Int
  | [] => 0
  | x :: r => if g x = 0 then firstL g r else g x
def chainErr {α : Type} (g : α → Int) (l : List α) : Int := if l.length = 0 then 17 else if 64 < l.length then 3 else firstL g l

section
variable {α : Type} {f : α → List D} {g : α → Int} {l : List α}
/-- The error of a chain, and then that of the initial values. -/
def allErr (g : α → Int) (l : List α) (u : List Oid) : Int := if chainErr g l = 0 then setErr u else chainErr g l
end

/-! ### One step -/
section
variable {e m a : Int} {s hp : Bool} {pn : Nat} {pc : Option Nat} {p : List D} {hm : Bool} {mn : Nat} {mc : Option Nat} {mp : List D} {r i y E : Int}
def stepErr (e m a E : Int) : Int := if ctrErr e m a = 0 then E else ctrErr e m a
theorem law_counters_valid (h : sp_records_Check [.agg (recC s hp pn pc p hm mn mc mp r i y)] = some (.v (.int .i64 E))) :
    sp_counters_valid [.agg (ctrC e m a), .agg (recC s hp pn pc p hm mn mc mp r i y)] = some (.v (.int .i64 (stepErr e m a E))) := by
  show F_counters_valid M e m a s hp pn pc p hm mn mc mp r i y = _
  unfold F_counters_valid stepErr
  rw [law_counters_Check, Option.bind_some, rdI_v, Option.bind_some, h]
  by_cases h0 : ctrErr e m a = 0
  · rw [if_pos h0, h0]; rfl
  · rw [if_neg h0, bne_iff_ne.2 h0]; rfl
theorem law_counters_Next (h : sp_records_Check [.agg (recC s hp pn pc p hm mn mc mp r i y)] = some (.v (.int .i64 E))) :
    sp_counters_Next [.agg (ctrC e m a), .agg (recC s hp pn pc p hm mn mc mp r i y)] = some (.tup [.agg (if stepErr e m a E = 0 then ctrC (afterC s e r) (afterC s m i) (afterC s a y) else ctrC 0 0 0), .v (.int .i64 (stepErr e m a E))]) := by
  show F_counters_Next M e m a s hp pn pc p hm mn mc mp r i y = _
  unfold F_counters_Next
  rw [law_counters_valid h, Option.bind_some, rdI_v, Option.bind_some, law_counters_next]
  by_cases h0 : stepErr e m a E = 0
  · rw [if_pos h0, h0]; rfl
  · rw [if_neg h0, bne_iff_ne.2 h0]; rfl
theorem law_counters_Wrap (h : sp_records_Check [.agg (recC s hp pn pc p hm mn mc mp r i y)] = some (.v (.int .i64 E))) :
    sp_counters_Wrap [.agg (ctrC e m a), .agg (recC s hp pn pc p hm mn mc mp r i y)] = some (.tup [.v (.int .i64 (if stepErr e m a E = 0 then cond (r == 0) 0 (mm false (IntKind.wrap .i64 (e - 1)) 0) else 0)), .v (.int .i64 (stepErr e m a E))]) := by
  show F_counters_Wrap M e m a s hp pn pc p hm mn mc mp r i y = _
  unfold F_counters_Wrap
  rw [law_counters_valid h, Option.bind_some, rdI_v, Option.bind_some, law_counters_wrap]
  by_cases h0 : stepErr e m a E = 0
  · rw [if_pos h0, h0]; rfl
  · rw [if_neg h0, bne_iff_ne.2 h0]; rfl
end
end Go.Ev
