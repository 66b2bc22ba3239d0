/-
  Policies of the examples; sets by bits.
-/
import Derived.Test.YtkefahdbckjajaaGreatDoorEzO1
import Derived.Test.YtkefahdbckjajaaGreatDoorEzL0
set_option linter.unusedSimpArgs false
set_option linter.unusedVariables false
set_option maxRecDepth 100000
namespace Go.Ev
open Go
def anyO : Oid := ⟨5, [2, 5, 29, 32, 0, 0, 0, 0, 0, 0, 0, 0, 0, 0, 0, 0]⟩
def polK (k : Nat) : Oid := ⟨3, [1, 2, 3 + k, 0, 0, 0, 0, 0, 0, 0, 0, 0, 0, 0, 0, 0]⟩
/-- A policy by its number. -/
def polO (k : Nat) : Oid := if k % 7 = 6 then anyO else polK (k % 7)
theorem polO_mod (k : Nat) : ∃ j, j < 7 ∧ polO k = polO j := ⟨k % 7, Nat.mod_lt _ (by omega), by unfold polO; rw [Nat.mod_mod]⟩
theorem polO_ok (k : Nat) : (polO k).ok := by
  obtain ⟨j, hj, e⟩ := polO_mod k
  rw [e]
  match j, hj with
  | 0, _ | 1, _ | 2, _ | 3, _ | 4, _ | 5, _ | 6, _ => exact ⟨by decide, by decide, by decide⟩
theorem anyO_ok : anyO.ok := polO_ok 6
/-! ### The two qualifiers of the examples -/
def qaC : List D := [(D.v (.int .u8 (1 : Int))), (D.v (.string (ByteArray.mk #[104, 116, 116, 112, 58, 47, 47, 97]))), (D.v (.bool false)), (D.v (.int .u32 (0 : Int))), (D.v (.string (ByteArray.mk #[]))), (D.list 0 (some 0) []), (D.v (.bool false)), (D.v (.int .u32 (0 : Int))), (D.v (.string (ByteArray.mk #[]))), (D.v (.int .u8 (0 : Int))), (D.v (.int .u32 (0 : Int))), (D.v (.int .u32 (0 : Int))), (D.v (.int .u32 (0 : Int))), (D.v (.int .u32 (0 : Int))), (D.v (.int .u32 (0 : Int))), (D.v (.int .u32 (0 : Int))), (D.v (.int .u32 (0 : Int))), (D.v (.int .u32 (0 : Int))), (D.v (.int .u32 (0 : Int))), (D.v (.int .u32 (0 : Int))), (D.v (.int .u32 (0 : Int))), (D.v (.int .u32 (0 : Int))), (D.v (.int .u32 (0 : Int))), (D.v (.int .u32 (0 : Int))), (D.v (.int .u32 (0 : Int))), (D.v (.int .u32 (0 : Int))), (D.list 0 (some 0) [])]
def qbC : List D := [(D.v (.int .u8 (2 : Int))), (D.v (.string (ByteArray.mk #[]))), (D.v (.bool false)), (D.v (.int .u32 (0 : Int))), (D.v (.string (ByteArray.mk #[]))), (D.list 0 (some 0) []), (D.v (.bool true)), (D.v (.int .u32 (12 : Int))), (D.v (.string (ByteArray.mk #[98]))), (D.v (.int .u8 (0 : Int))), (D.v (.int .u32 (0 : Int))), (D.v (.int .u32 (0 : Int))), (D.v (.int .u32 (0 : Int))), (D.v (.int .u32 (0 : Int))), (D.v (.int .u32 (0 : Int))), (D.v (.int .u32 (0 : Int))), (D.v (.int .u32 (0 : Int))), (D.v (.int .u32 (0 : Int))), (D.v (.int .u32 (0 : Int))), (D.v (.int .u32 (0 : Int))), (D.v (.int .u32 (0 : Int))), (D.v (.int .u32 (0 : Int))), (D.v (.int .u32 (0 : Int))), (D.v (.int .u32 (0 : Int))), (D.v (.int .u32 (0 : Int))), (D.v (.int .u32 (0 : Int))), (D.list 0 (some 0) [])]

/-! ### Sets -/
def putFrom (o : Oid) : Bool → List Oid → List Oid
  | d, [] => if d then [] else [o]
  | d, x :: r => if (!(d || decide (x = o)) && decide (o.cmp x < 0)) then o :: x :: putFrom o true r else x :: putFrom o (d || decide (x = o)) r
def putO (l : List Oid) (o : Oid) : List Oid := putFrom o false l
/-- The policies whose bits are set. -/
abbrev Ini := List Oid × Option Nat
def iniStep (u i : Nat) (s : Ini) : Ini := if u / 2 ^ i % 2 = 1 then (putO s.1 (polO i), none) else s
def iniFrom (u : Nat) : Nat → Nat → Ini → Ini
  | 0, _, s => s
  | k + 1, i, s => iniFrom u k (i + 1) (iniStep u i s)
def setOf (u : Nat) : Ini := iniFrom u 7 0 ([], some 0)
end Go.Ev
