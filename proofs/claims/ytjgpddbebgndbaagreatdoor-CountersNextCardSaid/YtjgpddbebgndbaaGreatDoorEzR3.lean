/-
  Chains as plain data.
-/
import Derived.Test.YtjgpddbebgndbaaGreatDoorEzR2
import Derived.Test.YtjgpddbebgndbaaGreatDoorEzL3
set_option linter.unusedSimpArgs false
set_option linter.unusedVariables false
set_option maxRecDepth 100000
namespace Go.Ev
open Go

structure Ci where
  l : List Ri
  lc : Option Nat
  u : Nat
  f : Nat
structure Ci.ok (x : Ci) : Prop where
  l : ∀ r, r ∈ x.l → r.ok
  ll : x.l.length ≤ 9223372036854775807
  u : x.u < 256
  f : x.f < 256
def risC (l : List Ri) : List D := (l.map Ri.cells).flatten
theorem Ri.cells_len (x : Ri) : x.cells.length = 6 := rfl
def Ci.cells (x : Ci) : List D := [.list x.l.length x.lc (risC x.l), .v (.int .u8 (x.u : Int)), .v (.int .u8 (x.f : Int))]
def rcdsC (l : List Rcd) : List D := (l.map Rcd.cells).flatten
theorem Rcd.cells_len (q : Rcd) : q.cells.length = 8 := rfl
/-- The empty record as plain data. -/
def ri0 : Ri := ⟨0, [], some 0, [], some 0, 0, 0, 0⟩
/-- The policies whose bits are set. -/
abbrev Ini := List Oid × Option Nat
def iniStep (u i : Nat) (s : Ini) : Ini := if u / 2 ^ i % 2 = 1 then (putO s.1 (polO i), none) else s
def iniFrom (u : Nat) : Nat → Nat → Ini → Ini
  | 0, _, s => s
  | k + 1, i, s => iniFrom u k (i + 1) (iniStep u i s)
def Ci.chain (x : Ci) : List Rcd := if x.l.length = 0 then [ri0.rcd] else (x.l.take 5).map Ri.rcd
def Ci.ini (x : Ci) : Ini := iniFrom x.u 7 0 ([], some 0)

def Ci.x (x : Ci) : Bool := x.f % 2 == 1
def Ci.y (x : Ci) : Bool := x.f / 2 % 2 == 1
def Ci.z (x : Ci) : Bool := x.f / 4 % 2 == 1
def Ci.out (x : Ci) : D := .tup [.list x.chain.length none (rcdsC x.chain), .agg (inC x.ini.1 x.ini.2 x.x x.y x.z)]

end Go.Ev
