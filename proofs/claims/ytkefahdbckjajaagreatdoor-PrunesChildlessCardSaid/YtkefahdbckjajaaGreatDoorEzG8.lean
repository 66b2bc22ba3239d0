/- The tree of the examples, evaluated. No conditions. -/
import Derived.Test.YtkefahdbckjajaaGreatDoorEzG5
set_option linter.unusedVariables false
set_option maxRecDepth 1000000
namespace Go.Ev
open Go Go.Proofs
def Z5y : FnH := ⟨[], []⟩
theorem Zcd : Enters Tryz.prog 61 := ⟨Tryz.f61, Tryz.func61, by kernel_rfl, by kernel_rfl⟩
noncomputable def Zmq : Hints := ⟨[(35, Zik), (38, Z4v)], [(61, Tryz.f61, Z5y)], [233, 235, 236, 238, 183]⟩
theorem Ztb {m n : Nat} {ds : List D} {d : D} (h : funD Tryz.prog Zmq m n Z5y Tryz.f61 ds = some d) : DataSem Tryz.prog 61 ds d := data_sound (H := Zmq) (SpOk.cons Zug (SpOk.cons Zkp SpOk.nil)) mixed (InlOk.cons Tryz.func61 Zcd InlOk.nil) Tryz.func61 Zcd h
def Zq9 : List D := []
def Zqa : D := (D.agg [(D.list 5 (some 5) [(D.v (.int .i64 (-1 : Int))), (D.v (.int .u8 (5 : Int))), (D.v (.int .u32 (2 : Int))), (D.v (.int .u32 (5 : Int))), (D.v (.int .u32 (29 : Int))), (D.v (.int .u32 (32 : Int))), zU, zU, zU, zU, zU, zU, zU, zU, zU, zU, zU, zU, (D.list 1 (some 1) [(D.v (.int .u8 (5 : Int))), (D.v (.int .u32 (2 : Int))), (D.v (.int .u32 (5 : Int))), (D.v (.int .u32 (29 : Int))), (D.v (.int .u32 (32 : Int))), zU, zU, zU, zU, zU, zU, zU, zU, zU, zU, zU, zU]), (D.list 0 (some 0) []), zI, (D.v (.int .u8 (3 : Int))), (D.v (.int .u32 (1 : Int))), (D.v (.int .u32 (2 : Int))), (D.v (.int .u32 (3 : Int))), zU, zU, zU, zU, zU, zU, zU, zU, zU, zU, zU, zU, zU, (D.list 2 (some 2) [(D.v (.int .u8 (3 : Int))), (D.v (.int .u32 (1 : Int))), (D.v (.int .u32 (2 : Int))), (D.v (.int .u32 (4 : Int))), zU, zU, zU, zU, zU, zU, zU, zU, zU, zU, zU, zU, zU, (D.v (.int .u8 (3 : Int))), (D.v (.int .u32 (1 : Int))), (D.v (.int .u32 (2 : Int))), (D.v (.int .u32 (5 : Int))), zU, zU, zU, zU, zU, zU, zU, zU, zU, zU, zU, zU, zU]), (D.list 0 (some 0) []), zI, (D.v (.int .u8 (5 : Int))), (D.v (.int .u32 (2 : Int))), (D.v (.int .u32 (5 : Int))), (D.v (.int .u32 (29 : Int))), (D.v (.int .u32 (32 : Int))), zU, zU, zU, zU, zU, zU, zU, zU, zU, zU, zU, zU, (D.list 1 (some 1) [(D.v (.int .u8 (5 : Int))), (D.v (.int .u32 (2 : Int))), (D.v (.int .u32 (5 : Int))), (D.v (.int .u32 (29 : Int))), (D.v (.int .u32 (32 : Int))), zU, zU, zU, zU, zU, zU, zU, zU, zU, zU, zU, zU]), (D.list 0 (some 0) []), (D.v (.int .i64 (1 : Int))), (D.v (.int .u8 (3 : Int))), (D.v (.int .u32 (1 : Int))), (D.v (.int .u32 (2 : Int))), (D.v (.int .u32 (4 : Int))), zU, zU, zU, zU, zU, zU, zU, zU, zU, zU, zU, zU, zU, (D.list 1 (some 1) [(D.v (.int .u8 (3 : Int))), (D.v (.int .u32 (1 : Int))), (D.v (.int .u32 (2 : Int))), (D.v (.int .u32 (4 : Int))), zU, zU, zU, zU, zU, zU, zU, zU, zU, zU, zU, zU, zU]), (D.list 0 (some 0) []), (D.v (.int .i64 (1 : Int))), (D.v (.int .u8 (3 : Int))), (D.v (.int .u32 (1 : Int))), (D.v (.int .u32 (2 : Int))), (D.v (.int .u32 (5 : Int))), zU, zU, zU, zU, zU, zU, zU, zU, zU, zU, zU, zU, zU, (D.list 1 (some 1) [(D.v (.int .u8 (3 : Int))), (D.v (.int .u32 (1 : Int))), (D.v (.int .u32 (2 : Int))), (D.v (.int .u32 (5 : Int))), zU, zU, zU, zU, zU, zU, zU, zU, zU, zU, zU, zU, zU]), (D.list 0 (some 0) [])])])
theorem Zx3 : funD Tryz.prog Zmq 100000 60 Z5y Tryz.f61 Zq9 = some Zqa := by kernel_rfl
def Z49 (ds : List D) : Option D := if isT Zq9 ds then some Zqa else (none)
theorem Zzg : ∀ ds d, Z49 ds = some d → DataSem Tryz.prog 61 ds d := by
  intro ds d h
  unfold Z49 at h
  split at h
  · rename_i ha; obtain rfl := isT_eq ha; cases h; exact Ztb Zx3
  cases h

end Go.Ev
