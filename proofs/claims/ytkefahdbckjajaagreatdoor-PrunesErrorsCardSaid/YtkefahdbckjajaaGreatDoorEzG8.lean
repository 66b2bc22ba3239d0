/- The tree of the examples, evaluated. No conditions. -/
import Derived.Test.YtkefahdbckjajaaGreatDoorEzG5
set_option linter.unusedVariables false
set_option maxRecDepth 1000000
namespace Go.Ev
open Go Go.Proofs
def Z54 : FnH := ⟨[], []⟩
theorem Zbc : Enters Tryz.prog 61 := ⟨Tryz.f61, Tryz.func61, by kernel_rfl, by kernel_rfl⟩
noncomputable def Zkj : Hints := ⟨[(35, Zgy), (38, Ziq)], [(61, Tryz.f61, Z54)], [233, 235, 236, 238, 183]⟩
theorem Zqr {m n : Nat} {ds : List D} {d : D} (h : funD Tryz.prog Zkj m n Z54 Tryz.f61 ds = some d) : DataSem Tryz.prog 61 ds d := data_sound (H := Zkj) (SpOk.cons Zri (SpOk.cons Zsz SpOk.nil)) mixed (InlOk.cons Tryz.func61 Zbc InlOk.nil) Tryz.func61 Zbc h
def Zns : List D := []
def Znt : D := (D.agg [(D.list 5 (some 5) [(D.v (.int .i64 (-1 : Int))), (D.v (.int .u8 (5 : Int))), (D.v (.int .u32 (2 : Int))), (D.v (.int .u32 (5 : Int))), (D.v (.int .u32 (29 : Int))), (D.v (.int .u32 (32 : Int))), zU, zU, zU, zU, zU, zU, zU, zU, zU, zU, zU, zU, (D.list 1 (some 1) [(D.v (.int .u8 (5 : Int))), (D.v (.int .u32 (2 : Int))), (D.v (.int .u32 (5 : Int))), (D.v (.int .u32 (29 : Int))), (D.v (.int .u32 (32 : Int))), zU, zU, zU, zU, zU, zU, zU, zU, zU, zU, zU, zU]), (D.list 0 (some 0) []), zI, (D.v (.int .u8 (3 : Int))), (D.v (.int .u32 (1 : Int))), (D.v (.int .u32 (2 : Int))), (D.v (.int .u32 (3 : Int))), zU, zU, zU, zU, zU, zU, zU, zU, zU, zU, zU, zU, zU, (D.list 2 (some 2) [(D.v (.int .u8 (3 : Int))), (D.v (.int .u32 (1 : Int))), (D.v (.int .u32 (2 : Int))), (D.v (.int .u32 (4 : Int))), zU, zU, zU, zU, zU, zU, zU, zU, zU, zU, zU, zU, zU, (D.v (.int .u8 (3 : Int))), (D.v (.int .u32 (1 : Int))), (D.v (.int .u32 (2 : Int))), (D.v (.int .u32 (5 : Int))), zU, zU, zU, zU, zU, zU, zU, zU, zU, zU, zU, zU, zU]), (D.list 0 (some 0) []), zI, (D.v (.int .u8 (5 : Int))), (D.v (.int .u32 (2 : Int))), (D.v (.int .u32 (5 : Int))), (D.v (.int .u32 (29 : Int))), (D.v (.int .u32 (32 : Int))), zU, zU, zU, zU, zU, zU, zU, zU, zU, zU, zU, zU, (D.list 1 (some 1) [(D.v (.int .u8 (5 : Int))), (D.v (.int .u32 (2 : Int))), (D.v (.int .u32 (5 : Int))), (D.v (.int .u32 (29 : Int))), (D.v (.int .u32 (32 : Int))), zU, zU, zU, zU, zU, zU, zU, zU, zU, zU, zU, zU]), (D.list 0 (some 0) []), (D.v (.int .i64 (1 : Int))), (D.v (.int .u8 (3 : Int))), (D.v (.int .u32 (1 : Int))), (D.v (.int .u32 (2 : Int))), (D.v (.int .u32 (4 : Int))), zU, zU, zU, zU, zU, zU, zU, zU, zU, zU, zU, zU, zU, (D.list 1 (some 1) [(D.v (.int .u8 (3 : Int))), (D.v (.int .u32 (1 : Int))), (D.v (.int .u32 (2 : Int))), (D.v (.int .u32 (4 : Int))), zU, zU, zU, zU, zU, zU, zU, zU, zU, zU, zU, zU, zU]), (D.list 0 (some 0) []), (D.v (.int .i64 (1 : Int))), (D.v (.int .u8 (3 : Int))), (D.v (.int .u32 (1 : Int))), (D.v (.int .u32 (2 : Int))), (D.v (.int .u32 (5 : Int))), zU, zU, zU, zU, zU, zU, zU, zU, zU, zU, zU, zU, zU, (D.list 1 (some 1) [(D.v (.int .u8 (3 : Int))), (D.v (.int .u32 (1 : Int))), (D.v (.int .u32 (2 : Int))), (D.v (.int .u32 (5 : Int))), zU, zU, zU, zU, zU, zU, zU, zU, zU, zU, zU, zU, zU]), (D.list 0 (some 0) [])])])
theorem Ztf : funD Tryz.prog Zkj 100000 60 Z54 Tryz.f61 Zns = some Znt := by kernel_rfl
def Z3o (ds : List D) : Option D := if isT Zns ds then some Znt else (none)
theorem Zuz : ∀ ds d, Z3o ds = some d → DataSem Tryz.prog 61 ds d := by
  intro ds d h
  unfold Z3o at h
  split at h
  · rename_i ha; obtain rfl := isT_eq ha; cases h; exact Zqr Ztf
  cases h

end Go.Ev
