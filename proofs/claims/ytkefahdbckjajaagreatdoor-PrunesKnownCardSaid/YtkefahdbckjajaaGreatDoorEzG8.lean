/- The tree of the examples,evaluated. No conditions. -/
import Derived.Test.YtkefahdbckjajaaGreatDoorEzG5
set_option linter.unusedVariables false
set_option maxRecDepth 1000000
namespace Go.Ev
open Go Go.Proofs
def Z8k : FnH := ⟨[],[]⟩
theorem Zfy : Enters Tg 61 := ⟨Tryz.f61,Tryz.func61,by kernel_rfl,by kernel_rfl⟩
noncomputable def Zt2 : Hints := ⟨[(35,Z4z),(38,Z74)],[(61,Tryz.f61,Z8k)],[233,235,236,238,183]⟩
theorem Z14n {m n : Nat} {ds : List D} {d : D} (h : funD Tg Zt2 m n Z8k Tryz.f61 ds = some d) : DataSem Tg 61 ds d := Zf (H := Zt2) (SpOk.cons Zyf (SpOk.cons Zqk SpOk.nil)) mixed (InlOk.cons Tryz.func61 Zfy InlOk.nil) Tryz.func61 Zfy h
def Zz0 : List D := []
def Zz1 : D := (D.agg [(D.list 5 (some 5) [(D.v (.int .i64 (-1 : Int))),(D.v (.int .u8 (5 : Int))),(D.v (.int .u32 (2 : Int))),(D.v (.int .u32 (5 : Int))),(D.v (.int .u32 (29 : Int))),(D.v (.int .u32 (32 : Int))),zU,zU,zU,zU,zU,zU,zU,zU,zU,zU,zU,zU,(D.list 1 (some 1) [(D.v (.int .u8 (5 : Int))),(D.v (.int .u32 (2 : Int))),(D.v (.int .u32 (5 : Int))),(D.v (.int .u32 (29 : Int))),(D.v (.int .u32 (32 : Int))),zU,zU,zU,zU,zU,zU,zU,zU,zU,zU,zU,zU]),(D.list 0 (some 0) []),zI,(D.v (.int .u8 (3 : Int))),(D.v (.int .u32 (1 : Int))),(D.v (.int .u32 (2 : Int))),(D.v (.int .u32 (3 : Int))),zU,zU,zU,zU,zU,zU,zU,zU,zU,zU,zU,zU,zU,(D.list 2 (some 2) [(D.v (.int .u8 (3 : Int))),(D.v (.int .u32 (1 : Int))),(D.v (.int .u32 (2 : Int))),(D.v (.int .u32 (4 : Int))),zU,zU,zU,zU,zU,zU,zU,zU,zU,zU,zU,zU,zU,(D.v (.int .u8 (3 : Int))),(D.v (.int .u32 (1 : Int))),(D.v (.int .u32 (2 : Int))),(D.v (.int .u32 (5 : Int))),zU,zU,zU,zU,zU,zU,zU,zU,zU,zU,zU,zU,zU]),(D.list 0 (some 0) []),zI,(D.v (.int .u8 (5 : Int))),(D.v (.int .u32 (2 : Int))),(D.v (.int .u32 (5 : Int))),(D.v (.int .u32 (29 : Int))),(D.v (.int .u32 (32 : Int))),zU,zU,zU,zU,zU,zU,zU,zU,zU,zU,zU,zU,(D.list 1 (some 1) [(D.v (.int .u8 (5 : Int))),(D.v (.int .u32 (2 : Int))),(D.v (.int .u32 (5 : Int))),(D.v (.int .u32 (29 : Int))),(D.v (.int .u32 (32 : Int))),zU,zU,zU,zU,zU,zU,zU,zU,zU,zU,zU,zU]),(D.list 0 (some 0) []),(D.v (.int .i64 (1 : Int))),(D.v (.int .u8 (3 : Int))),(D.v (.int .u32 (1 : Int))),(D.v (.int .u32 (2 : Int))),(D.v (.int .u32 (4 : Int))),zU,zU,zU,zU,zU,zU,zU,zU,zU,zU,zU,zU,zU,(D.list 1 (some 1) [(D.v (.int .u8 (3 : Int))),(D.v (.int .u32 (1 : Int))),(D.v (.int .u32 (2 : Int))),(D.v (.int .u32 (4 : Int))),zU,zU,zU,zU,zU,zU,zU,zU,zU,zU,zU,zU,zU]),(D.list 0 (some 0) []),(D.v (.int .i64 (1 : Int))),(D.v (.int .u8 (3 : Int))),(D.v (.int .u32 (1 : Int))),(D.v (.int .u32 (2 : Int))),(D.v (.int .u32 (5 : Int))),zU,zU,zU,zU,zU,zU,zU,zU,zU,zU,zU,zU,zU,(D.list 1 (some 1) [(D.v (.int .u8 (3 : Int))),(D.v (.int .u32 (1 : Int))),(D.v (.int .u32 (2 : Int))),(D.v (.int .u32 (5 : Int))),zU,zU,zU,zU,zU,zU,zU,zU,zU,zU,zU,zU,zU]),(D.list 0 (some 0) [])])])
theorem Z1bk : funD Tg Zt2 100000 60 Z8k Tryz.f61 Zz0 = some Zz1 := by kernel_rfl
def Z6a (ds : List D) : Option D := if isT Zz0 ds then some Zz1 else (none)
theorem Z1ga : ∀ ds d,Z6a ds = some d → DataSem Tg 61 ds d := by
 intro ds d h
 unfold Z6a at h
 split at h
 ·rename_i ha; obtain rfl := isT_eq ha; cases h; exact Z14n Z1bk
 cases h
end Go.Ev