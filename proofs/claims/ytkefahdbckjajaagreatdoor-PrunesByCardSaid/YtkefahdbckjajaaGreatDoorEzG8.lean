/- The tree of the examples,evaluated. No conditions. -/
import Derived.Test.YtkefahdbckjajaaGreatDoorEzG5
set_option linter.unusedVariables false
set_option maxRecDepth 1000000
namespace Go.Ev
open Go Go.Proofs
def Z87 : FnH := ⟨[],[]⟩
theorem Zfj : Enters Tg 61 := ⟨Tryz.f61,Tryz.func61,by kernel_rfl,by kernel_rfl⟩
noncomputable def Zsm : Hints := ⟨[(35,Zn6),(38,Z6t)],[(61,Tryz.f61,Z87)],[233,235,236,238,183]⟩
theorem Z13r {m n : Nat} {ds : List D} {d : D} (h : funD Tg Zsm m n Z87 Tryz.f61 ds = some d) : DataSem Tg 61 ds d := Z8 (H := Zsm) (SpOk.cons Z161 (SpOk.cons Zq6 SpOk.nil)) mixed (InlOk.cons Tryz.func61 Zfj InlOk.nil) Tryz.func61 Zfj h
def Zy5 : List D := []
def Zy6 : D := (D.agg [(D.list 5 (some 5) [(D.v (.int .i64 (-1 : Int))),(D.v (.int .u8 (5 : Int))),(D.v (.int .u32 (2 : Int))),(D.v (.int .u32 (5 : Int))),(D.v (.int .u32 (29 : Int))),(D.v (.int .u32 (32 : Int))),zU,zU,zU,zU,zU,zU,zU,zU,zU,zU,zU,zU,(D.list 1 (some 1) [(D.v (.int .u8 (5 : Int))),(D.v (.int .u32 (2 : Int))),(D.v (.int .u32 (5 : Int))),(D.v (.int .u32 (29 : Int))),(D.v (.int .u32 (32 : Int))),zU,zU,zU,zU,zU,zU,zU,zU,zU,zU,zU,zU]),(D.list 0 (some 0) []),zI,(D.v (.int .u8 (3 : Int))),(D.v (.int .u32 (1 : Int))),(D.v (.int .u32 (2 : Int))),(D.v (.int .u32 (3 : Int))),zU,zU,zU,zU,zU,zU,zU,zU,zU,zU,zU,zU,zU,(D.list 2 (some 2) [(D.v (.int .u8 (3 : Int))),(D.v (.int .u32 (1 : Int))),(D.v (.int .u32 (2 : Int))),(D.v (.int .u32 (4 : Int))),zU,zU,zU,zU,zU,zU,zU,zU,zU,zU,zU,zU,zU,(D.v (.int .u8 (3 : Int))),(D.v (.int .u32 (1 : Int))),(D.v (.int .u32 (2 : Int))),(D.v (.int .u32 (5 : Int))),zU,zU,zU,zU,zU,zU,zU,zU,zU,zU,zU,zU,zU]),(D.list 0 (some 0) []),zI,(D.v (.int .u8 (5 : Int))),(D.v (.int .u32 (2 : Int))),(D.v (.int .u32 (5 : Int))),(D.v (.int .u32 (29 : Int))),(D.v (.int .u32 (32 : Int))),zU,zU,zU,zU,zU,zU,zU,zU,zU,zU,zU,zU,(D.list 1 (some 1) [(D.v (.int .u8 (5 : Int))),(D.v (.int .u32 (2 : Int))),(D.v (.int .u32 (5 : Int))),(D.v (.int .u32 (29 : Int))),(D.v (.int .u32 (32 : Int))),zU,zU,zU,zU,zU,zU,zU,zU,zU,zU,zU,zU]),(D.list 0 (some 0) []),(D.v (.int .i64 (1 : Int))),(D.v (.int .u8 (3 : Int))),(D.v (.int .u32 (1 : Int))),(D.v (.int .u32 (2 : Int))),(D.v (.int .u32 (4 : Int))),zU,zU,zU,zU,zU,zU,zU,zU,zU,zU,zU,zU,zU,(D.list 1 (some 1) [(D.v (.int .u8 (3 : Int))),(D.v (.int .u32 (1 : Int))),(D.v (.int .u32 (2 : Int))),(D.v (.int .u32 (4 : Int))),zU,zU,zU,zU,zU,zU,zU,zU,zU,zU,zU,zU,zU]),(D.list 0 (some 0) []),(D.v (.int .i64 (1 : Int))),(D.v (.int .u8 (3 : Int))),(D.v (.int .u32 (1 : Int))),(D.v (.int .u32 (2 : Int))),(D.v (.int .u32 (5 : Int))),zU,zU,zU,zU,zU,zU,zU,zU,zU,zU,zU,zU,zU,(D.list 1 (some 1) [(D.v (.int .u8 (3 : Int))),(D.v (.int .u32 (1 : Int))),(D.v (.int .u32 (2 : Int))),(D.v (.int .u32 (5 : Int))),zU,zU,zU,zU,zU,zU,zU,zU,zU,zU,zU,zU,zU]),(D.list 0 (some 0) [])])])
theorem Z1at : funD Tg Zsm 100000 60 Z87 Tryz.f61 Zy5 = some Zy6 := by kernel_rfl
def Z5w (ds : List D) : Option D := if isT Zy5 ds then some Zy6 else (none)
theorem Z1fi : ∀ ds d,Z5w ds = some d → DataSem Tg 61 ds d := by
  intro ds d h
  unfold Z5w at h
  split at h
  · rename_i ha; obtain rfl := isT_eq ha; cases h; exact Z13r Z1at
  cases h

end Go.Ev
