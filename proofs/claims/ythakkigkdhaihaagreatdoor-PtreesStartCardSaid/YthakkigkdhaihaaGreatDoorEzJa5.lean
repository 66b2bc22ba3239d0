/- The examples of the chapter on the state machine of the tree,evaluated: each call at the arguments that come up. No conditions. -/
import Derived.Test.YthakkigkdhaihaaGreatDoorEzJa4
set_option linter.unusedVariables false
set_option maxRecDepth 1000000
set_option maxHeartbeats 4000000
namespace Go.Ev
open Go Go.Proofs
def Z5 : FnH := ⟨[(2,⟨(bm 38 34),[],some 1000000,none⟩)],[]⟩
theorem Za1 : Enters Tg 34 := ⟨Tryz.f34,Tryz.func34,by kernel_rfl,by kernel_rfl⟩
noncomputable def Z1e : Hints := ⟨[],[(34,Tryz.f34,Z5)],[303,305,306,308,253,1000032,1000060,2000026,2000040,2000062,2000034]⟩
theorem Zv {m n : Nat} {ds : List D} {d : D} (h : funD Tg Z1e m n Z5 Tryz.f34 ds = some d) : DataSem Tg 34 ds d := Z0 (H := Z1e) SpOk.nil mixed (InlOk.cons Tryz.func34 Za1 InlOk.nil) Tryz.func34 Za1 h
def Z100 : List D := [(D.agg [(D.list 3 (some 3) [(D.v (.int .i64 (-1 : Int))),(D.v (.int .u8 (5 : Int))),w2,w5,w29,w32,z0,z0,z0,z0,z0,z0,z0,z0,z0,z0,z0,z0,(D.list 1 (some 1) [(D.v (.int .u8 (5 : Int))),w2,w5,w29,w32,z0,z0,z0,z0,z0,z0,z0,z0,z0,z0,z0,z0]),n0l,zI,(D.v (.int .u8 (3 : Int))),w1,w2,w3,z0,z0,z0,z0,z0,z0,z0,z0,z0,z0,z0,z0,z0,(D.list 1 (some 1) [(D.v (.int .u8 (3 : Int))),w1,w2,w3,z0,z0,z0,z0,z0,z0,z0,z0,z0,z0,z0,z0,z0]),n0l,zI,(D.v (.int .u8 (5 : Int))),w2,w5,w29,w32,z0,z0,z0,z0,z0,z0,z0,z0,z0,z0,z0,z0,(D.list 1 (some 1) [(D.v (.int .u8 (5 : Int))),w2,w5,w29,w32,z0,z0,z0,z0,z0,z0,z0,z0,z0,z0,z0,z0]),n0l])]),zI]
def Z101 : D := zI
def Z102 : List D := [(D.agg [(D.list 3 (some 3) [(D.v (.int .i64 (-1 : Int))),(D.v (.int .u8 (5 : Int))),w2,w5,w29,w32,z0,z0,z0,z0,z0,z0,z0,z0,z0,z0,z0,z0,(D.list 1 (some 1) [(D.v (.int .u8 (5 : Int))),w2,w5,w29,w32,z0,z0,z0,z0,z0,z0,z0,z0,z0,z0,z0,z0]),n0l,zI,(D.v (.int .u8 (3 : Int))),w1,w2,w3,z0,z0,z0,z0,z0,z0,z0,z0,z0,z0,z0,z0,z0,(D.list 1 (some 1) [(D.v (.int .u8 (3 : Int))),w1,w2,w3,z0,z0,z0,z0,z0,z0,z0,z0,z0,z0,z0,z0,z0]),n0l,zI,(D.v (.int .u8 (5 : Int))),w2,w5,w29,w32,z0,z0,z0,z0,z0,z0,z0,z0,z0,z0,z0,z0,(D.list 1 (some 1) [(D.v (.int .u8 (5 : Int))),w2,w5,w29,w32,z0,z0,z0,z0,z0,z0,z0,z0,z0,z0,z0,z0]),n0l])]),(D.v (.int .i64 (1 : Int)))]
def Z103 : D := (D.v (.int .i64 (1 : Int)))
def Z104 : List D := [(D.agg [(D.list 3 (some 3) [(D.v (.int .i64 (-1 : Int))),(D.v (.int .u8 (5 : Int))),w2,w5,w29,w32,z0,z0,z0,z0,z0,z0,z0,z0,z0,z0,z0,z0,(D.list 1 (some 1) [(D.v (.int .u8 (5 : Int))),w2,w5,w29,w32,z0,z0,z0,z0,z0,z0,z0,z0,z0,z0,z0,z0]),n0l,zI,(D.v (.int .u8 (3 : Int))),w1,w2,w3,z0,z0,z0,z0,z0,z0,z0,z0,z0,z0,z0,z0,z0,(D.list 1 (some 1) [(D.v (.int .u8 (3 : Int))),w1,w2,w3,z0,z0,z0,z0,z0,z0,z0,z0,z0,z0,z0,z0,z0]),n0l,zI,(D.v (.int .u8 (5 : Int))),w2,w5,w29,w32,z0,z0,z0,z0,z0,z0,z0,z0,z0,z0,z0,z0,(D.list 1 (some 1) [(D.v (.int .u8 (5 : Int))),w2,w5,w29,w32,z0,z0,z0,z0,z0,z0,z0,z0,z0,z0,z0,z0]),n0l])]),(D.v (.int .i64 (2 : Int)))]
def Z105 : D := (D.v (.int .i64 (1 : Int)))
def Z106 : List D := [(D.agg [(D.list 3 (some 3) [(D.v (.int .i64 (-1 : Int))),(D.v (.int .u8 (5 : Int))),w2,w5,w29,w32,z0,z0,z0,z0,z0,z0,z0,z0,z0,z0,z0,z0,(D.list 1 (some 1) [(D.v (.int .u8 (5 : Int))),w2,w5,w29,w32,z0,z0,z0,z0,z0,z0,z0,z0,z0,z0,z0,z0]),n0l,zI,(D.v (.int .u8 (3 : Int))),w1,w2,w3,z0,z0,z0,z0,z0,z0,z0,z0,z0,z0,z0,z0,z0,(D.list 1 (some 1) [(D.v (.int .u8 (3 : Int))),w1,w2,w4,z0,z0,z0,z0,z0,z0,z0,z0,z0,z0,z0,z0,z0]),n0l,zI,(D.v (.int .u8 (5 : Int))),w2,w5,w29,w32,z0,z0,z0,z0,z0,z0,z0,z0,z0,z0,z0,z0,(D.list 1 (some 1) [(D.v (.int .u8 (5 : Int))),w2,w5,w29,w32,z0,z0,z0,z0,z0,z0,z0,z0,z0,z0,z0,z0]),n0l])]),zI]
def Z107 : D := zI
def Z108 : List D := [(D.agg [(D.list 3 (some 3) [(D.v (.int .i64 (-1 : Int))),(D.v (.int .u8 (5 : Int))),w2,w5,w29,w32,z0,z0,z0,z0,z0,z0,z0,z0,z0,z0,z0,z0,(D.list 1 (some 1) [(D.v (.int .u8 (5 : Int))),w2,w5,w29,w32,z0,z0,z0,z0,z0,z0,z0,z0,z0,z0,z0,z0]),n0l,zI,(D.v (.int .u8 (3 : Int))),w1,w2,w3,z0,z0,z0,z0,z0,z0,z0,z0,z0,z0,z0,z0,z0,(D.list 1 (some 1) [(D.v (.int .u8 (3 : Int))),w1,w2,w4,z0,z0,z0,z0,z0,z0,z0,z0,z0,z0,z0,z0,z0]),n0l,zI,(D.v (.int .u8 (5 : Int))),w2,w5,w29,w32,z0,z0,z0,z0,z0,z0,z0,z0,z0,z0,z0,z0,(D.list 1 (some 1) [(D.v (.int .u8 (5 : Int))),w2,w5,w29,w32,z0,z0,z0,z0,z0,z0,z0,z0,z0,z0,z0,z0]),n0l])]),(D.v (.int .i64 (1 : Int)))]
def Z109 : D := (D.v (.int .i64 (1 : Int)))
def Z10a : List D := [(D.agg [(D.list 3 (some 3) [(D.v (.int .i64 (-1 : Int))),(D.v (.int .u8 (5 : Int))),w2,w5,w29,w32,z0,z0,z0,z0,z0,z0,z0,z0,z0,z0,z0,z0,(D.list 1 (some 1) [(D.v (.int .u8 (5 : Int))),w2,w5,w29,w32,z0,z0,z0,z0,z0,z0,z0,z0,z0,z0,z0,z0]),n0l,zI,(D.v (.int .u8 (3 : Int))),w1,w2,w3,z0,z0,z0,z0,z0,z0,z0,z0,z0,z0,z0,z0,z0,(D.list 1 (some 1) [(D.v (.int .u8 (3 : Int))),w1,w2,w4,z0,z0,z0,z0,z0,z0,z0,z0,z0,z0,z0,z0,z0]),n0l,zI,(D.v (.int .u8 (5 : Int))),w2,w5,w29,w32,z0,z0,z0,z0,z0,z0,z0,z0,z0,z0,z0,z0,(D.list 1 (some 1) [(D.v (.int .u8 (5 : Int))),w2,w5,w29,w32,z0,z0,z0,z0,z0,z0,z0,z0,z0,z0,z0,z0]),n0l])]),(D.v (.int .i64 (2 : Int)))]
def Z10b : D := (D.v (.int .i64 (1 : Int)))
def Z10c : List D := [(D.agg [(D.list 3 (some 3) [(D.v (.int .i64 (-1 : Int))),(D.v (.int .u8 (5 : Int))),w2,w5,w29,w32,z0,z0,z0,z0,z0,z0,z0,z0,z0,z0,z0,z0,(D.list 1 (some 1) [(D.v (.int .u8 (5 : Int))),w2,w5,w29,w32,z0,z0,z0,z0,z0,z0,z0,z0,z0,z0,z0,z0]),n0l,zI,(D.v (.int .u8 (3 : Int))),w1,w2,w3,z0,z0,z0,z0,z0,z0,z0,z0,z0,z0,z0,z0,z0,(D.list 1 (some 1) [(D.v (.int .u8 (3 : Int))),w1,w2,w4,z0,z0,z0,z0,z0,z0,z0,z0,z0,z0,z0,z0,z0]),n0l,(D.v (.int .i64 (1 : Int))),(D.v (.int .u8 (3 : Int))),w1,w2,w4,z0,z0,z0,z0,z0,z0,z0,z0,z0,z0,z0,z0,z0,(D.list 1 (some 1) [(D.v (.int .u8 (3 : Int))),w1,w2,w4,z0,z0,z0,z0,z0,z0,z0,z0,z0,z0,z0,z0,z0]),n0l])]),zI]
def Z10d : D := zI
def Z10e : List D := [(D.agg [(D.list 3 (some 3) [(D.v (.int .i64 (-1 : Int))),(D.v (.int .u8 (5 : Int))),w2,w5,w29,w32,z0,z0,z0,z0,z0,z0,z0,z0,z0,z0,z0,z0,(D.list 1 (some 1) [(D.v (.int .u8 (5 : Int))),w2,w5,w29,w32,z0,z0,z0,z0,z0,z0,z0,z0,z0,z0,z0,z0]),n0l,zI,(D.v (.int .u8 (3 : Int))),w1,w2,w3,z0,z0,z0,z0,z0,z0,z0,z0,z0,z0,z0,z0,z0,(D.list 1 (some 1) [(D.v (.int .u8 (3 : Int))),w1,w2,w4,z0,z0,z0,z0,z0,z0,z0,z0,z0,z0,z0,z0,z0]),n0l,(D.v (.int .i64 (1 : Int))),(D.v (.int .u8 (3 : Int))),w1,w2,w4,z0,z0,z0,z0,z0,z0,z0,z0,z0,z0,z0,z0,z0,(D.list 1 (some 1) [(D.v (.int .u8 (3 : Int))),w1,w2,w4,z0,z0,z0,z0,z0,z0,z0,z0,z0,z0,z0,z0,z0]),n0l])]),(D.v (.int .i64 (1 : Int)))]
def Z10f : D := (D.v (.int .i64 (1 : Int)))
def Z10g : List D := [(D.agg [(D.list 3 (some 3) [(D.v (.int .i64 (-1 : Int))),(D.v (.int .u8 (5 : Int))),w2,w5,w29,w32,z0,z0,z0,z0,z0,z0,z0,z0,z0,z0,z0,z0,(D.list 1 (some 1) [(D.v (.int .u8 (5 : Int))),w2,w5,w29,w32,z0,z0,z0,z0,z0,z0,z0,z0,z0,z0,z0,z0]),n0l,zI,(D.v (.int .u8 (3 : Int))),w1,w2,w3,z0,z0,z0,z0,z0,z0,z0,z0,z0,z0,z0,z0,z0,(D.list 1 (some 1) [(D.v (.int .u8 (3 : Int))),w1,w2,w4,z0,z0,z0,z0,z0,z0,z0,z0,z0,z0,z0,z0,z0]),n0l,(D.v (.int .i64 (1 : Int))),(D.v (.int .u8 (3 : Int))),w1,w2,w4,z0,z0,z0,z0,z0,z0,z0,z0,z0,z0,z0,z0,z0,(D.list 1 (some 1) [(D.v (.int .u8 (3 : Int))),w1,w2,w4,z0,z0,z0,z0,z0,z0,z0,z0,z0,z0,z0,z0,z0]),n0l])]),(D.v (.int .i64 (2 : Int)))]
def Z10h : D := (D.v (.int .i64 (2 : Int)))
def Z10i : List D := [(D.agg [(D.list 3 (some 3) [(D.v (.int .i64 (-1 : Int))),(D.v (.int .u8 (5 : Int))),w2,w5,w29,w32,z0,z0,z0,z0,z0,z0,z0,z0,z0,z0,z0,z0,(D.list 1 (some 1) [(D.v (.int .u8 (5 : Int))),w2,w5,w29,w32,z0,z0,z0,z0,z0,z0,z0,z0,z0,z0,z0,z0]),n0l,zI,(D.v (.int .u8 (5 : Int))),w2,w5,w29,w32,z0,z0,z0,z0,z0,z0,z0,z0,z0,z0,z0,z0,(D.list 1 (some 1) [(D.v (.int .u8 (5 : Int))),w2,w5,w29,w32,z0,z0,z0,z0,z0,z0,z0,z0,z0,z0,z0,z0]),n0l,(D.v (.int .i64 (1 : Int))),(D.v (.int .u8 (3 : Int))),w1,w2,w4,z0,z0,z0,z0,z0,z0,z0,z0,z0,z0,z0,z0,z0,(D.list 1 (some 1) [(D.v (.int .u8 (3 : Int))),w1,w2,w4,z0,z0,z0,z0,z0,z0,z0,z0,z0,z0,z0,z0,z0]),n0l])]),zI]
def Z10j : D := zI
def Zxi : List D := [(D.agg [(D.list 3 (some 3) [(D.v (.int .i64 (-1 : Int))),(D.v (.int .u8 (5 : Int))),w2,w5,w29,w32,z0,z0,z0,z0,z0,z0,z0,z0,z0,z0,z0,z0,(D.list 1 (some 1) [(D.v (.int .u8 (5 : Int))),w2,w5,w29,w32,z0,z0,z0,z0,z0,z0,z0,z0,z0,z0,z0,z0]),n0l,zI,(D.v (.int .u8 (5 : Int))),w2,w5,w29,w32,z0,z0,z0,z0,z0,z0,z0,z0,z0,z0,z0,z0,(D.list 1 (some 1) [(D.v (.int .u8 (5 : Int))),w2,w5,w29,w32,z0,z0,z0,z0,z0,z0,z0,z0,z0,z0,z0,z0]),n0l,(D.v (.int .i64 (1 : Int))),(D.v (.int .u8 (3 : Int))),w1,w2,w4,z0,z0,z0,z0,z0,z0,z0,z0,z0,z0,z0,z0,z0,(D.list 1 (some 1) [(D.v (.int .u8 (3 : Int))),w1,w2,w4,z0,z0,z0,z0,z0,z0,z0,z0,z0,z0,z0,z0,z0]),n0l])]),(D.v (.int .i64 (1 : Int)))]
def Zxj : D := (D.v (.int .i64 (1 : Int)))
def Zxk : List D := [(D.agg [(D.list 3 (some 3) [(D.v (.int .i64 (-1 : Int))),(D.v (.int .u8 (5 : Int))),w2,w5,w29,w32,z0,z0,z0,z0,z0,z0,z0,z0,z0,z0,z0,z0,(D.list 1 (some 1) [(D.v (.int .u8 (5 : Int))),w2,w5,w29,w32,z0,z0,z0,z0,z0,z0,z0,z0,z0,z0,z0,z0]),n0l,zI,(D.v (.int .u8 (5 : Int))),w2,w5,w29,w32,z0,z0,z0,z0,z0,z0,z0,z0,z0,z0,z0,z0,(D.list 1 (some 1) [(D.v (.int .u8 (5 : Int))),w2,w5,w29,w32,z0,z0,z0,z0,z0,z0,z0,z0,z0,z0,z0,z0]),n0l,(D.v (.int .i64 (1 : Int))),(D.v (.int .u8 (3 : Int))),w1,w2,w4,z0,z0,z0,z0,z0,z0,z0,z0,z0,z0,z0,z0,z0,(D.list 1 (some 1) [(D.v (.int .u8 (3 : Int))),w1,w2,w4,z0,z0,z0,z0,z0,z0,z0,z0,z0,z0,z0,z0,z0]),n0l])]),(D.v (.int .i64 (2 : Int)))]
def Zxl : D := (D.v (.int .i64 (2 : Int)))
theorem Z1a6 : funD Tg Z1e 100000 60 Z5 Tryz.f34 Z100 = some Z101 := by kernel_rfl
theorem Z1a7 : funD Tg Z1e 100000 60 Z5 Tryz.f34 Z102 = some Z103 := by kernel_rfl
theorem Z1a8 : funD Tg Z1e 100000 60 Z5 Tryz.f34 Z104 = some Z105 := by kernel_rfl
theorem Z1a9 : funD Tg Z1e 100000 60 Z5 Tryz.f34 Z106 = some Z107 := by kernel_rfl
theorem Z1aa : funD Tg Z1e 100000 60 Z5 Tryz.f34 Z108 = some Z109 := by kernel_rfl
theorem Z1ab : funD Tg Z1e 100000 60 Z5 Tryz.f34 Z10a = some Z10b := by kernel_rfl
theorem Z1ac : funD Tg Z1e 100000 60 Z5 Tryz.f34 Z10c = some Z10d := by kernel_rfl
theorem Z1ad : funD Tg Z1e 100000 60 Z5 Tryz.f34 Z10e = some Z10f := by kernel_rfl
theorem Z1ae : funD Tg Z1e 100000 60 Z5 Tryz.f34 Z10g = some Z10h := by kernel_rfl
theorem Z1af : funD Tg Z1e 100000 60 Z5 Tryz.f34 Z10i = some Z10j := by kernel_rfl
theorem Z18s : funD Tg Z1e 100000 60 Z5 Tryz.f34 Zxi = some Zxj := by kernel_rfl
theorem Z18t : funD Tg Z1e 100000 60 Z5 Tryz.f34 Zxk = some Zxl := by kernel_rfl
def Zv6 (ds : List D) : Option D := if isT Z100 ds then some Z101 else (if isT Z102 ds then some Z103 else (if isT Z104 ds then some Z105 else (if isT Z106 ds then some Z107 else (if isT Z108 ds then some Z109 else (if isT Z10a ds then some Z10b else (if isT Z10c ds then some Z10d else (if isT Z10e ds then some Z10f else (if isT Z10g ds then some Z10h else (if isT Z10i ds then some Z10j else (if isT Zxi ds then some Zxj else (if isT Zxk ds then some Zxl else (none))))))))))))
theorem td_ref26_Depth : ∀ ds d,Zv6 ds = some d → DataSem Tg 34 ds d := by
 intro ds d h
 unfold Zv6 at h
 split at h
 ·rename_i ha; obtain rfl := isT_eq ha; cases h; exact Zv Z1a6
 split at h
 ·rename_i ha; obtain rfl := isT_eq ha; cases h; exact Zv Z1a7
 split at h
 ·rename_i ha; obtain rfl := isT_eq ha; cases h; exact Zv Z1a8
 split at h
 ·rename_i ha; obtain rfl := isT_eq ha; cases h; exact Zv Z1a9
 split at h
 ·rename_i ha; obtain rfl := isT_eq ha; cases h; exact Zv Z1aa
 split at h
 ·rename_i ha; obtain rfl := isT_eq ha; cases h; exact Zv Z1ab
 split at h
 ·rename_i ha; obtain rfl := isT_eq ha; cases h; exact Zv Z1ac
 split at h
 ·rename_i ha; obtain rfl := isT_eq ha; cases h; exact Zv Z1ad
 split at h
 ·rename_i ha; obtain rfl := isT_eq ha; cases h; exact Zv Z1ae
 split at h
 ·rename_i ha; obtain rfl := isT_eq ha; cases h; exact Zv Z1af
 split at h
 ·rename_i ha; obtain rfl := isT_eq ha; cases h; exact Zv Z18s
 split at h
 ·rename_i ha; obtain rfl := isT_eq ha; cases h; exact Zv Z18t
 cases h
def Zw : FnH := ⟨[(2,⟨(bm 38 36),[(5,17)],some 1000000,none⟩)],[]⟩
theorem Zcz : Enters Tg 39 := ⟨Tryz.f39,Tryz.func39,by kernel_rfl,by kernel_rfl⟩
noncomputable def Z5g : Hints := ⟨[],[(39,Tryz.f39,Zw)],[303,305,306,308,253,1000032,1000060,2000026,2000040,2000062,2000034]⟩
theorem Z4w {m n : Nat} {ds : List D} {d : D} (h : funD Tg Z5g m n Zw Tryz.f39 ds = some d) : DataSem Tg 39 ds d := Z0 (H := Z5g) SpOk.nil mixed (InlOk.cons Tryz.func39 Zcz InlOk.nil) Tryz.func39 Zcz h
def Z12v : List D := [(D.agg [(D.list 3 (some 3) [(D.v (.int .i64 (-1 : Int))),(D.v (.int .u8 (5 : Int))),w2,w5,w29,w32,z0,z0,z0,z0,z0,z0,z0,z0,z0,z0,z0,z0,(D.list 1 (some 1) [(D.v (.int .u8 (5 : Int))),w2,w5,w29,w32,z0,z0,z0,z0,z0,z0,z0,z0,z0,z0,z0,z0]),n0l,zI,(D.v (.int .u8 (3 : Int))),w1,w2,w3,z0,z0,z0,z0,z0,z0,z0,z0,z0,z0,z0,z0,z0,(D.list 1 (some 1) [(D.v (.int .u8 (3 : Int))),w1,w2,w3,z0,z0,z0,z0,z0,z0,z0,z0,z0,z0,z0,z0,z0]),n0l,zI,(D.v (.int .u8 (5 : Int))),w2,w5,w29,w32,z0,z0,z0,z0,z0,z0,z0,z0,z0,z0,z0,z0,(D.list 1 (some 1) [(D.v (.int .u8 (5 : Int))),w2,w5,w29,w32,z0,z0,z0,z0,z0,z0,z0,z0,z0,z0,z0,z0]),n0l])]),(D.v (.int .i64 (1 : Int)))]
def Z12w : D := (D.list 2 none [(D.v (.int .u8 (5 : Int))),w2,w5,w29,w32,z0,z0,z0,z0,z0,z0,z0,z0,z0,z0,z0,z0,(D.v (.int .u8 (3 : Int))),w1,w2,w3,z0,z0,z0,z0,z0,z0,z0,z0,z0,z0,z0,z0,z0])
def Z12x : List D := [(D.agg [(D.list 3 (some 3) [(D.v (.int .i64 (-1 : Int))),(D.v (.int .u8 (5 : Int))),w2,w5,w29,w32,z0,z0,z0,z0,z0,z0,z0,z0,z0,z0,z0,z0,(D.list 1 (some 1) [(D.v (.int .u8 (5 : Int))),w2,w5,w29,w32,z0,z0,z0,z0,z0,z0,z0,z0,z0,z0,z0,z0]),n0l,zI,(D.v (.int .u8 (3 : Int))),w1,w2,w3,z0,z0,z0,z0,z0,z0,z0,z0,z0,z0,z0,z0,z0,(D.list 1 (some 1) [(D.v (.int .u8 (3 : Int))),w1,w2,w3,z0,z0,z0,z0,z0,z0,z0,z0,z0,z0,z0,z0,z0]),n0l,zI,(D.v (.int .u8 (5 : Int))),w2,w5,w29,w32,z0,z0,z0,z0,z0,z0,z0,z0,z0,z0,z0,z0,(D.list 1 (some 1) [(D.v (.int .u8 (5 : Int))),w2,w5,w29,w32,z0,z0,z0,z0,z0,z0,z0,z0,z0,z0,z0,z0]),n0l])]),(D.v (.int .i64 (2 : Int)))]
def Z12y : D := (D.list 2 none [(D.v (.int .u8 (5 : Int))),w2,w5,w29,w32,z0,z0,z0,z0,z0,z0,z0,z0,z0,z0,z0,z0,(D.v (.int .u8 (5 : Int))),w2,w5,w29,w32,z0,z0,z0,z0,z0,z0,z0,z0,z0,z0,z0,z0])
def Z12z : List D := [(D.agg [(D.list 3 (some 3) [(D.v (.int .i64 (-1 : Int))),(D.v (.int .u8 (5 : Int))),w2,w5,w29,w32,z0,z0,z0,z0,z0,z0,z0,z0,z0,z0,z0,z0,(D.list 1 (some 1) [(D.v (.int .u8 (5 : Int))),w2,w5,w29,w32,z0,z0,z0,z0,z0,z0,z0,z0,z0,z0,z0,z0]),n0l,zI,(D.v (.int .u8 (3 : Int))),w1,w2,w3,z0,z0,z0,z0,z0,z0,z0,z0,z0,z0,z0,z0,z0,(D.list 1 (some 1) [(D.v (.int .u8 (3 : Int))),w1,w2,w4,z0,z0,z0,z0,z0,z0,z0,z0,z0,z0,z0,z0,z0]),n0l,zI,(D.v (.int .u8 (5 : Int))),w2,w5,w29,w32,z0,z0,z0,z0,z0,z0,z0,z0,z0,z0,z0,z0,(D.list 1 (some 1) [(D.v (.int .u8 (5 : Int))),w2,w5,w29,w32,z0,z0,z0,z0,z0,z0,z0,z0,z0,z0,z0,z0]),n0l])]),(D.v (.int .i64 (1 : Int)))]
def Z130 : D := (D.list 2 none [(D.v (.int .u8 (5 : Int))),w2,w5,w29,w32,z0,z0,z0,z0,z0,z0,z0,z0,z0,z0,z0,z0,(D.v (.int .u8 (3 : Int))),w1,w2,w3,z0,z0,z0,z0,z0,z0,z0,z0,z0,z0,z0,z0,z0])
def Z131 : List D := [(D.agg [(D.list 3 (some 3) [(D.v (.int .i64 (-1 : Int))),(D.v (.int .u8 (5 : Int))),w2,w5,w29,w32,z0,z0,z0,z0,z0,z0,z0,z0,z0,z0,z0,z0,(D.list 1 (some 1) [(D.v (.int .u8 (5 : Int))),w2,w5,w29,w32,z0,z0,z0,z0,z0,z0,z0,z0,z0,z0,z0,z0]),n0l,zI,(D.v (.int .u8 (3 : Int))),w1,w2,w3,z0,z0,z0,z0,z0,z0,z0,z0,z0,z0,z0,z0,z0,(D.list 1 (some 1) [(D.v (.int .u8 (3 : Int))),w1,w2,w4,z0,z0,z0,z0,z0,z0,z0,z0,z0,z0,z0,z0,z0]),n0l,zI,(D.v (.int .u8 (5 : Int))),w2,w5,w29,w32,z0,z0,z0,z0,z0,z0,z0,z0,z0,z0,z0,z0,(D.list 1 (some 1) [(D.v (.int .u8 (5 : Int))),w2,w5,w29,w32,z0,z0,z0,z0,z0,z0,z0,z0,z0,z0,z0,z0]),n0l])]),(D.v (.int .i64 (2 : Int)))]
def Z132 : D := (D.list 2 none [(D.v (.int .u8 (5 : Int))),w2,w5,w29,w32,z0,z0,z0,z0,z0,z0,z0,z0,z0,z0,z0,z0,(D.v (.int .u8 (5 : Int))),w2,w5,w29,w32,z0,z0,z0,z0,z0,z0,z0,z0,z0,z0,z0,z0])
def Z133 : List D := [(D.agg [(D.list 3 (some 3) [(D.v (.int .i64 (-1 : Int))),(D.v (.int .u8 (5 : Int))),w2,w5,w29,w32,z0,z0,z0,z0,z0,z0,z0,z0,z0,z0,z0,z0,(D.list 1 (some 1) [(D.v (.int .u8 (5 : Int))),w2,w5,w29,w32,z0,z0,z0,z0,z0,z0,z0,z0,z0,z0,z0,z0]),n0l,zI,(D.v (.int .u8 (3 : Int))),w1,w2,w3,z0,z0,z0,z0,z0,z0,z0,z0,z0,z0,z0,z0,z0,(D.list 1 (some 1) [(D.v (.int .u8 (3 : Int))),w1,w2,w4,z0,z0,z0,z0,z0,z0,z0,z0,z0,z0,z0,z0,z0]),n0l,(D.v (.int .i64 (1 : Int))),(D.v (.int .u8 (3 : Int))),w1,w2,w4,z0,z0,z0,z0,z0,z0,z0,z0,z0,z0,z0,z0,z0,(D.list 1 (some 1) [(D.v (.int .u8 (3 : Int))),w1,w2,w4,z0,z0,z0,z0,z0,z0,z0,z0,z0,z0,z0,z0,z0]),n0l])]),(D.v (.int .i64 (2 : Int)))]
def Z134 : D := (D.list 3 none [(D.v (.int .u8 (5 : Int))),w2,w5,w29,w32,z0,z0,z0,z0,z0,z0,z0,z0,z0,z0,z0,z0,(D.v (.int .u8 (3 : Int))),w1,w2,w3,z0,z0,z0,z0,z0,z0,z0,z0,z0,z0,z0,z0,z0,(D.v (.int .u8 (3 : Int))),w1,w2,w4,z0,z0,z0,z0,z0,z0,z0,z0,z0,z0,z0,z0,z0])
def Z135 : List D := [(D.agg [(D.list 3 (some 3) [(D.v (.int .i64 (-1 : Int))),(D.v (.int .u8 (5 : Int))),w2,w5,w29,w32,z0,z0,z0,z0,z0,z0,z0,z0,z0,z0,z0,z0,(D.list 1 (some 1) [(D.v (.int .u8 (5 : Int))),w2,w5,w29,w32,z0,z0,z0,z0,z0,z0,z0,z0,z0,z0,z0,z0]),n0l,zI,(D.v (.int .u8 (5 : Int))),w2,w5,w29,w32,z0,z0,z0,z0,z0,z0,z0,z0,z0,z0,z0,z0,(D.list 1 (some 1) [(D.v (.int .u8 (5 : Int))),w2,w5,w29,w32,z0,z0,z0,z0,z0,z0,z0,z0,z0,z0,z0,z0]),n0l,(D.v (.int .i64 (1 : Int))),(D.v (.int .u8 (3 : Int))),w1,w2,w4,z0,z0,z0,z0,z0,z0,z0,z0,z0,z0,z0,z0,z0,(D.list 1 (some 1) [(D.v (.int .u8 (3 : Int))),w1,w2,w4,z0,z0,z0,z0,z0,z0,z0,z0,z0,z0,z0,z0,z0]),n0l])]),(D.v (.int .i64 (2 : Int)))]
def Z136 : D := (D.list 3 none [(D.v (.int .u8 (5 : Int))),w2,w5,w29,w32,z0,z0,z0,z0,z0,z0,z0,z0,z0,z0,z0,z0,(D.v (.int .u8 (5 : Int))),w2,w5,w29,w32,z0,z0,z0,z0,z0,z0,z0,z0,z0,z0,z0,z0,(D.v (.int .u8 (3 : Int))),w1,w2,w4,z0,z0,z0,z0,z0,z0,z0,z0,z0,z0,z0,z0,z0])
theorem Z1cf : funD Tg Z5g 100000 60 Zw Tryz.f39 Z12v = some Z12w := by kernel_rfl
theorem Z1cg : funD Tg Z5g 100000 60 Zw Tryz.f39 Z12x = some Z12y := by kernel_rfl
theorem Z1ch : funD Tg Z5g 100000 60 Zw Tryz.f39 Z12z = some Z130 := by kernel_rfl
theorem Z1ci : funD Tg Z5g 100000 60 Zw Tryz.f39 Z131 = some Z132 := by kernel_rfl
theorem Z1cj : funD Tg Z5g 100000 60 Zw Tryz.f39 Z133 = some Z134 := by kernel_rfl
theorem Z1ck : funD Tg Z5g 100000 60 Zw Tryz.f39 Z135 = some Z136 := by kernel_rfl
def Zyf (ds : List D) : Option D := if isT Z12v ds then some Z12w else (if isT Z12x ds then some Z12y else (if isT Z12z ds then some Z130 else (if isT Z131 ds then some Z132 else (if isT Z133 ds then some Z134 else (if isT Z135 ds then some Z136 else (none))))))
theorem td_ref26_Line : ∀ ds d,Zyf ds = some d → DataSem Tg 39 ds d := by
 intro ds d h
 unfold Zyf at h
 split at h
 ·rename_i ha; obtain rfl := isT_eq ha; cases h; exact Z4w Z1cf
 split at h
 ·rename_i ha; obtain rfl := isT_eq ha; cases h; exact Z4w Z1cg
 split at h
 ·rename_i ha; obtain rfl := isT_eq ha; cases h; exact Z4w Z1ch
 split at h
 ·rename_i ha; obtain rfl := isT_eq ha; cases h; exact Z4w Z1ci
 split at h
 ·rename_i ha; obtain rfl := isT_eq ha; cases h; exact Z4w Z1cj
 split at h
 ·rename_i ha; obtain rfl := isT_eq ha; cases h; exact Z4w Z1ck
 cases h
def Z1j : FnH := ⟨[(3,⟨(bm 398 42),[],none,none⟩)],[]⟩
theorem Za2 : Enters Tg 60 := ⟨Tryz.f60,Tryz.func60,by kernel_rfl,by kernel_rfl⟩
noncomputable def Z7h : Hints := ⟨[(34,Zv6),(37,Z99),(39,Zyf)],[(60,Tryz.f60,Z1j)],[303,305,306,308,253,1000032,1000060,2000026,2000040,2000062,2000034]⟩
theorem Z89 {m n : Nat} {ds : List D} {d : D} (h : funD Tg Z7h m n Z1j Tryz.f60 ds = some d) : DataSem Tg 60 ds d := Z0 (H := Z7h) (SpOk.cons td_ref26_Depth (SpOk.cons td_ref25_SameIDs (SpOk.cons td_ref26_Line SpOk.nil))) mixed (InlOk.cons Tryz.func60 Za2 InlOk.nil) Tryz.func60 Za2 h
def Z10k : List D := [(D.agg [(D.list 3 (some 3) [(D.v (.int .i64 (-1 : Int))),(D.v (.int .u8 (5 : Int))),w2,w5,w29,w32,z0,z0,z0,z0,z0,z0,z0,z0,z0,z0,z0,z0,(D.list 1 (some 1) [(D.v (.int .u8 (5 : Int))),w2,w5,w29,w32,z0,z0,z0,z0,z0,z0,z0,z0,z0,z0,z0,z0]),n0l,zI,(D.v (.int .u8 (3 : Int))),w1,w2,w3,z0,z0,z0,z0,z0,z0,z0,z0,z0,z0,z0,z0,z0,(D.list 1 (some 1) [(D.v (.int .u8 (3 : Int))),w1,w2,w3,z0,z0,z0,z0,z0,z0,z0,z0,z0,z0,z0,z0,z0]),n0l,zI,(D.v (.int .u8 (5 : Int))),w2,w5,w29,w32,z0,z0,z0,z0,z0,z0,z0,z0,z0,z0,z0,z0,(D.list 1 (some 1) [(D.v (.int .u8 (5 : Int))),w2,w5,w29,w32,z0,z0,z0,z0,z0,z0,z0,z0,z0,z0,z0,z0]),n0l])]),(D.v (.int .i64 (1 : Int))),(D.list 2 (some 2) [(D.list 2 (some 2) [(D.v (.int .u8 (5 : Int))),w2,w5,w29,w32,z0,z0,z0,z0,z0,z0,z0,z0,z0,z0,z0,z0,(D.v (.int .u8 (3 : Int))),w1,w2,w3,z0,z0,z0,z0,z0,z0,z0,z0,z0,z0,z0,z0,z0]),(D.list 2 (some 2) [(D.v (.int .u8 (5 : Int))),w2,w5,w29,w32,z0,z0,z0,z0,z0,z0,z0,z0,z0,z0,z0,z0,(D.v (.int .u8 (5 : Int))),w2,w5,w29,w32,z0,z0,z0,z0,z0,z0,z0,z0,z0,z0,z0,z0])])]
def Z10l : D := bt
def Z10m : List D := [(D.agg [(D.list 3 (some 3) [(D.v (.int .i64 (-1 : Int))),(D.v (.int .u8 (5 : Int))),w2,w5,w29,w32,z0,z0,z0,z0,z0,z0,z0,z0,z0,z0,z0,z0,(D.list 1 (some 1) [(D.v (.int .u8 (5 : Int))),w2,w5,w29,w32,z0,z0,z0,z0,z0,z0,z0,z0,z0,z0,z0,z0]),n0l,zI,(D.v (.int .u8 (3 : Int))),w1,w2,w3,z0,z0,z0,z0,z0,z0,z0,z0,z0,z0,z0,z0,z0,(D.list 1 (some 1) [(D.v (.int .u8 (3 : Int))),w1,w2,w4,z0,z0,z0,z0,z0,z0,z0,z0,z0,z0,z0,z0,z0]),n0l,zI,(D.v (.int .u8 (5 : Int))),w2,w5,w29,w32,z0,z0,z0,z0,z0,z0,z0,z0,z0,z0,z0,z0,(D.list 1 (some 1) [(D.v (.int .u8 (5 : Int))),w2,w5,w29,w32,z0,z0,z0,z0,z0,z0,z0,z0,z0,z0,z0,z0]),n0l])]),(D.v (.int .i64 (1 : Int))),(D.list 2 (some 2) [(D.list 2 (some 2) [(D.v (.int .u8 (5 : Int))),w2,w5,w29,w32,z0,z0,z0,z0,z0,z0,z0,z0,z0,z0,z0,z0,(D.v (.int .u8 (3 : Int))),w1,w2,w3,z0,z0,z0,z0,z0,z0,z0,z0,z0,z0,z0,z0,z0]),(D.list 2 (some 2) [(D.v (.int .u8 (5 : Int))),w2,w5,w29,w32,z0,z0,z0,z0,z0,z0,z0,z0,z0,z0,z0,z0,(D.v (.int .u8 (5 : Int))),w2,w5,w29,w32,z0,z0,z0,z0,z0,z0,z0,z0,z0,z0,z0,z0])])]
def Z10n : D := bt
def Z10o : List D := [(D.agg [(D.list 3 (some 3) [(D.v (.int .i64 (-1 : Int))),(D.v (.int .u8 (5 : Int))),w2,w5,w29,w32,z0,z0,z0,z0,z0,z0,z0,z0,z0,z0,z0,z0,(D.list 1 (some 1) [(D.v (.int .u8 (5 : Int))),w2,w5,w29,w32,z0,z0,z0,z0,z0,z0,z0,z0,z0,z0,z0,z0]),n0l,zI,(D.v (.int .u8 (3 : Int))),w1,w2,w3,z0,z0,z0,z0,z0,z0,z0,z0,z0,z0,z0,z0,z0,(D.list 1 (some 1) [(D.v (.int .u8 (3 : Int))),w1,w2,w4,z0,z0,z0,z0,z0,z0,z0,z0,z0,z0,z0,z0,z0]),n0l,(D.v (.int .i64 (1 : Int))),(D.v (.int .u8 (3 : Int))),w1,w2,w4,z0,z0,z0,z0,z0,z0,z0,z0,z0,z0,z0,z0,z0,(D.list 1 (some 1) [(D.v (.int .u8 (3 : Int))),w1,w2,w4,z0,z0,z0,z0,z0,z0,z0,z0,z0,z0,z0,z0,z0]),n0l])]),(D.v (.int .i64 (2 : Int))),(D.list 1 (some 1) [(D.list 3 (some 3) [(D.v (.int .u8 (5 : Int))),w2,w5,w29,w32,z0,z0,z0,z0,z0,z0,z0,z0,z0,z0,z0,z0,(D.v (.int .u8 (3 : Int))),w1,w2,w3,z0,z0,z0,z0,z0,z0,z0,z0,z0,z0,z0,z0,z0,(D.v (.int .u8 (3 : Int))),w1,w2,w4,z0,z0,z0,z0,z0,z0,z0,z0,z0,z0,z0,z0,z0])])]
def Z10p : D := bt
def Z10q : List D := [(D.agg [(D.list 3 (some 3) [(D.v (.int .i64 (-1 : Int))),(D.v (.int .u8 (5 : Int))),w2,w5,w29,w32,z0,z0,z0,z0,z0,z0,z0,z0,z0,z0,z0,z0,(D.list 1 (some 1) [(D.v (.int .u8 (5 : Int))),w2,w5,w29,w32,z0,z0,z0,z0,z0,z0,z0,z0,z0,z0,z0,z0]),n0l,zI,(D.v (.int .u8 (5 : Int))),w2,w5,w29,w32,z0,z0,z0,z0,z0,z0,z0,z0,z0,z0,z0,z0,(D.list 1 (some 1) [(D.v (.int .u8 (5 : Int))),w2,w5,w29,w32,z0,z0,z0,z0,z0,z0,z0,z0,z0,z0,z0,z0]),n0l,(D.v (.int .i64 (1 : Int))),(D.v (.int .u8 (3 : Int))),w1,w2,w4,z0,z0,z0,z0,z0,z0,z0,z0,z0,z0,z0,z0,z0,(D.list 1 (some 1) [(D.v (.int .u8 (3 : Int))),w1,w2,w4,z0,z0,z0,z0,z0,z0,z0,z0,z0,z0,z0,z0,z0]),n0l])]),(D.v (.int .i64 (2 : Int))),(D.list 1 (some 1) [(D.list 3 (some 3) [(D.v (.int .u8 (5 : Int))),w2,w5,w29,w32,z0,z0,z0,z0,z0,z0,z0,z0,z0,z0,z0,z0,(D.v (.int .u8 (5 : Int))),w2,w5,w29,w32,z0,z0,z0,z0,z0,z0,z0,z0,z0,z0,z0,z0,(D.v (.int .u8 (3 : Int))),w1,w2,w4,z0,z0,z0,z0,z0,z0,z0,z0,z0,z0,z0,z0,z0])])]
def Z10r : D := bt
theorem Z1ag : funD Tg Z7h 100000 60 Z1j Tryz.f60 Z10k = some Z10l := by kernel_rfl
theorem Z1ah : funD Tg Z7h 100000 60 Z1j Tryz.f60 Z10m = some Z10n := by kernel_rfl
theorem Z1ai : funD Tg Z7h 100000 60 Z1j Tryz.f60 Z10o = some Z10p := by kernel_rfl
theorem Z1aj : funD Tg Z7h 100000 60 Z1j Tryz.f60 Z10q = some Z10r := by kernel_rfl
def Zv7 (ds : List D) : Option D := if isT Z10k ds then some Z10l else (if isT Z10m ds then some Z10n else (if isT Z10o ds then some Z10p else (if isT Z10q ds then some Z10r else (none))))
theorem td_law28_lines : ∀ ds d,Zv7 ds = some d → DataSem Tg 60 ds d := by
 intro ds d h
 unfold Zv7 at h
 split at h
 ·rename_i ha; obtain rfl := isT_eq ha; cases h; exact Z89 Z1ag
 split at h
 ·rename_i ha; obtain rfl := isT_eq ha; cases h; exact Z89 Z1ah
 split at h
 ·rename_i ha; obtain rfl := isT_eq ha; cases h; exact Z89 Z1ai
 split at h
 ·rename_i ha; obtain rfl := isT_eq ha; cases h; exact Z89 Z1aj
 cases h
def Z41 : FnH := ⟨[(4,⟨(bm 44 80),[],some 1000000,none⟩)],[]⟩
def Zsq : FnH := ⟨[(4,⟨(bm 35 27),[],some 1000000,none⟩)],[]⟩
def Zs9 : FnH := ⟨[(4,⟨(bm 44 89),[],some 1000000,none⟩)],[]⟩
theorem Zd0 : Enters Tg 61 := ⟨Tryz.f61,Tryz.func61,by kernel_rfl,by kernel_rfl⟩
theorem Zsr : Enters Tg 113 := ⟨Tryz.f113,Tryz.func113,by kernel_rfl,by kernel_rfl⟩
theorem Zsa : Enters Tg 156 := ⟨Tryz.f156,Tryz.func156,by kernel_rfl,by kernel_rfl⟩
noncomputable def Znw : Hints := ⟨[(37,Z99)],[(61,Tryz.f61,Z41),(113,Tryz.f113,Zsq),(156,Tryz.f156,Zs9)],[303,305,306,308,253,1000032,1000060,2000026,2000040,2000062,2000034]⟩
theorem Zui {m n : Nat} {ds : List D} {d : D} (h : funD Tg Znw m n Z41 Tryz.f61 ds = some d) : DataSem Tg 61 ds d := Z0 (H := Znw) (SpOk.cons td_ref25_SameIDs SpOk.nil) mixed (InlOk.cons Tryz.func61 Zd0 (InlOk.cons Tryz.func113 Zsr (InlOk.cons Tryz.func156 Zsa InlOk.nil))) Tryz.func61 Zd0 h
def Z137 : List D := [(D.agg [(D.list 3 (some 3) [(D.v (.int .i64 (-1 : Int))),(D.v (.int .u8 (5 : Int))),w2,w5,w29,w32,z0,z0,z0,z0,z0,z0,z0,z0,z0,z0,z0,z0,(D.list 1 (some 1) [(D.v (.int .u8 (5 : Int))),w2,w5,w29,w32,z0,z0,z0,z0,z0,z0,z0,z0,z0,z0,z0,z0]),n0l,zI,(D.v (.int .u8 (3 : Int))),w1,w2,w3,z0,z0,z0,z0,z0,z0,z0,z0,z0,z0,z0,z0,z0,(D.list 1 (some 1) [(D.v (.int .u8 (3 : Int))),w1,w2,w4,z0,z0,z0,z0,z0,z0,z0,z0,z0,z0,z0,z0,z0]),n0l,(D.v (.int .i64 (1 : Int))),(D.v (.int .u8 (3 : Int))),w1,w2,w4,z0,z0,z0,z0,z0,z0,z0,z0,z0,z0,z0,z0,z0,(D.list 1 (some 1) [(D.v (.int .u8 (3 : Int))),w1,w2,w4,z0,z0,z0,z0,z0,z0,z0,z0,z0,z0,z0,z0,z0]),n0l])]),(D.agg [(D.list 3 (some 3) [(D.v (.int .i64 (-1 : Int))),(D.v (.int .u8 (5 : Int))),w2,w5,w29,w32,z0,z0,z0,z0,z0,z0,z0,z0,z0,z0,z0,z0,(D.list 1 (some 1) [(D.v (.int .u8 (5 : Int))),w2,w5,w29,w32,z0,z0,z0,z0,z0,z0,z0,z0,z0,z0,z0,z0]),n0l,zI,(D.v (.int .u8 (3 : Int))),w1,w2,w3,z0,z0,z0,z0,z0,z0,z0,z0,z0,z0,z0,z0,z0,(D.list 1 (some 1) [(D.v (.int .u8 (3 : Int))),w1,w2,w4,z0,z0,z0,z0,z0,z0,z0,z0,z0,z0,z0,z0,z0]),n0l,(D.v (.int .i64 (1 : Int))),(D.v (.int .u8 (3 : Int))),w1,w2,w4,z0,z0,z0,z0,z0,z0,z0,z0,z0,z0,z0,z0,z0,(D.list 1 (some 1) [(D.v (.int .u8 (3 : Int))),w1,w2,w4,z0,z0,z0,z0,z0,z0,z0,z0,z0,z0,z0,z0,z0]),n0l])])]
def Z138 : D := (D.v (.int .i64 (1 : Int)))
def Z139 : List D := [(D.agg [(D.list 1 (some 1) [(D.v (.int .i64 (-1 : Int))),(D.v (.int .u8 (5 : Int))),w2,w5,w29,w32,z0,z0,z0,z0,z0,z0,z0,z0,z0,z0,z0,z0,(D.list 1 (some 1) [(D.v (.int .u8 (5 : Int))),w2,w5,w29,w32,z0,z0,z0,z0,z0,z0,z0,z0,z0,z0,z0,z0]),n0l])]),(D.agg [(D.list 1 (some 1) [(D.v (.int .i64 (-1 : Int))),(D.v (.int .u8 (5 : Int))),w2,w5,w29,w32,z0,z0,z0,z0,z0,z0,z0,z0,z0,z0,z0,z0,(D.list 1 (some 1) [(D.v (.int .u8 (5 : Int))),w2,w5,w29,w32,z0,z0,z0,z0,z0,z0,z0,z0,z0,z0,z0,z0]),n0l])])]
def Z13a : D := (D.v (.int .i64 (1 : Int)))
theorem Z1cl : funD Tg Znw 100000 60 Z41 Tryz.f61 Z137 = some Z138 := by kernel_rfl
theorem Z1cm : funD Tg Znw 100000 60 Z41 Tryz.f61 Z139 = some Z13a := by kernel_rfl
def Zr0 (ds : List D) : Option D := if isT Z137 ds then some Z138 else (if isT Z139 ds then some Z13a else (none))
theorem td_ref26_Same : ∀ ds d,Zr0 ds = some d → DataSem Tg 61 ds d := by
 intro ds d h
 unfold Zr0 at h
 split at h
 ·rename_i ha; obtain rfl := isT_eq ha; cases h; exact Zui Z1cl
 split at h
 ·rename_i ha; obtain rfl := isT_eq ha; cases h; exact Zui Z1cm
 cases h
def Z58 : FnH := ⟨[],[]⟩
def Zh6 : FnH := ⟨[],[]⟩
def Ze7 : FnH := ⟨[],[]⟩
def Ziq : FnH := ⟨[],[]⟩
theorem Za3 : Enters Tg 16 := ⟨Tryz.f16,Tryz.func16,by kernel_rfl,by kernel_rfl⟩
theorem Zh7 : Enters Tg 24 := ⟨Tryz.f24,Tryz.func24,by kernel_rfl,by kernel_rfl⟩
theorem Ze8 : Enters Tg 27 := ⟨Tryz.f27,Tryz.func27,by kernel_rfl,by kernel_rfl⟩
theorem Zir : Enters Tg 41 := ⟨Tryz.f41,Tryz.func41,by kernel_rfl,by kernel_rfl⟩
noncomputable def Zsb : Hints := ⟨[(17,Zjb),(18,Z54),(23,Zyc),(28,Z3p),(31,Z71),(37,Z99),(56,Zbo),(57,Zbn),(58,Zs8),(59,Zye),(60,Zv7),(61,Zr0)],[(16,Tryz.f16,Z58),(24,Tryz.f24,Zh6),(27,Tryz.f27,Ze7),(41,Tryz.f41,Ziq)],[303,305,306,308,253,1000032,1000060,2000026,2000040,2000062,2000034]⟩
theorem Z14y {m n : Nat} {ds : List D} {d : D} (h : funD Tg Zsb m n Z58 Tryz.f16 ds = some d) : DataSem Tg 16 ds d := Z0 (H := Zsb) (SpOk.cons td_ptrees_Start (SpOk.cons td_ptrees_State_Step (SpOk.cons td_ptrees_Run (SpOk.cons td_ptrees_State_Prepare (SpOk.cons td_ptrees_State_Tree (SpOk.cons td_ref25_SameIDs (SpOk.cons td_law23_Policy (SpOk.cons td_ref23_Any (SpOk.cons td_law23_Detour (SpOk.cons td_trees_Size (SpOk.cons td_law28_lines (SpOk.cons td_ref26_Same SpOk.nil)))))))))))) mixed (InlOk.cons Tryz.func16 Za3 (InlOk.cons Tryz.func24 Zh7 (InlOk.cons Tryz.func27 Ze8 (InlOk.cons Tryz.func41 Zir InlOk.nil)))) Tryz.func16 Za3 h
def Z10s : List D := []
def Z10t : D := bt
theorem Z1ak : funD Tg Zsb 100000 60 Z58 Tryz.f16 Z10s = some Z10t := by kernel_rfl
def Zv8 (ds : List D) : Option D := if isT Z10s ds then some Z10t else (none)
theorem td_law28_lives : ∀ ds d,Zv8 ds = some d → DataSem Tg 16 ds d := by
 intro ds d h
 unfold Zv8 at h
 split at h
 ·rename_i ha; obtain rfl := isT_eq ha; cases h; exact Z14y Z1ak
 cases h
def Z61 : FnH := ⟨[],[]⟩
theorem Zd1 : Enters Tg 102 := ⟨Tryz.f102,Tryz.func102,by kernel_rfl,by kernel_rfl⟩
noncomputable def Zv9 : Hints := ⟨[(57,Zbn)],[(102,Tryz.f102,Z61)],[303,305,306,308,253,1000032,1000060,2000026,2000040,2000062,2000034]⟩
theorem Z16v {m n : Nat} {ds : List D} {d : D} (h : funD Tg Zv9 m n Z61 Tryz.f102 ds = some d) : DataSem Tg 102 ds d := Z0 (H := Zv9) (SpOk.cons td_ref23_Any SpOk.nil) mixed (InlOk.cons Tryz.func102 Zd1 InlOk.nil) Tryz.func102 Zd1 h
def Z13b : List D := []
def Zbp : D := (D.agg [(D.list 1 (some 1) [(D.v (.int .i64 (-1 : Int))),(D.v (.int .u8 (5 : Int))),w2,w5,w29,w32,z0,z0,z0,z0,z0,z0,z0,z0,z0,z0,z0,z0,(D.list 1 (some 1) [(D.v (.int .u8 (5 : Int))),w2,w5,w29,w32,z0,z0,z0,z0,z0,z0,z0,z0,z0,z0,z0,z0]),n0l])])
theorem Z1cn : funD Tg Zv9 100000 60 Z61 Tryz.f102 Z13b = some Zbp := by kernel_rfl
def Zyg (ds : List D) : Option D := if isT Z13b ds then some Zbp else (none)
theorem td_ref26_Root : ∀ ds d,Zyg ds = some d → DataSem Tg 102 ds d := by
 intro ds d h
 unfold Zyg at h
 split at h
 ·rename_i ha; obtain rfl := isT_eq ha; cases h; exact Z16v Z1cn
 cases h
def Z62 : FnH := ⟨[(4,⟨(bm 44 119),[],some 1000000,none⟩),(9,⟨(bm 76 119),[],some 1000000,none⟩)],[]⟩
def Zss : FnH := ⟨[(4,⟨(bm 35 27),[],some 1000000,none⟩)],[]⟩
def Zsc : FnH := ⟨[(4,⟨(bm 44 89),[],some 1000000,none⟩)],[]⟩
theorem Zd2 : Enters Tg 100 := ⟨Tryz.f100,Tryz.func100,by kernel_rfl,by kernel_rfl⟩
theorem Zst : Enters Tg 113 := ⟨Tryz.f113,Tryz.func113,by kernel_rfl,by kernel_rfl⟩
theorem Zsd : Enters Tg 156 := ⟨Tryz.f156,Tryz.func156,by kernel_rfl,by kernel_rfl⟩
noncomputable def Zva : Hints := ⟨[],[(100,Tryz.f100,Z62),(113,Tryz.f113,Zss),(156,Tryz.f156,Zsc)],[303,305,306,308,253,1000032,1000060,2000026,2000040,2000062,2000034]⟩
theorem Z16w {m n : Nat} {ds : List D} {d : D} (h : funD Tg Zva m n Z62 Tryz.f100 ds = some d) : DataSem Tg 100 ds d := Z0 (H := Zva) SpOk.nil mixed (InlOk.cons Tryz.func100 Zd2 (InlOk.cons Tryz.func113 Zst (InlOk.cons Tryz.func156 Zsd InlOk.nil))) Tryz.func100 Zd2 h
def Z13c : List D := [(D.agg [bf,bf,n0l,bf,n0l,zI,zI,zI]),(D.agg [bf,bf,n0l,bf,n0l,zI,zI,zI])]
def Z13d : D := (D.v (.int .i64 (1 : Int)))
theorem Z1co : funD Tg Zva 100000 60 Z62 Tryz.f100 Z13c = some Z13d := by kernel_rfl
def Zyh (ds : List D) : Option D := if isT Z13c ds then some Z13d else (none)
theorem td_ref23_Same : ∀ ds d,Zyh ds = some d → DataSem Tg 100 ds d := by
 intro ds d h
 unfold Zyh at h
 split at h
 ·rename_i ha; obtain rfl := isT_eq ha; cases h; exact Z16w Z1co
 cases h
def Z63 : FnH := ⟨[(3,⟨(bm 30 148),[],none,none⟩),(10,⟨(bm 270 148),[],none,none⟩),(19,⟨(bm 3854 148),[],none,none⟩)],[]⟩
def Zse : FnH := ⟨[],[]⟩
def Zlh : FnH := ⟨[(2,⟨(bm 76 28),[],some 1000000,none⟩)],[]⟩
def Zsf : FnH := ⟨[],[]⟩
theorem Zd3 : Enters Tg 19 := ⟨Tryz.f19,Tryz.func19,by kernel_rfl,by kernel_rfl⟩
theorem Zsg : Enters Tg 73 := ⟨Tryz.f73,Tryz.func73,by kernel_rfl,by kernel_rfl⟩
theorem Zli : Enters Tg 74 := ⟨Tryz.f74,Tryz.func74,by kernel_rfl,by kernel_rfl⟩
theorem Zsh : Enters Tg 75 := ⟨Tryz.f75,Tryz.func75,by kernel_rfl,by kernel_rfl⟩
noncomputable def Zvb : Hints := ⟨[(56,Zbo),(57,Zbn)],[(19,Tryz.f19,Z63),(73,Tryz.f73,Zse),(74,Tryz.f74,Zlh),(75,Tryz.f75,Zsf)],[303,305,306,308,253,1000032,1000060,2000026,2000040,2000062,2000034]⟩
theorem Z16x {m n : Nat} {ds : List D} {d : D} (h : funD Tg Zvb m n Z63 Tryz.f19 ds = some d) : DataSem Tg 19 ds d := Z0 (H := Zvb) (SpOk.cons td_law23_Policy (SpOk.cons td_ref23_Any SpOk.nil)) mixed (InlOk.cons Tryz.func19 Zd3 (InlOk.cons Tryz.func73 Zsg (InlOk.cons Tryz.func74 Zli (InlOk.cons Tryz.func75 Zsh InlOk.nil)))) Tryz.func19 Zd3 h
def Z13e : List D := [(D.agg [(D.v (.int .u8 (0 : Int))),n0l,n0l,(D.v (.int .u8 (0 : Int))),(D.v (.int .u8 (0 : Int))),(D.v (.int .u8 (0 : Int)))])]
def Z13f : D := (D.agg [bf,bf,n0l,bf,n0l,(D.v (.int .i64 (-1 : Int))),(D.v (.int .i64 (-1 : Int))),(D.v (.int .i64 (-1 : Int)))])
theorem Z1cp : funD Tg Zvb 100000 60 Z63 Tryz.f19 Z13e = some Z13f := by kernel_rfl
def Zyi (ds : List D) : Option D := if isT Z13e ds then some Z13f else (none)
theorem td_law23_R_Of : ∀ ds d,Zyi ds = some d → DataSem Tg 19 ds d := by
 intro ds d h
 unfold Zyi at h
 split at h
 ·rename_i ha; obtain rfl := isT_eq ha; cases h; exact Z16x Z1cp
 cases h
def Z64 : FnH := ⟨[],[]⟩
def Ze9 : FnH := ⟨[],[]⟩
def Zis : FnH := ⟨[],[]⟩
def Zfk : FnH := ⟨[],[]⟩
def Zh8 : FnH := ⟨[],[]⟩
def Zkc : FnH := ⟨[],[]⟩
theorem Zd4 : Enters Tg 40 := ⟨Tryz.f40,Tryz.func40,by kernel_rfl,by kernel_rfl⟩
theorem Zea : Enters Tg 95 := ⟨Tryz.f95,Tryz.func95,by kernel_rfl,by kernel_rfl⟩
theorem Zit : Enters Tg 24 := ⟨Tryz.f24,Tryz.func24,by kernel_rfl,by kernel_rfl⟩
theorem Zfl : Enters Tg 27 := ⟨Tryz.f27,Tryz.func27,by kernel_rfl,by kernel_rfl⟩
theorem Zh9 : Enters Tg 29 := ⟨Tryz.f29,Tryz.func29,by kernel_rfl,by kernel_rfl⟩
theorem Zkd : Enters Tg 41 := ⟨Tryz.f41,Tryz.func41,by kernel_rfl,by kernel_rfl⟩
noncomputable def Zvc : Hints := ⟨[(18,Z54),(19,Zyi),(28,Z3p),(31,Z71)],[(40,Tryz.f40,Z64),(95,Tryz.f95,Ze9),(24,Tryz.f24,Zis),(27,Tryz.f27,Zfk),(29,Tryz.f29,Zh8),(41,Tryz.f41,Zkc)],[303,305,306,308,253,1000032,1000060,2000026,2000040,2000062,2000034]⟩
theorem Z16y {m n : Nat} {ds : List D} {d : D} (h : funD Tg Zvc m n Z64 Tryz.f40 ds = some d) : DataSem Tg 40 ds d := Z0 (H := Zvc) (SpOk.cons td_ptrees_State_Step (SpOk.cons td_law23_R_Of (SpOk.cons td_ptrees_State_Prepare (SpOk.cons td_ptrees_State_Tree SpOk.nil)))) mixed (InlOk.cons Tryz.func40 Zd4 (InlOk.cons Tryz.func95 Zea (InlOk.cons Tryz.func24 Zit (InlOk.cons Tryz.func27 Zfl (InlOk.cons Tryz.func29 Zh9 (InlOk.cons Tryz.func41 Zkd InlOk.nil)))))) Tryz.func40 Zd4 h
def Z13g : List D := []
def Z13h : D := zI
theorem Z1cq : funD Tg Zvc 100000 60 Z64 Tryz.f40 Z13g = some Z13h := by kernel_rfl
def Zyj (ds : List D) : Option D := if isT Z13g ds then some Z13h else (none)
theorem td_law28_zero : ∀ ds d,Zyj ds = some d → DataSem Tg 40 ds d := by
 intro ds d h
 unfold Zyj at h
 split at h
 ·rename_i ha; obtain rfl := isT_eq ha; cases h; exact Z16y Z1cq
 cases h
end Go.Ev