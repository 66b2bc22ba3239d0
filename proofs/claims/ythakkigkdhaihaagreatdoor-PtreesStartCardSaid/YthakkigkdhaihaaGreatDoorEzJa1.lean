/- The examples of the chapter on the state machine of the tree,evaluated: each call at the arguments that come up. No conditions. -/
import Derived.Test.YthakkigkdhaihaaGreatDoorEzSo
set_option linter.unusedVariables false
set_option maxRecDepth 1000000
set_option maxHeartbeats 4000000
namespace Go.Ev
open Go Go.Proofs
def z0 : D := D.v (.int .u32 (0 : Int))
def bt : D := D.v (.bool true)
def bf : D := D.v (.bool false)
def n0l : D := D.list 0 (some 0) []
def w1 : D := D.v (.int .u32 (1 : Int))
def w2 : D := D.v (.int .u32 (2 : Int))
def w3 : D := D.v (.int .u32 (3 : Int))
def w4 : D := D.v (.int .u32 (4 : Int))
def w5 : D := D.v (.int .u32 (5 : Int))
def w29 : D := D.v (.int .u32 (29 : Int))
def w32 : D := D.v (.int .u32 (32 : Int))
def Z2m : FnH := ⟨[],[]⟩
def Zre : FnH := ⟨[],[]⟩
def Z6q : FnH := ⟨[(2,⟨(bm 3587 36),[(9,1)],none,none⟩)],[]⟩
def Zef : FnH := ⟨[],[]⟩
def Zhn : FnH := ⟨[],[]⟩
theorem Z7q : Enters Tg 144 := ⟨Tryz.f144,Tryz.func144,by kernel_rfl,by kernel_rfl⟩
theorem Zrf : Enters Tg 178 := ⟨Tryz.f178,Tryz.func178,by kernel_rfl,by kernel_rfl⟩
theorem Z6r : Enters Tg 177 := ⟨Tryz.f177,Tryz.func177,by kernel_rfl,by kernel_rfl⟩
theorem Zeg : Enters Tg 208 := ⟨Tryz.f208,Tryz.func208,by kernel_rfl,by kernel_rfl⟩
theorem Zho : Enters Tg 237 := ⟨Tryz.f237,Tryz.func237,by kernel_rfl,by kernel_rfl⟩
noncomputable def Zfs : Hints := ⟨[],[(144,Tryz.f144,Z2m),(178,Tryz.f178,Zre),(177,Tryz.f177,Z6q),(208,Tryz.f208,Zef),(237,Tryz.f237,Zhn)],[303,305,306,308,253,1000032,1000060,2000026,2000040,2000062,2000034]⟩
theorem Zq0 {m n : Nat} {ds : List D} {d : D} (h : funD Tg Zfs m n Z2m Tryz.f144 ds = some d) : DataSem Tg 144 ds d := Z0 (H := Zfs) SpOk.nil mixed (InlOk.cons Tryz.func144 Z7q (InlOk.cons Tryz.func178 Zrf (InlOk.cons Tryz.func177 Z6r (InlOk.cons Tryz.func208 Zeg (InlOk.cons Tryz.func237 Zho InlOk.nil))))) Tryz.func144 Z7q h
def Zvu : List D := [(D.agg [(D.v (.int .u8 (3 : Int))),w1,w2,w3,z0,z0,z0,z0,z0,z0,z0,z0,z0,z0,z0,z0,z0]),(D.agg [(D.v (.int .u8 (5 : Int))),w2,w5,w29,w32,z0,z0,z0,z0,z0,z0,z0,z0,z0,z0,z0,z0])]
def Zvv : D := (D.v (.int .i64 (-1 : Int)))
def Zvw : List D := [(D.agg [(D.v (.int .u8 (5 : Int))),w2,w5,w29,w32,z0,z0,z0,z0,z0,z0,z0,z0,z0,z0,z0,z0]),(D.agg [(D.v (.int .u8 (3 : Int))),w1,w2,w3,z0,z0,z0,z0,z0,z0,z0,z0,z0,z0,z0,z0,z0])]
def Zvx : D := (D.v (.int .i64 (1 : Int)))
theorem Z17z : funD Tg Zfs 100000 60 Z2m Tryz.f144 Zvu = some Zvv := by kernel_rfl
theorem Z180 : funD Tg Zfs 100000 60 Z2m Tryz.f144 Zvw = some Zvx := by kernel_rfl
def Z2t (ds : List D) : Option D := if isT Zvu ds then some Zvv else (if isT Zvw ds then some Zvx else (none))
theorem td_oids_Compare : ∀ ds d,Z2t ds = some d → DataSem Tg 144 ds d := by
 intro ds d h
 unfold Z2t at h
 split at h
 ·rename_i ha; obtain rfl := isT_eq ha; cases h; exact Zq0 Z17z
 split at h
 ·rename_i ha; obtain rfl := isT_eq ha; cases h; exact Zq0 Z180
 cases h
def Z22 : FnH := ⟨[],[]⟩
def Zaq : FnH := ⟨[],[]⟩
def Zhp : FnH := ⟨[],[]⟩
def Zj9 : FnH := ⟨[(4,⟨(bm 7169 38),[(10,17)],none,none⟩)],[]⟩
def Zo1 : FnH := ⟨[(6,⟨(bm 1924145348608 47),[(38,1)],none,none⟩)],[]⟩
def Zhq : FnH := ⟨[],[]⟩
def Zeh : FnH := ⟨[],[]⟩
theorem Z5y : Enters Tg 52 := ⟨Tryz.f52,Tryz.func52,by kernel_rfl,by kernel_rfl⟩
theorem Zar : Enters Tg 109 := ⟨Tryz.f109,Tryz.func109,by kernel_rfl,by kernel_rfl⟩
theorem Zhr : Enters Tg 103 := ⟨Tryz.f103,Tryz.func103,by kernel_rfl,by kernel_rfl⟩
theorem Zja : Enters Tg 153 := ⟨Tryz.f153,Tryz.func153,by kernel_rfl,by kernel_rfl⟩
theorem Zo2 : Enters Tg 117 := ⟨Tryz.f117,Tryz.func117,by kernel_rfl,by kernel_rfl⟩
theorem Zhs : Enters Tg 105 := ⟨Tryz.f105,Tryz.func105,by kernel_rfl,by kernel_rfl⟩
theorem Zei : Enters Tg 154 := ⟨Tryz.f154,Tryz.func154,by kernel_rfl,by kernel_rfl⟩
noncomputable def Z9t : Hints := ⟨[(144,Z2t)],[(52,Tryz.f52,Z22),(109,Tryz.f109,Zaq),(103,Tryz.f103,Zhp),(153,Tryz.f153,Zj9),(117,Tryz.f117,Zo1),(105,Tryz.f105,Zhq),(154,Tryz.f154,Zeh)],[303,305,306,308,253,1000032,1000060,2000026,2000040,2000062,2000034]⟩
theorem Zll {m n : Nat} {ds : List D} {d : D} (h : funD Tg Z9t m n Z22 Tryz.f52 ds = some d) : DataSem Tg 52 ds d := Z0 (H := Z9t) (SpOk.cons td_oids_Compare SpOk.nil) mixed (InlOk.cons Tryz.func52 Z5y (InlOk.cons Tryz.func109 Zar (InlOk.cons Tryz.func103 Zhr (InlOk.cons Tryz.func153 Zja (InlOk.cons Tryz.func117 Zo2 (InlOk.cons Tryz.func105 Zhs (InlOk.cons Tryz.func154 Zei InlOk.nil))))))) Tryz.func52 Z5y h
def Zrg : List D := [(D.v (.int .i64 (2 : Int))),(D.agg [(D.list 1 (some 1) [(D.v (.int .u8 (3 : Int))),w1,w2,w4,z0,z0,z0,z0,z0,z0,z0,z0,z0,z0,z0,z0,z0]),bt,bf,bf])]
def Zrh : D := (D.tup [(D.agg [zI,(D.v (.int .i64 (3 : Int))),(D.v (.int .i64 (3 : Int)))]),zI])
def Zri : List D := [(D.v (.int .i64 (2 : Int))),(D.agg [(D.list 1 (some 1) [(D.v (.int .u8 (3 : Int))),w1,w2,w4,z0,z0,z0,z0,z0,z0,z0,z0,z0,z0,z0,z0,z0]),bt,bt,bf])]
def Zrj : D := (D.tup [(D.agg [zI,zI,(D.v (.int .i64 (3 : Int)))]),zI])
theorem Z14s : funD Tg Z9t 100000 60 Z22 Tryz.f52 Zrg = some Zrh := by kernel_rfl
theorem Z14t : funD Tg Z9t 100000 60 Z22 Tryz.f52 Zri = some Zrj := by kernel_rfl
def Zn0 (ds : List D) : Option D := if isT Zrg ds then some Zrh else (if isT Zri ds then some Zrj else (none))
theorem td_counters_Start : ∀ ds d,Zn0 ds = some d → DataSem Tg 52 ds d := by
 intro ds d h
 unfold Zn0 at h
 split at h
 ·rename_i ha; obtain rfl := isT_eq ha; cases h; exact Zll Z14s
 split at h
 ·rename_i ha; obtain rfl := isT_eq ha; cases h; exact Zll Z14t
 cases h
def Z1l : FnH := ⟨[],[]⟩
theorem Z32 : Enters Tg 63 := ⟨Tryz.f63,Tryz.func63,by kernel_rfl,by kernel_rfl⟩
noncomputable def Z75 : Hints := ⟨[],[(63,Tryz.f63,Z1l)],[303,305,306,308,253,1000032,1000060,2000026,2000040,2000062,2000034]⟩
theorem Zqi {m n : Nat} {ds : List D} {d : D} (h : funD Tg Z75 m n Z1l Tryz.f63 ds = some d) : DataSem Tg 63 ds d := Z0 (H := Z75) SpOk.nil mixed (InlOk.cons Tryz.func63 Z32 InlOk.nil) Tryz.func63 Z32 h
def Zej : List D := [(D.list 1 (some 1) [(D.v (.int .u8 (3 : Int))),w1,w2,w4,z0,z0,z0,z0,z0,z0,z0,z0,z0,z0,z0,z0,z0])]
def Zek : D := (D.list 1 (some 1) [(D.v (.int .u8 (3 : Int))),w1,w2,w4,z0,z0,z0,z0,z0,z0,z0,z0,z0,z0,z0,z0,z0])
theorem Zul : funD Tg Z75 100000 60 Z1l Tryz.f63 Zej = some Zek := by kernel_rfl
def Z7y (ds : List D) : Option D := if isT Zej ds then some Zek else (none)
theorem td_ptrees_exact_api_OID : ∀ ds d,Z7y ds = some d → DataSem Tg 63 ds d := by
 intro ds d h
 unfold Z7y at h
 split at h
 ·rename_i ha; obtain rfl := isT_eq ha; cases h; exact Zqi Zul
 cases h
def Zd6 : FnH := ⟨[],[]⟩
def Zy9 : FnH := ⟨[(6,⟨(bm 1924145348608 47),[(38,1)],none,none⟩)],[]⟩
theorem Zq1 : Enters Tg 157 := ⟨Tryz.f157,Tryz.func157,by kernel_rfl,by kernel_rfl⟩
theorem Zya : Enters Tg 117 := ⟨Tryz.f117,Tryz.func117,by kernel_rfl,by kernel_rfl⟩
noncomputable def Z14u : Hints := ⟨[],[(157,Tryz.f157,Zd6),(117,Tryz.f117,Zy9)],[303,305,306,308,253,1000032,1000060,2000026,2000040,2000062,2000034]⟩
theorem Z1c6 {m n : Nat} {ds : List D} {d : D} (h : funD Tg Z14u m n Zd6 Tryz.f157 ds = some d) : DataSem Tg 157 ds d := Z0 (H := Z14u) SpOk.nil mixed (InlOk.cons Tryz.func157 Zq1 (InlOk.cons Tryz.func117 Zya InlOk.nil)) Tryz.func157 Zq1 h
def Z197 : List D := [(D.list 5 (some 5) [w2,w5,w29,w32,z0])]
def Z198 : D := (D.agg [(D.v (.int .u8 (5 : Int))),w2,w5,w29,w32,z0,z0,z0,z0,z0,z0,z0,z0,z0,z0,z0,z0])
theorem Z1gn : funD Tg Z14u 100000 60 Zd6 Tryz.f157 Z197 = some Z198 := by kernel_rfl
def Zvy (ds : List D) : Option D := if isT Z197 ds then some Z198 else (none)
theorem td_oids_Of : ∀ ds d,Zvy ds = some d → DataSem Tg 157 ds d := by
 intro ds d h
 unfold Zvy at h
 split at h
 ·rename_i ha; obtain rfl := isT_eq ha; cases h; exact Z1c6 Z1gn
 cases h
def Z9g : FnH := ⟨[],[]⟩
theorem Zlm : Enters Tg 114 := ⟨Tryz.f114,Tryz.func114,by kernel_rfl,by kernel_rfl⟩
noncomputable def Z12e : Hints := ⟨[(157,Zvy)],[(114,Tryz.f114,Z9g)],[303,305,306,308,253,1000032,1000060,2000026,2000040,2000062,2000034]⟩
theorem Z19l {m n : Nat} {ds : List D} {d : D} (h : funD Tg Z12e m n Z9g Tryz.f114 ds = some d) : DataSem Tg 114 ds d := Z0 (H := Z12e) (SpOk.cons td_oids_Of SpOk.nil) mixed (InlOk.cons Tryz.func114 Zlm InlOk.nil) Tryz.func114 Zlm h
def Z163 : List D := []
def Z164 : D := (D.agg [(D.v (.int .u8 (5 : Int))),w2,w5,w29,w32,z0,z0,z0,z0,z0,z0,z0,z0,z0,z0,z0,z0])
theorem Z1f9 : funD Tg Z12e 100000 60 Z9g Tryz.f114 Z163 = some Z164 := by kernel_rfl
def Zas (ds : List D) : Option D := if isT Z163 ds then some Z164 else (none)
theorem td_oids_Any : ∀ ds d,Zas ds = some d → DataSem Tg 114 ds d := by
 intro ds d h
 unfold Zas at h
 split at h
 ·rename_i ha; obtain rfl := isT_eq ha; cases h; exact Z19l Z1f9
 cases h
def Z60 : FnH := ⟨[],[]⟩
theorem Zcw : Enters Tg 64 := ⟨Tryz.f64,Tryz.func64,by kernel_rfl,by kernel_rfl⟩
noncomputable def Zum : Hints := ⟨[(114,Zas)],[(64,Tryz.f64,Z60)],[303,305,306,308,253,1000032,1000060,2000026,2000040,2000062,2000034]⟩
theorem Z165 {m n : Nat} {ds : List D} {d : D} (h : funD Tg Zum m n Z60 Tryz.f64 ds = some d) : DataSem Tg 64 ds d := Z0 (H := Zum) (SpOk.cons td_oids_Any SpOk.nil) mixed (InlOk.cons Tryz.func64 Zcw InlOk.nil) Tryz.func64 Zcw h
def Z12f : List D := []
def Zrk : D := (D.agg [(D.list 1 (some 1) [(D.v (.int .i64 (-1 : Int))),(D.v (.int .u8 (5 : Int))),w2,w5,w29,w32,z0,z0,z0,z0,z0,z0,z0,z0,z0,z0,z0,z0,(D.list 1 (some 1) [(D.v (.int .u8 (5 : Int))),w2,w5,w29,w32,z0,z0,z0,z0,z0,z0,z0,z0,z0,z0,z0,z0]),n0l])])
theorem Z1c7 : funD Tg Zum 100000 60 Z60 Tryz.f64 Z12f = some Zrk := by kernel_rfl
def Zqj (ds : List D) : Option D := if isT Z12f ds then some Zrk else (none)
theorem td_trees_Root : ∀ ds d,Zqj ds = some d → DataSem Tg 64 ds d := by
 intro ds d h
 unfold Zqj at h
 split at h
 ·rename_i ha; obtain rfl := isT_eq ha; cases h; exact Z165 Z1c7
 cases h
def Z17 : FnH := ⟨[],[]⟩
def Zo3 : FnH := ⟨[],[]⟩
theorem Z7r : Enters Tg 17 := ⟨Tryz.f17,Tryz.func17,by kernel_rfl,by kernel_rfl⟩
theorem Zo4 : Enters Tg 62 := ⟨Tryz.f62,Tryz.func62,by kernel_rfl,by kernel_rfl⟩
noncomputable def Z65 : Hints := ⟨[(52,Zn0),(63,Z7y),(64,Zqj)],[(17,Tryz.f17,Z17),(62,Tryz.f62,Zo3)],[303,305,306,308,253,1000032,1000060,2000026,2000040,2000062,2000034]⟩
theorem Z6z {m n : Nat} {ds : List D} {d : D} (h : funD Tg Z65 m n Z17 Tryz.f17 ds = some d) : DataSem Tg 17 ds d := Z0 (H := Z65) (SpOk.cons td_counters_Start (SpOk.cons td_ptrees_exact_api_OID (SpOk.cons td_trees_Root SpOk.nil))) mixed (InlOk.cons Tryz.func17 Z7r (InlOk.cons Tryz.func62 Zo4 InlOk.nil)) Tryz.func17 Z7r h
def Zvz : List D := [(D.v (.int .i64 (2 : Int))),(D.agg [(D.list 1 (some 1) [(D.v (.int .u8 (3 : Int))),w1,w2,w4,z0,z0,z0,z0,z0,z0,z0,z0,z0,z0,z0,z0,z0]),bt,bf,bf]),(D.v (.int .i64 (9 : Int)))]
def Zw0 : D := (D.tup [(D.agg [(D.v (.int .i64 (2 : Int))),zI,(D.v (.int .i64 (9 : Int))),(D.v (.int .i64 (1 : Int))),bf,(D.v (.int .u8 (0 : Int))),(D.list 1 (some 1) [(D.v (.int .u8 (3 : Int))),w1,w2,w4,z0,z0,z0,z0,z0,z0,z0,z0,z0,z0,z0,z0,z0]),bt,bf,bf,bf,bf,n0l,bf,n0l,zI,zI,zI,(D.list 1 (some 1) [(D.v (.int .i64 (-1 : Int))),(D.v (.int .u8 (5 : Int))),w2,w5,w29,w32,z0,z0,z0,z0,z0,z0,z0,z0,z0,z0,z0,z0,(D.list 1 (some 1) [(D.v (.int .u8 (5 : Int))),w2,w5,w29,w32,z0,z0,z0,z0,z0,z0,z0,z0,z0,z0,z0,z0]),n0l]),zI,(D.v (.int .i64 (3 : Int))),(D.v (.int .i64 (3 : Int)))]),zI])
def Zw1 : List D := [(D.v (.int .i64 (2 : Int))),(D.agg [(D.list 1 (some 1) [(D.v (.int .u8 (3 : Int))),w1,w2,w4,z0,z0,z0,z0,z0,z0,z0,z0,z0,z0,z0,z0,z0]),bt,bf,bf]),(D.v (.int .i64 (3 : Int)))]
def Zw2 : D := (D.tup [(D.agg [(D.v (.int .i64 (2 : Int))),zI,(D.v (.int .i64 (3 : Int))),(D.v (.int .i64 (1 : Int))),bf,(D.v (.int .u8 (0 : Int))),(D.list 1 (some 1) [(D.v (.int .u8 (3 : Int))),w1,w2,w4,z0,z0,z0,z0,z0,z0,z0,z0,z0,z0,z0,z0,z0]),bt,bf,bf,bf,bf,n0l,bf,n0l,zI,zI,zI,(D.list 1 (some 1) [(D.v (.int .i64 (-1 : Int))),(D.v (.int .u8 (5 : Int))),w2,w5,w29,w32,z0,z0,z0,z0,z0,z0,z0,z0,z0,z0,z0,z0,(D.list 1 (some 1) [(D.v (.int .u8 (5 : Int))),w2,w5,w29,w32,z0,z0,z0,z0,z0,z0,z0,z0,z0,z0,z0,z0]),n0l]),zI,(D.v (.int .i64 (3 : Int))),(D.v (.int .i64 (3 : Int)))]),zI])
def Zw3 : List D := [(D.v (.int .i64 (2 : Int))),(D.agg [(D.list 1 (some 1) [(D.v (.int .u8 (3 : Int))),w1,w2,w4,z0,z0,z0,z0,z0,z0,z0,z0,z0,z0,z0,z0,z0]),bt,bf,bf]),(D.v (.int .i64 (4 : Int)))]
def Zw4 : D := (D.tup [(D.agg [(D.v (.int .i64 (2 : Int))),zI,(D.v (.int .i64 (4 : Int))),(D.v (.int .i64 (1 : Int))),bf,(D.v (.int .u8 (0 : Int))),(D.list 1 (some 1) [(D.v (.int .u8 (3 : Int))),w1,w2,w4,z0,z0,z0,z0,z0,z0,z0,z0,z0,z0,z0,z0,z0]),bt,bf,bf,bf,bf,n0l,bf,n0l,zI,zI,zI,(D.list 1 (some 1) [(D.v (.int .i64 (-1 : Int))),(D.v (.int .u8 (5 : Int))),w2,w5,w29,w32,z0,z0,z0,z0,z0,z0,z0,z0,z0,z0,z0,z0,(D.list 1 (some 1) [(D.v (.int .u8 (5 : Int))),w2,w5,w29,w32,z0,z0,z0,z0,z0,z0,z0,z0,z0,z0,z0,z0]),n0l]),zI,(D.v (.int .i64 (3 : Int))),(D.v (.int .i64 (3 : Int)))]),zI])
def Zw5 : List D := [(D.v (.int .i64 (2 : Int))),(D.agg [(D.list 1 (some 1) [(D.v (.int .u8 (3 : Int))),w1,w2,w4,z0,z0,z0,z0,z0,z0,z0,z0,z0,z0,z0,z0,z0]),bt,bt,bf]),(D.v (.int .i64 (3 : Int)))]
def Zw6 : D := (D.tup [(D.agg [(D.v (.int .i64 (2 : Int))),zI,(D.v (.int .i64 (3 : Int))),(D.v (.int .i64 (1 : Int))),bf,(D.v (.int .u8 (0 : Int))),(D.list 1 (some 1) [(D.v (.int .u8 (3 : Int))),w1,w2,w4,z0,z0,z0,z0,z0,z0,z0,z0,z0,z0,z0,z0,z0]),bt,bt,bf,bf,bf,n0l,bf,n0l,zI,zI,zI,(D.list 1 (some 1) [(D.v (.int .i64 (-1 : Int))),(D.v (.int .u8 (5 : Int))),w2,w5,w29,w32,z0,z0,z0,z0,z0,z0,z0,z0,z0,z0,z0,z0,(D.list 1 (some 1) [(D.v (.int .u8 (5 : Int))),w2,w5,w29,w32,z0,z0,z0,z0,z0,z0,z0,z0,z0,z0,z0,z0]),n0l]),zI,zI,(D.v (.int .i64 (3 : Int)))]),zI])
theorem Z181 : funD Tg Z65 100000 60 Z17 Tryz.f17 Zvz = some Zw0 := by kernel_rfl
theorem Z182 : funD Tg Z65 100000 60 Z17 Tryz.f17 Zw1 = some Zw2 := by kernel_rfl
theorem Z183 : funD Tg Z65 100000 60 Z17 Tryz.f17 Zw3 = some Zw4 := by kernel_rfl
theorem Z184 : funD Tg Z65 100000 60 Z17 Tryz.f17 Zw5 = some Zw6 := by kernel_rfl
def Zjb (ds : List D) : Option D := if isT Zvz ds then some Zw0 else (if isT Zw1 ds then some Zw2 else (if isT Zw3 ds then some Zw4 else (if isT Zw5 ds then some Zw6 else (none))))
theorem td_ptrees_Start : ∀ ds d,Zjb ds = some d → DataSem Tg 17 ds d := by
 intro ds d h
 unfold Zjb at h
 split at h
 ·rename_i ha; obtain rfl := isT_eq ha; cases h; exact Z6z Z181
 split at h
 ·rename_i ha; obtain rfl := isT_eq ha; cases h; exact Z6z Z182
 split at h
 ·rename_i ha; obtain rfl := isT_eq ha; cases h; exact Z6z Z183
 split at h
 ·rename_i ha; obtain rfl := isT_eq ha; cases h; exact Z6z Z184
 cases h
def Z2d : FnH := ⟨[(5,⟨(bm 393218 56),[],none,none⟩),(12,⟨(bm 7516192770 56),[(30,34)],none,none⟩)],[]⟩
def Zkj : FnH := ⟨[],[]⟩
def Zd7 : FnH := ⟨[(5,⟨(bm 25 25),[],none,none⟩)],[]⟩
def Zd8 : FnH := ⟨[(5,⟨(bm 25 25),[],none,none⟩)],[]⟩
def Zjc : FnH := ⟨[(6,⟨(bm 117440544 53),[(24,18)],none,none⟩),(14,⟨(bm 15393162788864 53),[(41,27)],none,none⟩)],[]⟩
def Zpf : FnH := ⟨[(6,⟨(bm 1924145348608 47),[(38,1)],none,none⟩)],[]⟩
def Zfy : FnH := ⟨[],[]⟩
def Zjd : FnH := ⟨[],[]⟩
def Zfz : FnH := ⟨[],[]⟩
def Zd9 : FnH := ⟨[],[]⟩
def Zda : FnH := ⟨[(4,⟨(bm 14336 24),[(11,1)],none,none⟩)],[]⟩
def Zdb : FnH := ⟨[],[]⟩
def Za4 : FnH := ⟨[],[]⟩
def Zdc : FnH := ⟨[],[]⟩
def Zel : FnH := ⟨[],[]⟩
def Zat : FnH := ⟨[],[]⟩
def Z6c : FnH := ⟨[],[]⟩
def Z76 : FnH := ⟨[(2,⟨(bm 387 19),[],none,none⟩)],[]⟩
def Zem : FnH := ⟨[],[]⟩
def Zen : FnH := ⟨[],[]⟩
def Zg0 : FnH := ⟨[],[]⟩
def Zeo : FnH := ⟨[],[]⟩
def Zc0 : FnH := ⟨[],[]⟩
def Za5 : FnH := ⟨[],[]⟩
def Zht : FnH := ⟨[],[]⟩
def Z8k : FnH := ⟨[],[]⟩
def Za6 : FnH := ⟨[],[]⟩
def Zau : FnH := ⟨[],[]⟩
def Zep : FnH := ⟨[(38,⟨(bm 47890485652059026823698344598447161988085597568237568 187),[],none,none⟩),(5,⟨(bm 1923 187),[],none,none⟩),(12,⟨(bm 6019 187),[],none,none⟩),(25,⟨(bm 50049 187),[],none,none⟩),(29,⟨(bm 115585 187),[],none,none⟩)],[]⟩
def Zeq : FnH := ⟨[],[]⟩
def Za7 : FnH := ⟨[],[]⟩
def Zje : FnH := ⟨[],[]⟩
def Zhu : FnH := ⟨[],[]⟩
def Zhv : FnH := ⟨[],[]⟩
def Zhw : FnH := ⟨[],[]⟩
def Zdd : FnH := ⟨[],[]⟩
def Z2u : FnH := ⟨[(2,⟨(bm 387 19),[],none,none⟩)],[]⟩
def Zav : FnH := ⟨[(4,⟨(bm 2052 20),[],none,none⟩)],[]⟩
def Zg1 : FnH := ⟨[(1,⟨(bm 1 169),[],none,none⟩),(9,⟨(bm 1 169),[],none,none⟩)],[]⟩
def Zg2 : FnH := ⟨[],[]⟩
def Zde : FnH := ⟨[],[]⟩
def Z9h : FnH := ⟨[(2,⟨(bm 20 10),[],none,none⟩)],[]⟩
def Z9i : FnH := ⟨[(8,⟨(bm 3758096566 83),[(29,1)],none,none⟩)],[]⟩
def Zc1 : FnH := ⟨[],[]⟩
def Zhx : FnH := ⟨[(6,⟨(bm 524368 30),[(6,1)],none,none⟩)],[]⟩
def Zjf : FnH := ⟨[(3,⟨(bm 73 25),[],none,none⟩),(8,⟨(bm 32 25),[(5,1)],none,none⟩)],[]⟩
def Zc2 : FnH := ⟨[],[]⟩
def Z51 : FnH := ⟨[],[]⟩
def Zdf : FnH := ⟨[],[]⟩
def Zdg : FnH := ⟨[],[]⟩
def Zkk : FnH := ⟨[],[]⟩
def Zn1 : FnH := ⟨[],[]⟩
def Zkl : FnH := ⟨[],[]⟩
def Zhy : FnH := ⟨[],[]⟩
def Z8l : FnH := ⟨[(25,⟨(bm 16655 151),[],none,none⟩)],[]⟩
def Zrl : FnH := ⟨[],[]⟩
def Zo5 : FnH := ⟨[(3,⟨(bm 13 43),[],none,none⟩)],[]⟩
def Zpg : FnH := ⟨[],[]⟩
def Zo6 : FnH := ⟨[],[]⟩
def Zo7 : FnH := ⟨[],[]⟩
def Zdh : FnH := ⟨[],[]⟩
def Zhz : FnH := ⟨[],[]⟩
def Zrm : FnH := ⟨[(8,⟨(bm 939524140 43),[(2,1),(27,1)],none,none⟩),(11,⟨(bm 939524140 43),[],none,none⟩)],[]⟩
def Zqk : FnH := ⟨[],[]⟩
def Z77 : FnH := ⟨[],[]⟩
def Zo8 : FnH := ⟨[],[]⟩
def Zkm : FnH := ⟨[(1,⟨(bm 11 31),[],none,none⟩),(3,⟨(bm 11 31),[],none,none⟩)],[]⟩
def Zn2 : FnH := ⟨[],[]⟩
def Zjg : FnH := ⟨[],[]⟩
def Zg3 : FnH := ⟨[],[]⟩
def Zdi : FnH := ⟨[],[]⟩
def Zkn : FnH := ⟨[],[]⟩
def Zi0 : FnH := ⟨[(5,⟨(bm 3670026 34),[(19,5)],none,none⟩)],[]⟩
def Zko : FnH := ⟨[],[]⟩
def Zg4 : FnH := ⟨[(5,⟨(bm 114696 27),[(14,5)],none,none⟩)],[]⟩
def Zql : FnH := ⟨[],[]⟩
def Zrn : FnH := ⟨[(11,⟨(bm 76 42),[],none,none⟩)],[]⟩
def Zo9 : FnH := ⟨[],[]⟩
def Zkp : FnH := ⟨[(1,⟨(bm 11 29),[],none,none⟩),(3,⟨(bm 11 29),[],none,none⟩)],[]⟩
def Zkq : FnH := ⟨[],[]⟩
def Zn3 : FnH := ⟨[],[]⟩
def Zoa : FnH := ⟨[],[]⟩
def Zn4 : FnH := ⟨[(6,⟨(bm 60129542145 44),[(0,1),(33,5)],none,none⟩)],[]⟩
def Z4f : FnH := ⟨[],[]⟩
def Z4x : FnH := ⟨[(2,⟨(bm 393 19),[],none,none⟩)],[]⟩
theorem Z6j : Enters Tg 66 := ⟨Tryz.f66,Tryz.func66,by kernel_rfl,by kernel_rfl⟩
theorem Zkr : Enters Tg 115 := ⟨Tryz.f115,Tryz.func115,by kernel_rfl,by kernel_rfl⟩
theorem Zdj : Enters Tg 158 := ⟨Tryz.f158,Tryz.func158,by kernel_rfl,by kernel_rfl⟩
theorem Zdk : Enters Tg 159 := ⟨Tryz.f159,Tryz.func159,by kernel_rfl,by kernel_rfl⟩
theorem Zjh : Enters Tg 116 := ⟨Tryz.f116,Tryz.func116,by kernel_rfl,by kernel_rfl⟩
theorem Zph : Enters Tg 117 := ⟨Tryz.f117,Tryz.func117,by kernel_rfl,by kernel_rfl⟩
theorem Zg5 : Enters Tg 160 := ⟨Tryz.f160,Tryz.func160,by kernel_rfl,by kernel_rfl⟩
theorem Zji : Enters Tg 188 := ⟨Tryz.f188,Tryz.func188,by kernel_rfl,by kernel_rfl⟩
theorem Zg6 : Enters Tg 213 := ⟨Tryz.f213,Tryz.func213,by kernel_rfl,by kernel_rfl⟩
theorem Zdl : Enters Tg 238 := ⟨Tryz.f238,Tryz.func238,by kernel_rfl,by kernel_rfl⟩
theorem Zdm : Enters Tg 239 := ⟨Tryz.f239,Tryz.func239,by kernel_rfl,by kernel_rfl⟩
theorem Zdn : Enters Tg 240 := ⟨Tryz.f240,Tryz.func240,by kernel_rfl,by kernel_rfl⟩
theorem Za8 : Enters Tg 241 := ⟨Tryz.f241,Tryz.func241,by kernel_rfl,by kernel_rfl⟩
theorem Zdo : Enters Tg 242 := ⟨Tryz.f242,Tryz.func242,by kernel_rfl,by kernel_rfl⟩
theorem Zer : Enters Tg 243 := ⟨Tryz.f243,Tryz.func243,by kernel_rfl,by kernel_rfl⟩
theorem Zaw : Enters Tg 263 := ⟨Tryz.f263,Tryz.func263,by kernel_rfl,by kernel_rfl⟩
theorem Z6d : Enters Tg 276 := ⟨Tryz.f276,Tryz.func276,by kernel_rfl,by kernel_rfl⟩
theorem Z78 : Enters Tg 288 := ⟨Tryz.f288,Tryz.func288,by kernel_rfl,by kernel_rfl⟩
theorem Zes : Enters Tg 277 := ⟨Tryz.f277,Tryz.func277,by kernel_rfl,by kernel_rfl⟩
theorem Zet : Enters Tg 289 := ⟨Tryz.f289,Tryz.func289,by kernel_rfl,by kernel_rfl⟩
theorem Zg7 : Enters Tg 296 := ⟨Tryz.f296,Tryz.func296,by kernel_rfl,by kernel_rfl⟩
theorem Zeu : Enters Tg 299 := ⟨Tryz.f299,Tryz.func299,by kernel_rfl,by kernel_rfl⟩
theorem Zc3 : Enters Tg 302 := ⟨Tryz.f302,Tryz.func302,by kernel_rfl,by kernel_rfl⟩
theorem Za9 : Enters Tg 307 := ⟨Tryz.f307,Tryz.func307,by kernel_rfl,by kernel_rfl⟩
theorem Zi1 : Enters Tg 303 := ⟨Tryz.f303,Tryz.func303,by kernel_rfl,by kernel_rfl⟩
theorem Z8m : Enters Tg 308 := ⟨Tryz.f308,Tryz.func308,by kernel_rfl,by kernel_rfl⟩
theorem Zaa : Enters Tg 304 := ⟨Tryz.f304,Tryz.func304,by kernel_rfl,by kernel_rfl⟩
theorem Zax : Enters Tg 309 := ⟨Tryz.f309,Tryz.func309,by kernel_rfl,by kernel_rfl⟩
theorem Zev : Enters Tg 310 := ⟨Tryz.f310,Tryz.func310,by kernel_rfl,by kernel_rfl⟩
theorem Zew : Enters Tg 311 := ⟨Tryz.f311,Tryz.func311,by kernel_rfl,by kernel_rfl⟩
theorem Zab : Enters Tg 315 := ⟨Tryz.f315,Tryz.func315,by kernel_rfl,by kernel_rfl⟩
theorem Zjj : Enters Tg 312 := ⟨Tryz.f312,Tryz.func312,by kernel_rfl,by kernel_rfl⟩
theorem Zi2 : Enters Tg 313 := ⟨Tryz.f313,Tryz.func313,by kernel_rfl,by kernel_rfl⟩
theorem Zi3 : Enters Tg 305 := ⟨Tryz.f305,Tryz.func305,by kernel_rfl,by kernel_rfl⟩
theorem Zi4 : Enters Tg 306 := ⟨Tryz.f306,Tryz.func306,by kernel_rfl,by kernel_rfl⟩
theorem Zdp : Enters Tg 301 := ⟨Tryz.f301,Tryz.func301,by kernel_rfl,by kernel_rfl⟩
theorem Z2v : Enters Tg 300 := ⟨Tryz.f300,Tryz.func300,by kernel_rfl,by kernel_rfl⟩
theorem Zay : Enters Tg 297 := ⟨Tryz.f297,Tryz.func297,by kernel_rfl,by kernel_rfl⟩
theorem Zg8 : Enters Tg 228 := ⟨Tryz.f228,Tryz.func228,by kernel_rfl,by kernel_rfl⟩
theorem Zg9 : Enters Tg 259 := ⟨Tryz.f259,Tryz.func259,by kernel_rfl,by kernel_rfl⟩
theorem Zdq : Enters Tg 278 := ⟨Tryz.f278,Tryz.func278,by kernel_rfl,by kernel_rfl⟩
theorem Z9j : Enters Tg 290 := ⟨Tryz.f290,Tryz.func290,by kernel_rfl,by kernel_rfl⟩
theorem Z9k : Enters Tg 244 := ⟨Tryz.f244,Tryz.func244,by kernel_rfl,by kernel_rfl⟩
theorem Zc4 : Enters Tg 264 := ⟨Tryz.f264,Tryz.func264,by kernel_rfl,by kernel_rfl⟩
theorem Zi5 : Enters Tg 279 := ⟨Tryz.f279,Tryz.func279,by kernel_rfl,by kernel_rfl⟩
theorem Zjk : Enters Tg 265 := ⟨Tryz.f265,Tryz.func265,by kernel_rfl,by kernel_rfl⟩
theorem Zc5 : Enters Tg 280 := ⟨Tryz.f280,Tryz.func280,by kernel_rfl,by kernel_rfl⟩
theorem Z52 : Enters Tg 266 := ⟨Tryz.f266,Tryz.func266,by kernel_rfl,by kernel_rfl⟩
theorem Zdr : Enters Tg 245 := ⟨Tryz.f245,Tryz.func245,by kernel_rfl,by kernel_rfl⟩
theorem Zds : Enters Tg 246 := ⟨Tryz.f246,Tryz.func246,by kernel_rfl,by kernel_rfl⟩
theorem Zks : Enters Tg 215 := ⟨Tryz.f215,Tryz.func215,by kernel_rfl,by kernel_rfl⟩
theorem Zn5 : Enters Tg 247 := ⟨Tryz.f247,Tryz.func247,by kernel_rfl,by kernel_rfl⟩
theorem Zkt : Enters Tg 267 := ⟨Tryz.f267,Tryz.func267,by kernel_rfl,by kernel_rfl⟩
theorem Zi6 : Enters Tg 281 := ⟨Tryz.f281,Tryz.func281,by kernel_rfl,by kernel_rfl⟩
theorem Z8n : Enters Tg 282 := ⟨Tryz.f282,Tryz.func282,by kernel_rfl,by kernel_rfl⟩
theorem Zro : Enters Tg 291 := ⟨Tryz.f291,Tryz.func291,by kernel_rfl,by kernel_rfl⟩
theorem Zob : Enters Tg 298 := ⟨Tryz.f298,Tryz.func298,by kernel_rfl,by kernel_rfl⟩
theorem Zpi : Enters Tg 285 := ⟨Tryz.f285,Tryz.func285,by kernel_rfl,by kernel_rfl⟩
theorem Zoc : Enters Tg 292 := ⟨Tryz.f292,Tryz.func292,by kernel_rfl,by kernel_rfl⟩
theorem Zod : Enters Tg 293 := ⟨Tryz.f293,Tryz.func293,by kernel_rfl,by kernel_rfl⟩
theorem Zdt : Enters Tg 248 := ⟨Tryz.f248,Tryz.func248,by kernel_rfl,by kernel_rfl⟩
theorem Zi7 : Enters Tg 214 := ⟨Tryz.f214,Tryz.func214,by kernel_rfl,by kernel_rfl⟩
theorem Zrp : Enters Tg 216 := ⟨Tryz.f216,Tryz.func216,by kernel_rfl,by kernel_rfl⟩
theorem Zqm : Enters Tg 178 := ⟨Tryz.f178,Tryz.func178,by kernel_rfl,by kernel_rfl⟩
theorem Z79 : Enters Tg 249 := ⟨Tryz.f249,Tryz.func249,by kernel_rfl,by kernel_rfl⟩
theorem Zoe : Enters Tg 250 := ⟨Tryz.f250,Tryz.func250,by kernel_rfl,by kernel_rfl⟩
theorem Zku : Enters Tg 268 := ⟨Tryz.f268,Tryz.func268,by kernel_rfl,by kernel_rfl⟩
theorem Zn6 : Enters Tg 217 := ⟨Tryz.f217,Tryz.func217,by kernel_rfl,by kernel_rfl⟩
theorem Zjl : Enters Tg 251 := ⟨Tryz.f251,Tryz.func251,by kernel_rfl,by kernel_rfl⟩
theorem Zga : Enters Tg 269 := ⟨Tryz.f269,Tryz.func269,by kernel_rfl,by kernel_rfl⟩
theorem Zdu : Enters Tg 284 := ⟨Tryz.f284,Tryz.func284,by kernel_rfl,by kernel_rfl⟩
theorem Zkv : Enters Tg 283 := ⟨Tryz.f283,Tryz.func283,by kernel_rfl,by kernel_rfl⟩
theorem Zi8 : Enters Tg 294 := ⟨Tryz.f294,Tryz.func294,by kernel_rfl,by kernel_rfl⟩
theorem Zkw : Enters Tg 252 := ⟨Tryz.f252,Tryz.func252,by kernel_rfl,by kernel_rfl⟩
theorem Zgb : Enters Tg 270 := ⟨Tryz.f270,Tryz.func270,by kernel_rfl,by kernel_rfl⟩
theorem Zqn : Enters Tg 272 := ⟨Tryz.f272,Tryz.func272,by kernel_rfl,by kernel_rfl⟩
theorem Zrq : Enters Tg 273 := ⟨Tryz.f273,Tryz.func273,by kernel_rfl,by kernel_rfl⟩
theorem Zof : Enters Tg 287 := ⟨Tryz.f287,Tryz.func287,by kernel_rfl,by kernel_rfl⟩
theorem Zkx : Enters Tg 295 := ⟨Tryz.f295,Tryz.func295,by kernel_rfl,by kernel_rfl⟩
theorem Zky : Enters Tg 271 := ⟨Tryz.f271,Tryz.func271,by kernel_rfl,by kernel_rfl⟩
theorem Zn7 : Enters Tg 286 := ⟨Tryz.f286,Tryz.func286,by kernel_rfl,by kernel_rfl⟩
theorem Zog : Enters Tg 274 := ⟨Tryz.f274,Tryz.func274,by kernel_rfl,by kernel_rfl⟩
theorem Zn8 : Enters Tg 253 := ⟨Tryz.f253,Tryz.func253,by kernel_rfl,by kernel_rfl⟩
theorem Z4g : Enters Tg 118 := ⟨Tryz.f118,Tryz.func118,by kernel_rfl,by kernel_rfl⟩
theorem Z4y : Enters Tg 161 := ⟨Tryz.f161,Tryz.func161,by kernel_rfl,by kernel_rfl⟩
noncomputable def Zc6 : Hints := ⟨[(157,Zvy)],[(66,Tryz.f66,Z2d),(115,Tryz.f115,Zkj),(158,Tryz.f158,Zd7),(159,Tryz.f159,Zd8),(116,Tryz.f116,Zjc),(117,Tryz.f117,Zpf),(160,Tryz.f160,Zfy),(188,Tryz.f188,Zjd),(213,Tryz.f213,Zfz),(238,Tryz.f238,Zd9),(239,Tryz.f239,Zda),(240,Tryz.f240,Zdb),(241,Tryz.f241,Za4),(242,Tryz.f242,Zdc),(243,Tryz.f243,Zel),(263,Tryz.f263,Zat),(276,Tryz.f276,Z6c),(288,Tryz.f288,Z76),(277,Tryz.f277,Zem),(289,Tryz.f289,Zen),(296,Tryz.f296,Zg0),(299,Tryz.f299,Zeo),(302,Tryz.f302,Zc0),(307,Tryz.f307,Za5),(303,Tryz.f303,Zht),(308,Tryz.f308,Z8k),(304,Tryz.f304,Za6),(309,Tryz.f309,Zau),(310,Tryz.f310,Zep),(311,Tryz.f311,Zeq),(315,Tryz.f315,Za7),(312,Tryz.f312,Zje),(313,Tryz.f313,Zhu),(305,Tryz.f305,Zhv),(306,Tryz.f306,Zhw),(301,Tryz.f301,Zdd),(300,Tryz.f300,Z2u),(297,Tryz.f297,Zav),(228,Tryz.f228,Zg1),(259,Tryz.f259,Zg2),(278,Tryz.f278,Zde),(290,Tryz.f290,Z9h),(244,Tryz.f244,Z9i),(264,Tryz.f264,Zc1),(279,Tryz.f279,Zhx),(265,Tryz.f265,Zjf),(280,Tryz.f280,Zc2),(266,Tryz.f266,Z51),(245,Tryz.f245,Zdf),(246,Tryz.f246,Zdg),(215,Tryz.f215,Zkk),(247,Tryz.f247,Zn1),(267,Tryz.f267,Zkl),(281,Tryz.f281,Zhy),(282,Tryz.f282,Z8l),(291,Tryz.f291,Zrl),(298,Tryz.f298,Zo5),(285,Tryz.f285,Zpg),(292,Tryz.f292,Zo6),(293,Tryz.f293,Zo7),(248,Tryz.f248,Zdh),(214,Tryz.f214,Zhz),(216,Tryz.f216,Zrm),(178,Tryz.f178,Zqk),(249,Tryz.f249,Z77),(250,Tryz.f250,Zo8),(268,Tryz.f268,Zkm),(217,Tryz.f217,Zn2),(251,Tryz.f251,Zjg),(269,Tryz.f269,Zg3),(284,Tryz.f284,Zdi),(283,Tryz.f283,Zkn),(294,Tryz.f294,Zi0),(252,Tryz.f252,Zko),(270,Tryz.f270,Zg4),(272,Tryz.f272,Zql),(273,Tryz.f273,Zrn),(287,Tryz.f287,Zo9),(295,Tryz.f295,Zkp),(271,Tryz.f271,Zkq),(286,Tryz.f286,Zn3),(274,Tryz.f274,Zoa),(253,Tryz.f253,Zn4),(118,Tryz.f118,Z4f),(161,Tryz.f161,Z4x)],[303,305,306,308,253,1000032,1000060,2000026,2000040,2000062,2000034]⟩
theorem Zoh {m n : Nat} {ds : List D} {d : D} (h : funD Tg Zc6 m n Z2d Tryz.f66 ds = some d) : DataSem Tg 66 ds d := Z0 (H := Zc6) (SpOk.cons td_oids_Of SpOk.nil) mixed (InlOk.cons Tryz.func66 Z6j (InlOk.cons Tryz.func115 Zkr (InlOk.cons Tryz.func158 Zdj (InlOk.cons Tryz.func159 Zdk (InlOk.cons Tryz.func116 Zjh (InlOk.cons Tryz.func117 Zph (InlOk.cons Tryz.func160 Zg5 (InlOk.cons Tryz.func188 Zji (InlOk.cons Tryz.func213 Zg6 (InlOk.cons Tryz.func238 Zdl (InlOk.cons Tryz.func239 Zdm (InlOk.cons Tryz.func240 Zdn (InlOk.cons Tryz.func241 Za8 (InlOk.cons Tryz.func242 Zdo (InlOk.cons Tryz.func243 Zer (InlOk.cons Tryz.func263 Zaw (InlOk.cons Tryz.func276 Z6d (InlOk.cons Tryz.func288 Z78 (InlOk.cons Tryz.func277 Zes (InlOk.cons Tryz.func289 Zet (InlOk.cons Tryz.func296 Zg7 (InlOk.cons Tryz.func299 Zeu (InlOk.cons Tryz.func302 Zc3 (InlOk.cons Tryz.func307 Za9 (InlOk.cons Tryz.func303 Zi1 (InlOk.cons Tryz.func308 Z8m (InlOk.cons Tryz.func304 Zaa (InlOk.cons Tryz.func309 Zax (InlOk.cons Tryz.func310 Zev (InlOk.cons Tryz.func311 Zew (InlOk.cons Tryz.func315 Zab (InlOk.cons Tryz.func312 Zjj (InlOk.cons Tryz.func313 Zi2 (InlOk.cons Tryz.func305 Zi3 (InlOk.cons Tryz.func306 Zi4 (InlOk.cons Tryz.func301 Zdp (InlOk.cons Tryz.func300 Z2v (InlOk.cons Tryz.func297 Zay (InlOk.cons Tryz.func228 Zg8 (InlOk.cons Tryz.func259 Zg9 (InlOk.cons Tryz.func278 Zdq (InlOk.cons Tryz.func290 Z9j (InlOk.cons Tryz.func244 Z9k (InlOk.cons Tryz.func264 Zc4 (InlOk.cons Tryz.func279 Zi5 (InlOk.cons Tryz.func265 Zjk (InlOk.cons Tryz.func280 Zc5 (InlOk.cons Tryz.func266 Z52 (InlOk.cons Tryz.func245 Zdr (InlOk.cons Tryz.func246 Zds (InlOk.cons Tryz.func215 Zks (InlOk.cons Tryz.func247 Zn5 (InlOk.cons Tryz.func267 Zkt (InlOk.cons Tryz.func281 Zi6 (InlOk.cons Tryz.func282 Z8n (InlOk.cons Tryz.func291 Zro (InlOk.cons Tryz.func298 Zob (InlOk.cons Tryz.func285 Zpi (InlOk.cons Tryz.func292 Zoc (InlOk.cons Tryz.func293 Zod (InlOk.cons Tryz.func248 Zdt (InlOk.cons Tryz.func214 Zi7 (InlOk.cons Tryz.func216 Zrp (InlOk.cons Tryz.func178 Zqm (InlOk.cons Tryz.func249 Z79 (InlOk.cons Tryz.func250 Zoe (InlOk.cons Tryz.func268 Zku (InlOk.cons Tryz.func217 Zn6 (InlOk.cons Tryz.func251 Zjl (InlOk.cons Tryz.func269 Zga (InlOk.cons Tryz.func284 Zdu (InlOk.cons Tryz.func283 Zkv (InlOk.cons Tryz.func294 Zi8 (InlOk.cons Tryz.func252 Zkw (InlOk.cons Tryz.func270 Zgb (InlOk.cons Tryz.func272 Zqn (InlOk.cons Tryz.func273 Zrq (InlOk.cons Tryz.func287 Zof (InlOk.cons Tryz.func295 Zkx (InlOk.cons Tryz.func271 Zky (InlOk.cons Tryz.func286 Zn7 (InlOk.cons Tryz.func274 Zog (InlOk.cons Tryz.func253 Zn8 (InlOk.cons Tryz.func118 Z4g (InlOk.cons Tryz.func161 Z4y InlOk.nil))))))))))))))))))))))))))))))))))))))))))))))))))))))))))))))))))))))))))))))))))))) Tryz.func66 Z6j h
def Zt4 : List D := [(D.agg [bf,bt,(D.list 2 (some 2) [(D.v (.int .u8 (3 : Int))),w1,w2,w3,z0,z0,z0,z0,z0,z0,z0,z0,z0,z0,z0,z0,z0,n0l,(D.v (.int .u8 (5 : Int))),w2,w5,w29,w32,z0,z0,z0,z0,z0,z0,z0,z0,z0,z0,z0,z0,n0l]),bt,(D.list 1 (some 1) [(D.v (.int .u8 (3 : Int))),w1,w2,w3,z0,z0,z0,z0,z0,z0,z0,z0,z0,z0,z0,z0,z0,(D.v (.int .u8 (3 : Int))),w1,w2,w4,z0,z0,z0,z0,z0,z0,z0,z0,z0,z0,z0,z0,z0]),(D.v (.int .i64 (-1 : Int))),(D.v (.int .i64 (-1 : Int))),(D.v (.int .i64 (-1 : Int)))])]
def Zt5 : D := zI
def Zt6 : List D := [(D.agg [bf,bt,(D.list 1 (some 1) [(D.v (.int .u8 (3 : Int))),w1,w2,w4,z0,z0,z0,z0,z0,z0,z0,z0,z0,z0,z0,z0,z0,n0l]),bf,n0l,(D.v (.int .i64 (-1 : Int))),(D.v (.int .i64 (-1 : Int))),(D.v (.int .i64 (-1 : Int)))])]
def Zt7 : D := zI
theorem Z166 : funD Tg Zc6 100000 60 Z2d Tryz.f66 Zt4 = some Zt5 := by kernel_rfl
theorem Z167 : funD Tg Zc6 100000 60 Z2d Tryz.f66 Zt6 = some Zt7 := by kernel_rfl
def Z30 (ds : List D) : Option D := if isT Zt4 ds then some Zt5 else (if isT Zt6 ds then some Zt7 else (none))
theorem td_records_Check : ∀ ds d,Z30 ds = some d → DataSem Tg 66 ds d := by
 intro ds d h
 unfold Z30 at h
 split at h
 ·rename_i ha; obtain rfl := isT_eq ha; cases h; exact Zoh Z166
 split at h
 ·rename_i ha; obtain rfl := isT_eq ha; cases h; exact Zoh Z167
 cases h
def Zg : FnH := ⟨[],[]⟩
theorem Z24 : Enters Tg 119 := ⟨Tryz.f119,Tryz.func119,by kernel_rfl,by kernel_rfl⟩
noncomputable def Z3c : Hints := ⟨[],[(119,Tryz.f119,Zg)],[303,305,306,308,253,1000032,1000060,2000026,2000040,2000062,2000034]⟩
theorem Z6k {m n : Nat} {ds : List D} {d : D} (h : funD Tg Z3c m n Zg Tryz.f119 ds = some d) : DataSem Tg 119 ds d := Z0 (H := Z3c) SpOk.nil mixed (InlOk.cons Tryz.func119 Z24 InlOk.nil) Tryz.func119 Z24 h
def Z8o : List D := [(D.list 1 (some 1) [(D.v (.int .u8 (3 : Int))),w1,w2,w3,z0,z0,z0,z0,z0,z0,z0,z0,z0,z0,z0,z0,z0,(D.v (.int .u8 (3 : Int))),w1,w2,w4,z0,z0,z0,z0,z0,z0,z0,z0,z0,z0,z0,z0,z0])]
def Z8p : D := (D.list 1 (some 1) [(D.v (.int .u8 (3 : Int))),w1,w2,w3,z0,z0,z0,z0,z0,z0,z0,z0,z0,z0,z0,z0,z0,(D.v (.int .u8 (3 : Int))),w1,w2,w4,z0,z0,z0,z0,z0,z0,z0,z0,z0,z0,z0,z0,z0])
def Z8q : List D := [n0l]
def Z8r : D := n0l
theorem Zpj : funD Tg Z3c 100000 60 Zg Tryz.f119 Z8o = some Z8p := by kernel_rfl
theorem Zpk : funD Tg Z3c 100000 60 Zg Tryz.f119 Z8q = some Z8r := by kernel_rfl
def Z5k (ds : List D) : Option D := if isT Z8o ds then some Z8p else (if isT Z8q ds then some Z8r else (none))
theorem td_ptrees_exact_api_Mapping : ∀ ds d,Z5k ds = some d → DataSem Tg 119 ds d := by
 intro ds d h
 unfold Z5k at h
 split at h
 ·rename_i ha; obtain rfl := isT_eq ha; cases h; exact Z6k Zpj
 split at h
 ·rename_i ha; obtain rfl := isT_eq ha; cases h; exact Z6k Zpk
 cases h
def Zq : FnH := ⟨[],[]⟩
theorem Z1x : Enters Tg 121 := ⟨Tryz.f121,Tryz.func121,by kernel_rfl,by kernel_rfl⟩
noncomputable def Z4j : Hints := ⟨[],[(121,Tryz.f121,Zq)],[303,305,306,308,253,1000032,1000060,2000026,2000040,2000062,2000034]⟩
theorem Zi9 {m n : Nat} {ds : List D} {d : D} (h : funD Tg Z4j m n Zq Tryz.f121 ds = some d) : DataSem Tg 121 ds d := Z0 (H := Z4j) SpOk.nil mixed (InlOk.cons Tryz.func121 Z1x InlOk.nil) Tryz.func121 Z1x h
def Z7a : List D := [n0l]
def Z7b : D := n0l
theorem Zn9 : funD Tg Z4j 100000 60 Zq Tryz.f121 Z7a = some Z7b := by kernel_rfl
def Z4z (ds : List D) : Option D := if isT Z7a ds then some Z7b else (none)
theorem td_ptrees_exact_api_Qualifier : ∀ ds d,Z4z ds = some d → DataSem Tg 121 ds d := by
 intro ds d h
 unfold Z4z at h
 split at h
 ·rename_i ha; obtain rfl := isT_eq ha; cases h; exact Zi9 Zn9
 cases h
def Z1k : FnH := ⟨[(4,⟨(bm 458758 66),[(16,18)],none,none⟩),(8,⟨(bm 30065229838 66),[(16,18),(32,27)],none,none⟩)],[]⟩
def Z8s : FnH := ⟨[],[]⟩
def Zc7 : FnH := ⟨[],[]⟩
def Zex : FnH := ⟨[],[]⟩
theorem Z6l : Enters Tg 67 := ⟨Tryz.f67,Tryz.func67,by kernel_rfl,by kernel_rfl⟩
theorem Z8t : Enters Tg 120 := ⟨Tryz.f120,Tryz.func120,by kernel_rfl,by kernel_rfl⟩
theorem Zc8 : Enters Tg 122 := ⟨Tryz.f122,Tryz.func122,by kernel_rfl,by kernel_rfl⟩
theorem Zey : Enters Tg 123 := ⟨Tryz.f123,Tryz.func123,by kernel_rfl,by kernel_rfl⟩
noncomputable def Z7c : Hints := ⟨[(119,Z5k),(121,Z4z)],[(67,Tryz.f67,Z1k),(120,Tryz.f120,Z8s),(122,Tryz.f122,Zc7),(123,Tryz.f123,Zex)],[303,305,306,308,253,1000032,1000060,2000026,2000040,2000062,2000034]⟩
theorem Zaz {m n : Nat} {ds : List D} {d : D} (h : funD Tg Z7c m n Z1k Tryz.f67 ds = some d) : DataSem Tg 67 ds d := Z0 (H := Z7c) (SpOk.cons td_ptrees_exact_api_Mapping (SpOk.cons td_ptrees_exact_api_Qualifier SpOk.nil)) mixed (InlOk.cons Tryz.func67 Z6l (InlOk.cons Tryz.func120 Z8t (InlOk.cons Tryz.func122 Zc8 (InlOk.cons Tryz.func123 Zey InlOk.nil)))) Tryz.func67 Z6l h
def Zt8 : List D := [(D.agg [bf,bt,(D.list 2 (some 2) [(D.v (.int .u8 (3 : Int))),w1,w2,w3,z0,z0,z0,z0,z0,z0,z0,z0,z0,z0,z0,z0,z0,n0l,(D.v (.int .u8 (5 : Int))),w2,w5,w29,w32,z0,z0,z0,z0,z0,z0,z0,z0,z0,z0,z0,z0,n0l]),bt,(D.list 1 (some 1) [(D.v (.int .u8 (3 : Int))),w1,w2,w3,z0,z0,z0,z0,z0,z0,z0,z0,z0,z0,z0,z0,z0,(D.v (.int .u8 (3 : Int))),w1,w2,w4,z0,z0,z0,z0,z0,z0,z0,z0,z0,z0,z0,z0,z0]),(D.v (.int .i64 (-1 : Int))),(D.v (.int .i64 (-1 : Int))),(D.v (.int .i64 (-1 : Int)))])]
def Zt9 : D := (D.agg [bf,bt,(D.list 2 (some 2) [(D.v (.int .u8 (3 : Int))),w1,w2,w3,z0,z0,z0,z0,z0,z0,z0,z0,z0,z0,z0,z0,z0,n0l,(D.v (.int .u8 (5 : Int))),w2,w5,w29,w32,z0,z0,z0,z0,z0,z0,z0,z0,z0,z0,z0,z0,n0l]),bt,(D.list 1 (some 1) [(D.v (.int .u8 (3 : Int))),w1,w2,w3,z0,z0,z0,z0,z0,z0,z0,z0,z0,z0,z0,z0,z0,(D.v (.int .u8 (3 : Int))),w1,w2,w4,z0,z0,z0,z0,z0,z0,z0,z0,z0,z0,z0,z0,z0]),(D.v (.int .i64 (-1 : Int))),(D.v (.int .i64 (-1 : Int))),(D.v (.int .i64 (-1 : Int)))])
def Zta : List D := [(D.agg [bf,bt,(D.list 1 (some 1) [(D.v (.int .u8 (3 : Int))),w1,w2,w4,z0,z0,z0,z0,z0,z0,z0,z0,z0,z0,z0,z0,z0,n0l]),bf,n0l,(D.v (.int .i64 (-1 : Int))),(D.v (.int .i64 (-1 : Int))),(D.v (.int .i64 (-1 : Int)))])]
def Ztb : D := (D.agg [bf,bt,(D.list 1 (some 1) [(D.v (.int .u8 (3 : Int))),w1,w2,w4,z0,z0,z0,z0,z0,z0,z0,z0,z0,z0,z0,z0,z0,n0l]),bf,n0l,(D.v (.int .i64 (-1 : Int))),(D.v (.int .i64 (-1 : Int))),(D.v (.int .i64 (-1 : Int)))])
def Ztc : List D := [(D.agg [bf,bf,n0l,bf,n0l,zI,zI,zI])]
def Ztd : D := (D.agg [bf,bf,n0l,bf,n0l,zI,zI,zI])
theorem Z168 : funD Tg Z7c 100000 60 Z1k Tryz.f67 Zt8 = some Zt9 := by kernel_rfl
theorem Z169 : funD Tg Z7c 100000 60 Z1k Tryz.f67 Zta = some Ztb := by kernel_rfl
theorem Z16a : funD Tg Z7c 100000 60 Z1k Tryz.f67 Ztc = some Ztd := by kernel_rfl
def Z8u (ds : List D) : Option D := if isT Zt8 ds then some Zt9 else (if isT Zta ds then some Ztb else (if isT Ztc ds then some Ztd else (none)))
theorem td_ptrees_copied : ∀ ds d,Z8u ds = some d → DataSem Tg 67 ds d := by
 intro ds d h
 unfold Z8u at h
 split at h
 ·rename_i ha; obtain rfl := isT_eq ha; cases h; exact Zaz Z168
 split at h
 ·rename_i ha; obtain rfl := isT_eq ha; cases h; exact Zaz Z169
 split at h
 ·rename_i ha; obtain rfl := isT_eq ha; cases h; exact Zaz Z16a
 cases h
end Go.Ev