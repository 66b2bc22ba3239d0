/- The examples of the chapter on the state machine of the tree,evaluated: each call at the arguments that come up. No conditions. -/
import Derived.Test.YthakkigkdhaihaaGreatDoorEzJa3
set_option linter.unusedVariables false
set_option maxRecDepth 1000000
set_option maxHeartbeats 4000000
namespace Go.Ev
open Go Go.Proofs
def Z2w : FnH := ⟨[(5,⟨(bm 7176 24),[(3,17),(10,34)],none,none⟩)],[]⟩
def Zck : FnH := ⟨[],[]⟩
def Z5q : FnH := ⟨[(4,⟨(bm 9 61),[],none,none⟩),(9,⟨(bm 57 61),[(4,17)],none,none⟩)],[]⟩
def Z91 : FnH := ⟨[],[]⟩
theorem Z5b : Enters Tg 140 := ⟨Tryz.f140,Tryz.func140,by kernel_rfl,by kernel_rfl⟩
theorem Zcl : Enters Tg 172 := ⟨Tryz.f172,Tryz.func172,by kernel_rfl,by kernel_rfl⟩
theorem Z5r : Enters Tg 204 := ⟨Tryz.f204,Tryz.func204,by kernel_rfl,by kernel_rfl⟩
theorem Z92 : Enters Tg 203 := ⟨Tryz.f203,Tryz.func203,by kernel_rfl,by kernel_rfl⟩
noncomputable def Zh4 : Hints := ⟨[(66,Z30),(144,Z2t)],[(140,Tryz.f140,Z2w),(172,Tryz.f172,Zck),(204,Tryz.f204,Z5q),(203,Tryz.f203,Z91)],[303,305,306,308,253,1000032,1000060,2000026,2000040,2000062,2000034]⟩
noncomputable def Zh5 {R : Type} : ExtTab R := [(164,sortE 17 144 oidCmp oidsOk)]
theorem Zyb {m n : Nat} {ds : List D} {d : D} (h : funE Tg Zh4 Zh5 m n Z2w Tryz.f140 ds = some d) : DataSem Tg 140 ds d := Zrd (H := Zh4) (ext := Zh5) (SpOk.cons td_records_Check (SpOk.cons td_oids_Compare SpOk.nil)) mixed (InlOk.cons Tryz.func140 Z5b (InlOk.cons Tryz.func172 Zcl (InlOk.cons Tryz.func204 Z5r (InlOk.cons Tryz.func203 Z92 InlOk.nil)))) (ExtOk.cons Z162 ExtOk.nil) Tryz.func140 Z5b h
def Zq8 : List D := [(D.agg [bf,bt,(D.list 2 (some 2) [(D.v (.int .u8 (3 : Int))),w1,w2,w3,z0,z0,z0,z0,z0,z0,z0,z0,z0,z0,z0,z0,z0,n0l,(D.v (.int .u8 (5 : Int))),w2,w5,w29,w32,z0,z0,z0,z0,z0,z0,z0,z0,z0,z0,z0,z0,n0l]),bt,(D.list 1 (some 1) [(D.v (.int .u8 (3 : Int))),w1,w2,w3,z0,z0,z0,z0,z0,z0,z0,z0,z0,z0,z0,z0,z0,(D.v (.int .u8 (3 : Int))),w1,w2,w4,z0,z0,z0,z0,z0,z0,z0,z0,z0,z0,z0,z0,z0]),(D.v (.int .i64 (-1 : Int))),(D.v (.int .i64 (-1 : Int))),(D.v (.int .i64 (-1 : Int)))])]
def Zq9 : D := (D.list 1 (some 1) [(D.v (.int .u8 (3 : Int))),w1,w2,w3,z0,z0,z0,z0,z0,z0,z0,z0,z0,z0,z0,z0,z0])
theorem Z13y : funE Tg Zh4 Zh5 100000 60 Z2w Tryz.f140 Zq8 = some Zq9 := by kernel_rfl
def Zk8 (ds : List D) : Option D := if isT Zq8 ds then some Zq9 else (none)
theorem td_records_Issuers : ∀ ds d,Zk8 ds = some d → DataSem Tg 140 ds d := by
 intro ds d h
 unfold Zk8 at h
 split at h
 ·rename_i ha; obtain rfl := isT_eq ha; cases h; exact Zyb Z13y
 cases h
def Z2a : FnH := ⟨[],[]⟩
def Z93 : FnH := ⟨[],[]⟩
def Zcm : FnH := ⟨[(3,⟨(bm 14470 38),[(7,17),(11,34)],none,none⟩)],[]⟩
def Zk9 : FnH := ⟨[(6,⟨(bm 1924145348608 47),[(38,1)],none,none⟩)],[]⟩
def Z56 : FnH := ⟨[(4,⟨(bm 9 61),[],none,none⟩),(9,⟨(bm 57 61),[(4,17)],none,none⟩)],[]⟩
def Z5w : FnH := ⟨[],[]⟩
def Z94 : FnH := ⟨[],[]⟩
theorem Z4d : Enters Tg 141 := ⟨Tryz.f141,Tryz.func141,by kernel_rfl,by kernel_rfl⟩
theorem Z95 : Enters Tg 174 := ⟨Tryz.f174,Tryz.func174,by kernel_rfl,by kernel_rfl⟩
theorem Zcn : Enters Tg 173 := ⟨Tryz.f173,Tryz.func173,by kernel_rfl,by kernel_rfl⟩
theorem Zka : Enters Tg 117 := ⟨Tryz.f117,Tryz.func117,by kernel_rfl,by kernel_rfl⟩
theorem Z57 : Enters Tg 204 := ⟨Tryz.f204,Tryz.func204,by kernel_rfl,by kernel_rfl⟩
theorem Z5x : Enters Tg 205 := ⟨Tryz.f205,Tryz.func205,by kernel_rfl,by kernel_rfl⟩
theorem Z96 : Enters Tg 175 := ⟨Tryz.f175,Tryz.func175,by kernel_rfl,by kernel_rfl⟩
noncomputable def Zbl : Hints := ⟨[(144,Z2t)],[(141,Tryz.f141,Z2a),(174,Tryz.f174,Z93),(173,Tryz.f173,Zcm),(117,Tryz.f117,Zk9),(204,Tryz.f204,Z56),(205,Tryz.f205,Z5w),(175,Tryz.f175,Z94)],[303,305,306,308,253,1000032,1000060,2000026,2000040,2000062,2000034]⟩
noncomputable def Zbm {R : Type} : ExtTab R := [(164,sortE 17 144 oidCmp oidsOk)]
theorem Zuw {m n : Nat} {ds : List D} {d : D} (h : funE Tg Zbl Zbm m n Z2a Tryz.f141 ds = some d) : DataSem Tg 141 ds d := Zrd (H := Zbl) (ext := Zbm) (SpOk.cons td_oids_Compare SpOk.nil) mixed (InlOk.cons Tryz.func141 Z4d (InlOk.cons Tryz.func174 Z95 (InlOk.cons Tryz.func173 Zcn (InlOk.cons Tryz.func117 Zka (InlOk.cons Tryz.func204 Z57 (InlOk.cons Tryz.func205 Z5x (InlOk.cons Tryz.func175 Z96 InlOk.nil))))))) (ExtOk.cons Z162 ExtOk.nil) Tryz.func141 Z4d h
def Zma : List D := [(D.list 1 (some 1) [(D.v (.int .u8 (3 : Int))),w1,w2,w3,z0,z0,z0,z0,z0,z0,z0,z0,z0,z0,z0,z0,z0,(D.v (.int .u8 (3 : Int))),w1,w2,w4,z0,z0,z0,z0,z0,z0,z0,z0,z0,z0,z0,z0,z0]),(D.agg [(D.v (.int .u8 (3 : Int))),w1,w2,w3,z0,z0,z0,z0,z0,z0,z0,z0,z0,z0,z0,z0,z0])]
def Zmb : D := (D.list 1 (some 1) [(D.v (.int .u8 (3 : Int))),w1,w2,w4,z0,z0,z0,z0,z0,z0,z0,z0,z0,z0,z0,z0,z0])
theorem Z118 : funE Tg Zbl Zbm 100000 60 Z2a Tryz.f141 Zma = some Zmb := by kernel_rfl
def Ze6 (ds : List D) : Option D := if isT Zma ds then some Zmb else (none)
theorem td_mappings_Subjects : ∀ ds d,Ze6 ds = some d → DataSem Tg 141 ds d := by
 intro ds d h
 unfold Ze6 at h
 split at h
 ·rename_i ha; obtain rfl := isT_eq ha; cases h; exact Zuw Z118
 cases h
def Za : FnH := ⟨[],[]⟩
def Z3d : FnH := ⟨[(2,⟨(bm 393 19),[],none,none⟩)],[]⟩
theorem Z14 : Enters Tg 145 := ⟨Tryz.f145,Tryz.func145,by kernel_rfl,by kernel_rfl⟩
theorem Z3e : Enters Tg 179 := ⟨Tryz.f179,Tryz.func179,by kernel_rfl,by kernel_rfl⟩
noncomputable def Z1z : Hints := ⟨[],[(145,Tryz.f145,Za),(179,Tryz.f179,Z3d)],[303,305,306,308,253,1000032,1000060,2000026,2000040,2000062,2000034]⟩
theorem Z4k {m n : Nat} {ds : List D} {d : D} (h : funD Tg Z1z m n Za Tryz.f145 ds = some d) : DataSem Tg 145 ds d := Z0 (H := Z1z) SpOk.nil mixed (InlOk.cons Tryz.func145 Z14 (InlOk.cons Tryz.func179 Z3e InlOk.nil)) Tryz.func145 Z14 h
def Z5c : List D := [(D.list 1 (some 1) [(D.v (.int .u8 (3 : Int))),w1,w2,w3,z0,z0,z0,z0,z0,z0,z0,z0,z0,z0,z0,z0,z0]),(D.agg [(D.v (.int .u8 (3 : Int))),w1,w2,w3,z0,z0,z0,z0,z0,z0,z0,z0,z0,z0,z0,z0,z0])]
def Z5d : D := bt
def Z5e : List D := [(D.list 1 (some 1) [(D.v (.int .u8 (3 : Int))),w1,w2,w3,z0,z0,z0,z0,z0,z0,z0,z0,z0,z0,z0,z0,z0]),(D.agg [(D.v (.int .u8 (5 : Int))),w2,w5,w29,w32,z0,z0,z0,z0,z0,z0,z0,z0,z0,z0,z0,z0])]
def Z5f : D := bf
theorem Zf7 : funD Tg Z1z 100000 60 Za Tryz.f145 Z5c = some Z5d := by kernel_rfl
theorem Zf8 : funD Tg Z1z 100000 60 Za Tryz.f145 Z5e = some Z5f := by kernel_rfl
def Z3f (ds : List D) : Option D := if isT Z5c ds then some Z5d else (if isT Z5e ds then some Z5f else (none))
theorem td_slices_Contains_api_OID_api_OID : ∀ ds d,Z3f ds = some d → DataSem Tg 145 ds d := by
 intro ds d h
 unfold Z3f at h
 split at h
 ·rename_i ha; obtain rfl := isT_eq ha; cases h; exact Z4k Zf7
 split at h
 ·rename_i ha; obtain rfl := isT_eq ha; cases h; exact Z4k Zf8
 cases h
def Z8 : FnH := ⟨[],[]⟩
def Z7l : FnH := ⟨[],[]⟩
def Z7m : FnH := ⟨[(5,⟨(bm 15032385593 131),[(31,20)],none,none⟩),(14,⟨(bm 258254417031933723449 131),[(8,20),(9,27),(65,17)],none,none⟩),(20,⟨(bm 258254417031933752121 131),[(8,20),(9,27),(13,17),(65,17)],none,none⟩)],[]⟩
def Zco : FnH := ⟨[],[]⟩
def Z2x : FnH := ⟨[],[]⟩
def Z4l : FnH := ⟨[(2,⟨(bm 455 63),[],none,none⟩),(7,⟨(bm 71 63),[],none,none⟩),(9,⟨(bm 455 63),[],none,none⟩)],[]⟩
def Z3h : FnH := ⟨[(1,⟨(bm 271 53),[],none,none⟩),(4,⟨(bm 783 53),[],none,none⟩)],[]⟩
def Z48 : FnH := ⟨[(3,⟨(bm 3091 220),[],none,none⟩),(9,⟨(bm 9217 220),[],none,none⟩),(15,⟨(bm 49173 220),[],none,none⟩),(21,⟨(bm 147457 220),[],none,none⟩),(33,⟨(bm 8126495 220),[],none,none⟩)],[]⟩
def Z4m : FnH := ⟨[(2,⟨(bm 3093 58),[],none,none⟩)],[]⟩
def Z44 : FnH := ⟨[(1,⟨(bm 1039 38),[],none,none⟩)],[]⟩
def Z6w : FnH := ⟨[],[]⟩
def Z7e : FnH := ⟨[],[]⟩
def Z97 : FnH := ⟨[(4,⟨(bm 57 68),[(3,17),(4,1)],none,none⟩)],[]⟩
def Z6e : FnH := ⟨[],[]⟩
def Zcp : FnH := ⟨[(2,⟨(bm 448 21),[(6,2)],some 1000000,none⟩)],[]⟩
theorem Z33 : Enters Tg 28 := ⟨Tryz.f28,Tryz.func28,by kernel_rfl,by kernel_rfl⟩
theorem Z7n : Enters Tg 65 := ⟨Tryz.f65,Tryz.func65,by kernel_rfl,by kernel_rfl⟩
theorem Z7o : Enters Tg 86 := ⟨Tryz.f86,Tryz.func86,by kernel_rfl,by kernel_rfl⟩
theorem Zcq : Enters Tg 124 := ⟨Tryz.f124,Tryz.func124,by kernel_rfl,by kernel_rfl⟩
theorem Z2y : Enters Tg 142 := ⟨Tryz.f142,Tryz.func142,by kernel_rfl,by kernel_rfl⟩
theorem Z4n : Enters Tg 176 := ⟨Tryz.f176,Tryz.func176,by kernel_rfl,by kernel_rfl⟩
theorem Z3i : Enters Tg 206 := ⟨Tryz.f206,Tryz.func206,by kernel_rfl,by kernel_rfl⟩
theorem Z49 : Enters Tg 207 := ⟨Tryz.f207,Tryz.func207,by kernel_rfl,by kernel_rfl⟩
theorem Z4o : Enters Tg 236 := ⟨Tryz.f236,Tryz.func236,by kernel_rfl,by kernel_rfl⟩
theorem Z45 : Enters Tg 262 := ⟨Tryz.f262,Tryz.func262,by kernel_rfl,by kernel_rfl⟩
theorem Z6x : Enters Tg 143 := ⟨Tryz.f143,Tryz.func143,by kernel_rfl,by kernel_rfl⟩
theorem Z7f : Enters Tg 127 := ⟨Tryz.f127,Tryz.func127,by kernel_rfl,by kernel_rfl⟩
theorem Z98 : Enters Tg 87 := ⟨Tryz.f87,Tryz.func87,by kernel_rfl,by kernel_rfl⟩
theorem Z6f : Enters Tg 88 := ⟨Tryz.f88,Tryz.func88,by kernel_rfl,by kernel_rfl⟩
theorem Zcr : Enters Tg 68 := ⟨Tryz.f68,Tryz.func68,by kernel_rfl,by kernel_rfl⟩
noncomputable def Z1v : Hints := ⟨[(72,Zk2),(85,Ze3),(89,Zpt),(92,Z5o),(114,Zas),(139,Zuv),(140,Zk8),(141,Ze6),(144,Z2t),(145,Z3f),(162,Znv)],[(28,Tryz.f28,Z8),(65,Tryz.f65,Z7l),(86,Tryz.f86,Z7m),(124,Tryz.f124,Zco),(142,Tryz.f142,Z2x),(176,Tryz.f176,Z4l),(206,Tryz.f206,Z3h),(207,Tryz.f207,Z48),(236,Tryz.f236,Z4m),(262,Tryz.f262,Z44),(143,Tryz.f143,Z6w),(127,Tryz.f127,Z7e),(87,Tryz.f87,Z97),(88,Tryz.f88,Z6e),(68,Tryz.f68,Zcp)],[303,305,306,308,253,1000032,1000060,2000026,2000040,2000062,2000034]⟩
noncomputable def Z1w {R : Type} : ExtTab R := [(128,cloneE Tg Tryz.f128)]
theorem Z28 {m n : Nat} {ds : List D} {d : D} (h : funE Tg Z1v Z1w m n Z8 Tryz.f28 ds = some d) : DataSem Tg 28 ds d := Zrd (H := Z1v) (ext := Z1w) (SpOk.cons td_prunes_Prune (SpOk.cons td_records_AnyMapped (SpOk.cons td_counters_Next (SpOk.cons td_trees_Delete (SpOk.cons td_oids_Any (SpOk.cons td_records_Any (SpOk.cons td_records_Issuers (SpOk.cons td_mappings_Subjects (SpOk.cons td_oids_Compare (SpOk.cons td_slices_Contains_api_OID_api_OID (SpOk.cons td_trees_Level SpOk.nil))))))))))) mixed (InlOk.cons Tryz.func28 Z33 (InlOk.cons Tryz.func65 Z7n (InlOk.cons Tryz.func86 Z7o (InlOk.cons Tryz.func124 Zcq (InlOk.cons Tryz.func142 Z2y (InlOk.cons Tryz.func176 Z4n (InlOk.cons Tryz.func206 Z3i (InlOk.cons Tryz.func207 Z49 (InlOk.cons Tryz.func236 Z4o (InlOk.cons Tryz.func262 Z45 (InlOk.cons Tryz.func143 Z6x (InlOk.cons Tryz.func127 Z7f (InlOk.cons Tryz.func87 Z98 (InlOk.cons Tryz.func88 Z6f (InlOk.cons Tryz.func68 Zcr InlOk.nil))))))))))))))) (ExtOk.cons Z1c5 ExtOk.nil) Tryz.func28 Z33 h
def Zf9 : List D := [(D.agg [(D.v (.int .i64 (2 : Int))),(D.v (.int .i64 (1 : Int))),(D.v (.int .i64 (9 : Int))),(D.v (.int .i64 (3 : Int))),bt,(D.v (.int .u8 (0 : Int))),(D.list 1 (some 1) [(D.v (.int .u8 (3 : Int))),w1,w2,w4,z0,z0,z0,z0,z0,z0,z0,z0,z0,z0,z0,z0,z0]),bt,bf,bf,bf,bt,(D.list 2 (some 2) [(D.v (.int .u8 (3 : Int))),w1,w2,w3,z0,z0,z0,z0,z0,z0,z0,z0,z0,z0,z0,z0,z0,n0l,(D.v (.int .u8 (5 : Int))),w2,w5,w29,w32,z0,z0,z0,z0,z0,z0,z0,z0,z0,z0,z0,z0,n0l]),bt,(D.list 1 (some 1) [(D.v (.int .u8 (3 : Int))),w1,w2,w3,z0,z0,z0,z0,z0,z0,z0,z0,z0,z0,z0,z0,z0,(D.v (.int .u8 (3 : Int))),w1,w2,w4,z0,z0,z0,z0,z0,z0,z0,z0,z0,z0,z0,z0,z0]),(D.v (.int .i64 (-1 : Int))),(D.v (.int .i64 (-1 : Int))),(D.v (.int .i64 (-1 : Int))),(D.list 3 (some 3) [(D.v (.int .i64 (-1 : Int))),(D.v (.int .u8 (5 : Int))),w2,w5,w29,w32,z0,z0,z0,z0,z0,z0,z0,z0,z0,z0,z0,z0,(D.list 1 (some 1) [(D.v (.int .u8 (5 : Int))),w2,w5,w29,w32,z0,z0,z0,z0,z0,z0,z0,z0,z0,z0,z0,z0]),n0l,zI,(D.v (.int .u8 (3 : Int))),w1,w2,w3,z0,z0,z0,z0,z0,z0,z0,z0,z0,z0,z0,z0,z0,(D.list 1 (some 1) [(D.v (.int .u8 (3 : Int))),w1,w2,w3,z0,z0,z0,z0,z0,z0,z0,z0,z0,z0,z0,z0,z0]),n0l,zI,(D.v (.int .u8 (5 : Int))),w2,w5,w29,w32,z0,z0,z0,z0,z0,z0,z0,z0,z0,z0,z0,z0,(D.list 1 (some 1) [(D.v (.int .u8 (5 : Int))),w2,w5,w29,w32,z0,z0,z0,z0,z0,z0,z0,z0,z0,z0,z0,z0]),n0l]),zI,(D.v (.int .i64 (3 : Int))),(D.v (.int .i64 (3 : Int)))])]
def Zfa : D := (D.tup [(D.agg [(D.v (.int .i64 (2 : Int))),(D.v (.int .i64 (1 : Int))),(D.v (.int .i64 (9 : Int))),(D.v (.int .i64 (3 : Int))),bf,(D.v (.int .u8 (0 : Int))),(D.list 1 (some 1) [(D.v (.int .u8 (3 : Int))),w1,w2,w4,z0,z0,z0,z0,z0,z0,z0,z0,z0,z0,z0,z0,z0]),bt,bf,bf,bf,bt,(D.list 2 (some 2) [(D.v (.int .u8 (3 : Int))),w1,w2,w3,z0,z0,z0,z0,z0,z0,z0,z0,z0,z0,z0,z0,z0,n0l,(D.v (.int .u8 (5 : Int))),w2,w5,w29,w32,z0,z0,z0,z0,z0,z0,z0,z0,z0,z0,z0,z0,n0l]),bt,(D.list 1 (some 1) [(D.v (.int .u8 (3 : Int))),w1,w2,w3,z0,z0,z0,z0,z0,z0,z0,z0,z0,z0,z0,z0,z0,(D.v (.int .u8 (3 : Int))),w1,w2,w4,z0,z0,z0,z0,z0,z0,z0,z0,z0,z0,z0,z0,z0]),(D.v (.int .i64 (-1 : Int))),(D.v (.int .i64 (-1 : Int))),(D.v (.int .i64 (-1 : Int))),(D.list 3 none [(D.v (.int .i64 (-1 : Int))),(D.v (.int .u8 (5 : Int))),w2,w5,w29,w32,z0,z0,z0,z0,z0,z0,z0,z0,z0,z0,z0,z0,(D.list 1 (some 1) [(D.v (.int .u8 (5 : Int))),w2,w5,w29,w32,z0,z0,z0,z0,z0,z0,z0,z0,z0,z0,z0,z0]),n0l,zI,(D.v (.int .u8 (3 : Int))),w1,w2,w3,z0,z0,z0,z0,z0,z0,z0,z0,z0,z0,z0,z0,z0,(D.list 1 (some 1) [(D.v (.int .u8 (3 : Int))),w1,w2,w4,z0,z0,z0,z0,z0,z0,z0,z0,z0,z0,z0,z0,z0]),n0l,zI,(D.v (.int .u8 (5 : Int))),w2,w5,w29,w32,z0,z0,z0,z0,z0,z0,z0,z0,z0,z0,z0,z0,(D.list 1 (some 1) [(D.v (.int .u8 (5 : Int))),w2,w5,w29,w32,z0,z0,z0,z0,z0,z0,z0,z0,z0,z0,z0,z0]),n0l]),zI,(D.v (.int .i64 (2 : Int))),(D.v (.int .i64 (2 : Int)))]),zI])
def Zfb : List D := [(D.agg [(D.v (.int .i64 (2 : Int))),(D.v (.int .i64 (1 : Int))),(D.v (.int .i64 (3 : Int))),(D.v (.int .i64 (3 : Int))),bt,(D.v (.int .u8 (0 : Int))),(D.list 1 (some 1) [(D.v (.int .u8 (3 : Int))),w1,w2,w4,z0,z0,z0,z0,z0,z0,z0,z0,z0,z0,z0,z0,z0]),bt,bf,bf,bf,bt,(D.list 2 (some 2) [(D.v (.int .u8 (3 : Int))),w1,w2,w3,z0,z0,z0,z0,z0,z0,z0,z0,z0,z0,z0,z0,z0,n0l,(D.v (.int .u8 (5 : Int))),w2,w5,w29,w32,z0,z0,z0,z0,z0,z0,z0,z0,z0,z0,z0,z0,n0l]),bt,(D.list 1 (some 1) [(D.v (.int .u8 (3 : Int))),w1,w2,w3,z0,z0,z0,z0,z0,z0,z0,z0,z0,z0,z0,z0,z0,(D.v (.int .u8 (3 : Int))),w1,w2,w4,z0,z0,z0,z0,z0,z0,z0,z0,z0,z0,z0,z0,z0]),(D.v (.int .i64 (-1 : Int))),(D.v (.int .i64 (-1 : Int))),(D.v (.int .i64 (-1 : Int))),(D.list 3 (some 3) [(D.v (.int .i64 (-1 : Int))),(D.v (.int .u8 (5 : Int))),w2,w5,w29,w32,z0,z0,z0,z0,z0,z0,z0,z0,z0,z0,z0,z0,(D.list 1 (some 1) [(D.v (.int .u8 (5 : Int))),w2,w5,w29,w32,z0,z0,z0,z0,z0,z0,z0,z0,z0,z0,z0,z0]),n0l,zI,(D.v (.int .u8 (3 : Int))),w1,w2,w3,z0,z0,z0,z0,z0,z0,z0,z0,z0,z0,z0,z0,z0,(D.list 1 (some 1) [(D.v (.int .u8 (3 : Int))),w1,w2,w3,z0,z0,z0,z0,z0,z0,z0,z0,z0,z0,z0,z0,z0]),n0l,zI,(D.v (.int .u8 (5 : Int))),w2,w5,w29,w32,z0,z0,z0,z0,z0,z0,z0,z0,z0,z0,z0,z0,(D.list 1 (some 1) [(D.v (.int .u8 (5 : Int))),w2,w5,w29,w32,z0,z0,z0,z0,z0,z0,z0,z0,z0,z0,z0,z0]),n0l]),zI,(D.v (.int .i64 (3 : Int))),(D.v (.int .i64 (3 : Int)))])]
def Zfc : D := (D.tup [(D.agg [(D.v (.int .i64 (2 : Int))),(D.v (.int .i64 (1 : Int))),(D.v (.int .i64 (3 : Int))),(D.v (.int .i64 (3 : Int))),bf,(D.v (.int .u8 (0 : Int))),(D.list 1 (some 1) [(D.v (.int .u8 (3 : Int))),w1,w2,w4,z0,z0,z0,z0,z0,z0,z0,z0,z0,z0,z0,z0,z0]),bt,bf,bf,bf,bt,(D.list 2 (some 2) [(D.v (.int .u8 (3 : Int))),w1,w2,w3,z0,z0,z0,z0,z0,z0,z0,z0,z0,z0,z0,z0,z0,n0l,(D.v (.int .u8 (5 : Int))),w2,w5,w29,w32,z0,z0,z0,z0,z0,z0,z0,z0,z0,z0,z0,z0,n0l]),bt,(D.list 1 (some 1) [(D.v (.int .u8 (3 : Int))),w1,w2,w3,z0,z0,z0,z0,z0,z0,z0,z0,z0,z0,z0,z0,z0,(D.v (.int .u8 (3 : Int))),w1,w2,w4,z0,z0,z0,z0,z0,z0,z0,z0,z0,z0,z0,z0,z0]),(D.v (.int .i64 (-1 : Int))),(D.v (.int .i64 (-1 : Int))),(D.v (.int .i64 (-1 : Int))),(D.list 3 none [(D.v (.int .i64 (-1 : Int))),(D.v (.int .u8 (5 : Int))),w2,w5,w29,w32,z0,z0,z0,z0,z0,z0,z0,z0,z0,z0,z0,z0,(D.list 1 (some 1) [(D.v (.int .u8 (5 : Int))),w2,w5,w29,w32,z0,z0,z0,z0,z0,z0,z0,z0,z0,z0,z0,z0]),n0l,zI,(D.v (.int .u8 (3 : Int))),w1,w2,w3,z0,z0,z0,z0,z0,z0,z0,z0,z0,z0,z0,z0,z0,(D.list 1 (some 1) [(D.v (.int .u8 (3 : Int))),w1,w2,w4,z0,z0,z0,z0,z0,z0,z0,z0,z0,z0,z0,z0,z0]),n0l,zI,(D.v (.int .u8 (5 : Int))),w2,w5,w29,w32,z0,z0,z0,z0,z0,z0,z0,z0,z0,z0,z0,z0,(D.list 1 (some 1) [(D.v (.int .u8 (5 : Int))),w2,w5,w29,w32,z0,z0,z0,z0,z0,z0,z0,z0,z0,z0,z0,z0]),n0l]),zI,(D.v (.int .i64 (2 : Int))),(D.v (.int .i64 (2 : Int)))]),zI])
def Zfd : List D := [(D.agg [(D.v (.int .i64 (2 : Int))),(D.v (.int .i64 (1 : Int))),(D.v (.int .i64 (4 : Int))),(D.v (.int .i64 (3 : Int))),bt,(D.v (.int .u8 (0 : Int))),(D.list 1 (some 1) [(D.v (.int .u8 (3 : Int))),w1,w2,w4,z0,z0,z0,z0,z0,z0,z0,z0,z0,z0,z0,z0,z0]),bt,bf,bf,bf,bt,(D.list 2 (some 2) [(D.v (.int .u8 (3 : Int))),w1,w2,w3,z0,z0,z0,z0,z0,z0,z0,z0,z0,z0,z0,z0,z0,n0l,(D.v (.int .u8 (5 : Int))),w2,w5,w29,w32,z0,z0,z0,z0,z0,z0,z0,z0,z0,z0,z0,z0,n0l]),bt,(D.list 1 (some 1) [(D.v (.int .u8 (3 : Int))),w1,w2,w3,z0,z0,z0,z0,z0,z0,z0,z0,z0,z0,z0,z0,z0,(D.v (.int .u8 (3 : Int))),w1,w2,w4,z0,z0,z0,z0,z0,z0,z0,z0,z0,z0,z0,z0,z0]),(D.v (.int .i64 (-1 : Int))),(D.v (.int .i64 (-1 : Int))),(D.v (.int .i64 (-1 : Int))),(D.list 3 (some 3) [(D.v (.int .i64 (-1 : Int))),(D.v (.int .u8 (5 : Int))),w2,w5,w29,w32,z0,z0,z0,z0,z0,z0,z0,z0,z0,z0,z0,z0,(D.list 1 (some 1) [(D.v (.int .u8 (5 : Int))),w2,w5,w29,w32,z0,z0,z0,z0,z0,z0,z0,z0,z0,z0,z0,z0]),n0l,zI,(D.v (.int .u8 (3 : Int))),w1,w2,w3,z0,z0,z0,z0,z0,z0,z0,z0,z0,z0,z0,z0,z0,(D.list 1 (some 1) [(D.v (.int .u8 (3 : Int))),w1,w2,w3,z0,z0,z0,z0,z0,z0,z0,z0,z0,z0,z0,z0,z0]),n0l,zI,(D.v (.int .u8 (5 : Int))),w2,w5,w29,w32,z0,z0,z0,z0,z0,z0,z0,z0,z0,z0,z0,z0,(D.list 1 (some 1) [(D.v (.int .u8 (5 : Int))),w2,w5,w29,w32,z0,z0,z0,z0,z0,z0,z0,z0,z0,z0,z0,z0]),n0l]),zI,(D.v (.int .i64 (3 : Int))),(D.v (.int .i64 (3 : Int)))])]
def Zfe : D := (D.tup [(D.agg [(D.v (.int .i64 (2 : Int))),(D.v (.int .i64 (1 : Int))),(D.v (.int .i64 (4 : Int))),(D.v (.int .i64 (3 : Int))),bf,(D.v (.int .u8 (0 : Int))),(D.list 1 (some 1) [(D.v (.int .u8 (3 : Int))),w1,w2,w4,z0,z0,z0,z0,z0,z0,z0,z0,z0,z0,z0,z0,z0]),bt,bf,bf,bf,bt,(D.list 2 (some 2) [(D.v (.int .u8 (3 : Int))),w1,w2,w3,z0,z0,z0,z0,z0,z0,z0,z0,z0,z0,z0,z0,z0,n0l,(D.v (.int .u8 (5 : Int))),w2,w5,w29,w32,z0,z0,z0,z0,z0,z0,z0,z0,z0,z0,z0,z0,n0l]),bt,(D.list 1 (some 1) [(D.v (.int .u8 (3 : Int))),w1,w2,w3,z0,z0,z0,z0,z0,z0,z0,z0,z0,z0,z0,z0,z0,(D.v (.int .u8 (3 : Int))),w1,w2,w4,z0,z0,z0,z0,z0,z0,z0,z0,z0,z0,z0,z0,z0]),(D.v (.int .i64 (-1 : Int))),(D.v (.int .i64 (-1 : Int))),(D.v (.int .i64 (-1 : Int))),(D.list 3 none [(D.v (.int .i64 (-1 : Int))),(D.v (.int .u8 (5 : Int))),w2,w5,w29,w32,z0,z0,z0,z0,z0,z0,z0,z0,z0,z0,z0,z0,(D.list 1 (some 1) [(D.v (.int .u8 (5 : Int))),w2,w5,w29,w32,z0,z0,z0,z0,z0,z0,z0,z0,z0,z0,z0,z0]),n0l,zI,(D.v (.int .u8 (3 : Int))),w1,w2,w3,z0,z0,z0,z0,z0,z0,z0,z0,z0,z0,z0,z0,z0,(D.list 1 (some 1) [(D.v (.int .u8 (3 : Int))),w1,w2,w4,z0,z0,z0,z0,z0,z0,z0,z0,z0,z0,z0,z0,z0]),n0l,zI,(D.v (.int .u8 (5 : Int))),w2,w5,w29,w32,z0,z0,z0,z0,z0,z0,z0,z0,z0,z0,z0,z0,(D.list 1 (some 1) [(D.v (.int .u8 (5 : Int))),w2,w5,w29,w32,z0,z0,z0,z0,z0,z0,z0,z0,z0,z0,z0,z0]),n0l]),zI,(D.v (.int .i64 (2 : Int))),(D.v (.int .i64 (2 : Int)))]),zI])
def Zff : List D := [(D.agg [(D.v (.int .i64 (2 : Int))),(D.v (.int .i64 (1 : Int))),(D.v (.int .i64 (3 : Int))),(D.v (.int .i64 (3 : Int))),bt,(D.v (.int .u8 (0 : Int))),(D.list 1 (some 1) [(D.v (.int .u8 (3 : Int))),w1,w2,w4,z0,z0,z0,z0,z0,z0,z0,z0,z0,z0,z0,z0,z0]),bt,bt,bf,bf,bt,(D.list 2 (some 2) [(D.v (.int .u8 (3 : Int))),w1,w2,w3,z0,z0,z0,z0,z0,z0,z0,z0,z0,z0,z0,z0,z0,n0l,(D.v (.int .u8 (5 : Int))),w2,w5,w29,w32,z0,z0,z0,z0,z0,z0,z0,z0,z0,z0,z0,z0,n0l]),bt,(D.list 1 (some 1) [(D.v (.int .u8 (3 : Int))),w1,w2,w3,z0,z0,z0,z0,z0,z0,z0,z0,z0,z0,z0,z0,z0,(D.v (.int .u8 (3 : Int))),w1,w2,w4,z0,z0,z0,z0,z0,z0,z0,z0,z0,z0,z0,z0,z0]),(D.v (.int .i64 (-1 : Int))),(D.v (.int .i64 (-1 : Int))),(D.v (.int .i64 (-1 : Int))),(D.list 3 (some 3) [(D.v (.int .i64 (-1 : Int))),(D.v (.int .u8 (5 : Int))),w2,w5,w29,w32,z0,z0,z0,z0,z0,z0,z0,z0,z0,z0,z0,z0,(D.list 1 (some 1) [(D.v (.int .u8 (5 : Int))),w2,w5,w29,w32,z0,z0,z0,z0,z0,z0,z0,z0,z0,z0,z0,z0]),n0l,zI,(D.v (.int .u8 (3 : Int))),w1,w2,w3,z0,z0,z0,z0,z0,z0,z0,z0,z0,z0,z0,z0,z0,(D.list 1 (some 1) [(D.v (.int .u8 (3 : Int))),w1,w2,w3,z0,z0,z0,z0,z0,z0,z0,z0,z0,z0,z0,z0,z0]),n0l,zI,(D.v (.int .u8 (5 : Int))),w2,w5,w29,w32,z0,z0,z0,z0,z0,z0,z0,z0,z0,z0,z0,z0,(D.list 1 (some 1) [(D.v (.int .u8 (5 : Int))),w2,w5,w29,w32,z0,z0,z0,z0,z0,z0,z0,z0,z0,z0,z0,z0]),n0l]),zI,zI,(D.v (.int .i64 (3 : Int)))])]
def Zfg : D := (D.tup [(D.agg [(D.v (.int .i64 (2 : Int))),(D.v (.int .i64 (1 : Int))),(D.v (.int .i64 (3 : Int))),(D.v (.int .i64 (3 : Int))),bf,(D.v (.int .u8 (0 : Int))),(D.list 1 (some 1) [(D.v (.int .u8 (3 : Int))),w1,w2,w4,z0,z0,z0,z0,z0,z0,z0,z0,z0,z0,z0,z0,z0]),bt,bt,bf,bf,bt,(D.list 2 (some 2) [(D.v (.int .u8 (3 : Int))),w1,w2,w3,z0,z0,z0,z0,z0,z0,z0,z0,z0,z0,z0,z0,z0,n0l,(D.v (.int .u8 (5 : Int))),w2,w5,w29,w32,z0,z0,z0,z0,z0,z0,z0,z0,z0,z0,z0,z0,n0l]),bt,(D.list 1 (some 1) [(D.v (.int .u8 (3 : Int))),w1,w2,w3,z0,z0,z0,z0,z0,z0,z0,z0,z0,z0,z0,z0,z0,(D.v (.int .u8 (3 : Int))),w1,w2,w4,z0,z0,z0,z0,z0,z0,z0,z0,z0,z0,z0,z0,z0]),(D.v (.int .i64 (-1 : Int))),(D.v (.int .i64 (-1 : Int))),(D.v (.int .i64 (-1 : Int))),(D.list 2 (some 2) [(D.v (.int .i64 (-1 : Int))),(D.v (.int .u8 (5 : Int))),w2,w5,w29,w32,z0,z0,z0,z0,z0,z0,z0,z0,z0,z0,z0,z0,(D.list 1 (some 1) [(D.v (.int .u8 (5 : Int))),w2,w5,w29,w32,z0,z0,z0,z0,z0,z0,z0,z0,z0,z0,z0,z0]),n0l,zI,(D.v (.int .u8 (5 : Int))),w2,w5,w29,w32,z0,z0,z0,z0,z0,z0,z0,z0,z0,z0,z0,z0,(D.list 1 (some 1) [(D.v (.int .u8 (5 : Int))),w2,w5,w29,w32,z0,z0,z0,z0,z0,z0,z0,z0,z0,z0,z0,z0]),n0l]),zI,zI,(D.v (.int .i64 (2 : Int)))]),zI])
def Zfh : List D := [(D.agg [zI,zI,zI,zI,bf,(D.v (.int .u8 (0 : Int))),n0l,bf,bf,bf,bf,bf,n0l,bf,n0l,zI,zI,zI,n0l,zI,zI,zI])]
def Zfi : D := (D.tup [(D.agg [zI,zI,zI,zI,bf,(D.v (.int .u8 (0 : Int))),n0l,bf,bf,bf,bf,bf,n0l,bf,n0l,zI,zI,zI,n0l,zI,zI,zI]),(D.v (.int .i64 (2 : Int)))])
theorem Zux : funE Tg Z1v Z1w 100000 60 Z8 Tryz.f28 Zf9 = some Zfa := by kernel_rfl
theorem Zuy : funE Tg Z1v Z1w 100000 60 Z8 Tryz.f28 Zfb = some Zfc := by kernel_rfl
theorem Zuz : funE Tg Z1v Z1w 100000 60 Z8 Tryz.f28 Zfd = some Zfe := by kernel_rfl
theorem Zv0 : funE Tg Z1v Z1w 100000 60 Z8 Tryz.f28 Zff = some Zfg := by kernel_rfl
theorem Zv1 : funE Tg Z1v Z1w 100000 60 Z8 Tryz.f28 Zfh = some Zfi := by kernel_rfl
def Z3p (ds : List D) : Option D := if isT Zf9 ds then some Zfa else (if isT Zfb ds then some Zfc else (if isT Zfd ds then some Zfe else (if isT Zff ds then some Zfg else (if isT Zfh ds then some Zfi else (none)))))
theorem td_ptrees_State_Prepare : ∀ ds d,Z3p ds = some d → DataSem Tg 28 ds d := by
 intro ds d h
 unfold Z3p at h
 split at h
 ·rename_i ha; obtain rfl := isT_eq ha; cases h; exact Z28 Zux
 split at h
 ·rename_i ha; obtain rfl := isT_eq ha; cases h; exact Z28 Zuy
 split at h
 ·rename_i ha; obtain rfl := isT_eq ha; cases h; exact Z28 Zuz
 split at h
 ·rename_i ha; obtain rfl := isT_eq ha; cases h; exact Z28 Zv0
 split at h
 ·rename_i ha; obtain rfl := isT_eq ha; cases h; exact Z28 Zv1
 cases h
def Z40 : FnH := ⟨[(6,⟨(bm 28672 24),[(12,8)],none,none⟩)],[]⟩
theorem Z6o : Enters Tg 79 := ⟨Tryz.f79,Tryz.func79,by kernel_rfl,by kernel_rfl⟩
noncomputable def Znj : Hints := ⟨[(66,Z30)],[(79,Tryz.f79,Z40)],[303,305,306,308,253,1000032,1000060,2000026,2000040,2000062,2000034]⟩
theorem Z12g {m n : Nat} {ds : List D} {d : D} (h : funD Tg Znj m n Z40 Tryz.f79 ds = some d) : DataSem Tg 79 ds d := Z0 (H := Znj) (SpOk.cons td_records_Check SpOk.nil) mixed (InlOk.cons Tryz.func79 Z6o InlOk.nil) Tryz.func79 Z6o h
def Zu4 : List D := [(D.list 2 (some 2) [bf,bt,(D.list 2 (some 2) [(D.v (.int .u8 (3 : Int))),w1,w2,w3,z0,z0,z0,z0,z0,z0,z0,z0,z0,z0,z0,z0,z0,n0l,(D.v (.int .u8 (5 : Int))),w2,w5,w29,w32,z0,z0,z0,z0,z0,z0,z0,z0,z0,z0,z0,z0,n0l]),bt,(D.list 1 (some 1) [(D.v (.int .u8 (3 : Int))),w1,w2,w3,z0,z0,z0,z0,z0,z0,z0,z0,z0,z0,z0,z0,z0,(D.v (.int .u8 (3 : Int))),w1,w2,w4,z0,z0,z0,z0,z0,z0,z0,z0,z0,z0,z0,z0,z0]),(D.v (.int .i64 (-1 : Int))),(D.v (.int .i64 (-1 : Int))),(D.v (.int .i64 (-1 : Int))),bf,bt,(D.list 1 (some 1) [(D.v (.int .u8 (3 : Int))),w1,w2,w4,z0,z0,z0,z0,z0,z0,z0,z0,z0,z0,z0,z0,z0,n0l]),bf,n0l,(D.v (.int .i64 (-1 : Int))),(D.v (.int .i64 (-1 : Int))),(D.v (.int .i64 (-1 : Int)))])]
def Zu5 : D := zI
theorem Z16o : funD Tg Znj 100000 60 Z40 Tryz.f79 Zu4 = some Zu5 := by kernel_rfl
def Zpw (ds : List D) : Option D := if isT Zu4 ds then some Zu5 else (none)
theorem td_records_Chain : ∀ ds d,Zpw ds = some d → DataSem Tg 79 ds d := by
 intro ds d h
 unfold Zpw at h
 split at h
 ·rename_i ha; obtain rfl := isT_eq ha; cases h; exact Z12g Z16o
 cases h
def Z2k : FnH := ⟨[(6,⟨(bm 3649 66),[],none,none⟩)],[]⟩
theorem Zcx : Enters Tg 23 := ⟨Tryz.f23,Tryz.func23,by kernel_rfl,by kernel_rfl⟩
noncomputable def Zfj : Hints := ⟨[(17,Zjb),(18,Z54),(28,Z3p),(79,Zpw)],[(23,Tryz.f23,Z2k)],[303,305,306,308,253,1000032,1000060,2000026,2000040,2000062,2000034]⟩
theorem Zkb {m n : Nat} {ds : List D} {d : D} (h : funD Tg Zfj m n Z2k Tryz.f23 ds = some d) : DataSem Tg 23 ds d := Z0 (H := Zfj) (SpOk.cons td_ptrees_Start (SpOk.cons td_ptrees_State_Step (SpOk.cons td_ptrees_State_Prepare (SpOk.cons td_records_Chain SpOk.nil)))) mixed (InlOk.cons Tryz.func23 Zcx InlOk.nil) Tryz.func23 Zcx h
def Z12h : List D := [(D.list 2 (some 2) [bf,bt,(D.list 2 (some 2) [(D.v (.int .u8 (3 : Int))),w1,w2,w3,z0,z0,z0,z0,z0,z0,z0,z0,z0,z0,z0,z0,z0,n0l,(D.v (.int .u8 (5 : Int))),w2,w5,w29,w32,z0,z0,z0,z0,z0,z0,z0,z0,z0,z0,z0,z0,n0l]),bt,(D.list 1 (some 1) [(D.v (.int .u8 (3 : Int))),w1,w2,w3,z0,z0,z0,z0,z0,z0,z0,z0,z0,z0,z0,z0,z0,(D.v (.int .u8 (3 : Int))),w1,w2,w4,z0,z0,z0,z0,z0,z0,z0,z0,z0,z0,z0,z0,z0]),(D.v (.int .i64 (-1 : Int))),(D.v (.int .i64 (-1 : Int))),(D.v (.int .i64 (-1 : Int))),bf,bt,(D.list 1 (some 1) [(D.v (.int .u8 (3 : Int))),w1,w2,w4,z0,z0,z0,z0,z0,z0,z0,z0,z0,z0,z0,z0,z0,n0l]),bf,n0l,(D.v (.int .i64 (-1 : Int))),(D.v (.int .i64 (-1 : Int))),(D.v (.int .i64 (-1 : Int)))]),(D.agg [(D.list 1 (some 1) [(D.v (.int .u8 (3 : Int))),w1,w2,w4,z0,z0,z0,z0,z0,z0,z0,z0,z0,z0,z0,z0,z0]),bt,bf,bf]),(D.v (.int .i64 (3 : Int)))]
def Z12i : D := (D.tup [(D.agg [zI,zI,zI,zI,bf,(D.v (.int .u8 (0 : Int))),n0l,bf,bf,bf,bf,bf,n0l,bf,n0l,zI,zI,zI,n0l,zI,zI,zI]),(D.v (.int .i64 (4 : Int)))])
def Z12j : List D := [(D.list 2 (some 2) [bf,bt,(D.list 2 (some 2) [(D.v (.int .u8 (3 : Int))),w1,w2,w3,z0,z0,z0,z0,z0,z0,z0,z0,z0,z0,z0,z0,z0,n0l,(D.v (.int .u8 (5 : Int))),w2,w5,w29,w32,z0,z0,z0,z0,z0,z0,z0,z0,z0,z0,z0,z0,n0l]),bt,(D.list 1 (some 1) [(D.v (.int .u8 (3 : Int))),w1,w2,w3,z0,z0,z0,z0,z0,z0,z0,z0,z0,z0,z0,z0,z0,(D.v (.int .u8 (3 : Int))),w1,w2,w4,z0,z0,z0,z0,z0,z0,z0,z0,z0,z0,z0,z0,z0]),(D.v (.int .i64 (-1 : Int))),(D.v (.int .i64 (-1 : Int))),(D.v (.int .i64 (-1 : Int))),bf,bt,(D.list 1 (some 1) [(D.v (.int .u8 (3 : Int))),w1,w2,w4,z0,z0,z0,z0,z0,z0,z0,z0,z0,z0,z0,z0,z0,n0l]),bf,n0l,(D.v (.int .i64 (-1 : Int))),(D.v (.int .i64 (-1 : Int))),(D.v (.int .i64 (-1 : Int)))]),(D.agg [(D.list 1 (some 1) [(D.v (.int .u8 (3 : Int))),w1,w2,w4,z0,z0,z0,z0,z0,z0,z0,z0,z0,z0,z0,z0,z0]),bt,bf,bf]),(D.v (.int .i64 (4 : Int)))]
def Z12k : D := (D.tup [(D.agg [(D.v (.int .i64 (2 : Int))),(D.v (.int .i64 (2 : Int))),(D.v (.int .i64 (4 : Int))),(D.v (.int .i64 (4 : Int))),bf,(D.v (.int .u8 (0 : Int))),(D.list 1 (some 1) [(D.v (.int .u8 (3 : Int))),w1,w2,w4,z0,z0,z0,z0,z0,z0,z0,z0,z0,z0,z0,z0,z0]),bt,bf,bf,bf,bt,(D.list 1 (some 1) [(D.v (.int .u8 (3 : Int))),w1,w2,w4,z0,z0,z0,z0,z0,z0,z0,z0,z0,z0,z0,z0,z0,n0l]),bf,n0l,(D.v (.int .i64 (-1 : Int))),(D.v (.int .i64 (-1 : Int))),(D.v (.int .i64 (-1 : Int))),(D.list 3 (some 3) [(D.v (.int .i64 (-1 : Int))),(D.v (.int .u8 (5 : Int))),w2,w5,w29,w32,z0,z0,z0,z0,z0,z0,z0,z0,z0,z0,z0,z0,(D.list 1 (some 1) [(D.v (.int .u8 (5 : Int))),w2,w5,w29,w32,z0,z0,z0,z0,z0,z0,z0,z0,z0,z0,z0,z0]),n0l,zI,(D.v (.int .u8 (3 : Int))),w1,w2,w3,z0,z0,z0,z0,z0,z0,z0,z0,z0,z0,z0,z0,z0,(D.list 1 (some 1) [(D.v (.int .u8 (3 : Int))),w1,w2,w4,z0,z0,z0,z0,z0,z0,z0,z0,z0,z0,z0,z0,z0]),n0l,(D.v (.int .i64 (1 : Int))),(D.v (.int .u8 (3 : Int))),w1,w2,w4,z0,z0,z0,z0,z0,z0,z0,z0,z0,z0,z0,z0,z0,(D.list 1 (some 1) [(D.v (.int .u8 (3 : Int))),w1,w2,w4,z0,z0,z0,z0,z0,z0,z0,z0,z0,z0,z0,z0,z0]),n0l]),zI,(D.v (.int .i64 (2 : Int))),(D.v (.int .i64 (2 : Int)))]),zI])
def Z12l : List D := [(D.list 2 (some 2) [bf,bt,(D.list 2 (some 2) [(D.v (.int .u8 (3 : Int))),w1,w2,w3,z0,z0,z0,z0,z0,z0,z0,z0,z0,z0,z0,z0,z0,n0l,(D.v (.int .u8 (5 : Int))),w2,w5,w29,w32,z0,z0,z0,z0,z0,z0,z0,z0,z0,z0,z0,z0,n0l]),bt,(D.list 1 (some 1) [(D.v (.int .u8 (3 : Int))),w1,w2,w3,z0,z0,z0,z0,z0,z0,z0,z0,z0,z0,z0,z0,z0,(D.v (.int .u8 (3 : Int))),w1,w2,w4,z0,z0,z0,z0,z0,z0,z0,z0,z0,z0,z0,z0,z0]),(D.v (.int .i64 (-1 : Int))),(D.v (.int .i64 (-1 : Int))),(D.v (.int .i64 (-1 : Int))),bf,bt,(D.list 1 (some 1) [(D.v (.int .u8 (3 : Int))),w1,w2,w4,z0,z0,z0,z0,z0,z0,z0,z0,z0,z0,z0,z0,z0,n0l]),bf,n0l,(D.v (.int .i64 (-1 : Int))),(D.v (.int .i64 (-1 : Int))),(D.v (.int .i64 (-1 : Int)))]),(D.agg [(D.list 1 (some 1) [(D.v (.int .u8 (3 : Int))),w1,w2,w4,z0,z0,z0,z0,z0,z0,z0,z0,z0,z0,z0,z0,z0]),bt,bt,bf]),(D.v (.int .i64 (3 : Int)))]
def Z12m : D := (D.tup [(D.agg [(D.v (.int .i64 (2 : Int))),(D.v (.int .i64 (2 : Int))),(D.v (.int .i64 (3 : Int))),(D.v (.int .i64 (3 : Int))),bf,(D.v (.int .u8 (0 : Int))),(D.list 1 (some 1) [(D.v (.int .u8 (3 : Int))),w1,w2,w4,z0,z0,z0,z0,z0,z0,z0,z0,z0,z0,z0,z0,z0]),bt,bt,bf,bf,bt,(D.list 1 (some 1) [(D.v (.int .u8 (3 : Int))),w1,w2,w4,z0,z0,z0,z0,z0,z0,z0,z0,z0,z0,z0,z0,z0,n0l]),bf,n0l,(D.v (.int .i64 (-1 : Int))),(D.v (.int .i64 (-1 : Int))),(D.v (.int .i64 (-1 : Int))),(D.list 3 (some 3) [(D.v (.int .i64 (-1 : Int))),(D.v (.int .u8 (5 : Int))),w2,w5,w29,w32,z0,z0,z0,z0,z0,z0,z0,z0,z0,z0,z0,z0,(D.list 1 (some 1) [(D.v (.int .u8 (5 : Int))),w2,w5,w29,w32,z0,z0,z0,z0,z0,z0,z0,z0,z0,z0,z0,z0]),n0l,zI,(D.v (.int .u8 (5 : Int))),w2,w5,w29,w32,z0,z0,z0,z0,z0,z0,z0,z0,z0,z0,z0,z0,(D.list 1 (some 1) [(D.v (.int .u8 (5 : Int))),w2,w5,w29,w32,z0,z0,z0,z0,z0,z0,z0,z0,z0,z0,z0,z0]),n0l,(D.v (.int .i64 (1 : Int))),(D.v (.int .u8 (3 : Int))),w1,w2,w4,z0,z0,z0,z0,z0,z0,z0,z0,z0,z0,z0,z0,z0,(D.list 1 (some 1) [(D.v (.int .u8 (3 : Int))),w1,w2,w4,z0,z0,z0,z0,z0,z0,z0,z0,z0,z0,z0,z0,z0]),n0l]),zI,zI,(D.v (.int .i64 (2 : Int)))]),zI])
theorem Z1c8 : funD Tg Zfj 100000 60 Z2k Tryz.f23 Z12h = some Z12i := by kernel_rfl
theorem Z1c9 : funD Tg Zfj 100000 60 Z2k Tryz.f23 Z12j = some Z12k := by kernel_rfl
theorem Z1ca : funD Tg Zfj 100000 60 Z2k Tryz.f23 Z12l = some Z12m := by kernel_rfl
def Zyc (ds : List D) : Option D := if isT Z12h ds then some Z12i else (if isT Z12j ds then some Z12k else (if isT Z12l ds then some Z12m else (none)))
theorem td_ptrees_Run : ∀ ds d,Zyc ds = some d → DataSem Tg 23 ds d := by
 intro ds d h
 unfold Zyc at h
 split at h
 ·rename_i ha; obtain rfl := isT_eq ha; cases h; exact Zkb Z1c8
 split at h
 ·rename_i ha; obtain rfl := isT_eq ha; cases h; exact Zkb Z1c9
 split at h
 ·rename_i ha; obtain rfl := isT_eq ha; cases h; exact Zkb Z1ca
 cases h
def Z6 : FnH := ⟨[],[]⟩
theorem Z4e : Enters Tg 31 := ⟨Tryz.f31,Tryz.func31,by kernel_rfl,by kernel_rfl⟩
noncomputable def Z1d : Hints := ⟨[(92,Z5o)],[(31,Tryz.f31,Z6)],[303,305,306,308,253,1000032,1000060,2000026,2000040,2000062,2000034]⟩
theorem Z1h {m n : Nat} {ds : List D} {d : D} (h : funD Tg Z1d m n Z6 Tryz.f31 ds = some d) : DataSem Tg 31 ds d := Z0 (H := Z1d) (SpOk.cons td_trees_Delete SpOk.nil) mixed (InlOk.cons Tryz.func31 Z4e InlOk.nil) Tryz.func31 Z4e h
def Zmc : List D := [(D.agg [(D.v (.int .i64 (2 : Int))),zI,(D.v (.int .i64 (9 : Int))),(D.v (.int .i64 (1 : Int))),bf,(D.v (.int .u8 (0 : Int))),(D.list 1 (some 1) [(D.v (.int .u8 (3 : Int))),w1,w2,w4,z0,z0,z0,z0,z0,z0,z0,z0,z0,z0,z0,z0,z0]),bt,bf,bf,bf,bf,n0l,bf,n0l,zI,zI,zI,(D.list 1 (some 1) [(D.v (.int .i64 (-1 : Int))),(D.v (.int .u8 (5 : Int))),w2,w5,w29,w32,z0,z0,z0,z0,z0,z0,z0,z0,z0,z0,z0,z0,(D.list 1 (some 1) [(D.v (.int .u8 (5 : Int))),w2,w5,w29,w32,z0,z0,z0,z0,z0,z0,z0,z0,z0,z0,z0,z0]),n0l]),zI,(D.v (.int .i64 (3 : Int))),(D.v (.int .i64 (3 : Int)))])]
def Zmd : D := (D.agg [(D.list 1 (some 1) [(D.v (.int .i64 (-1 : Int))),(D.v (.int .u8 (5 : Int))),w2,w5,w29,w32,z0,z0,z0,z0,z0,z0,z0,z0,z0,z0,z0,z0,(D.list 1 (some 1) [(D.v (.int .u8 (5 : Int))),w2,w5,w29,w32,z0,z0,z0,z0,z0,z0,z0,z0,z0,z0,z0,z0]),n0l])])
def Zme : List D := [(D.agg [(D.v (.int .i64 (2 : Int))),(D.v (.int .i64 (1 : Int))),(D.v (.int .i64 (9 : Int))),(D.v (.int .i64 (3 : Int))),bt,(D.v (.int .u8 (0 : Int))),(D.list 1 (some 1) [(D.v (.int .u8 (3 : Int))),w1,w2,w4,z0,z0,z0,z0,z0,z0,z0,z0,z0,z0,z0,z0,z0]),bt,bf,bf,bf,bt,(D.list 2 (some 2) [(D.v (.int .u8 (3 : Int))),w1,w2,w3,z0,z0,z0,z0,z0,z0,z0,z0,z0,z0,z0,z0,z0,n0l,(D.v (.int .u8 (5 : Int))),w2,w5,w29,w32,z0,z0,z0,z0,z0,z0,z0,z0,z0,z0,z0,z0,n0l]),bt,(D.list 1 (some 1) [(D.v (.int .u8 (3 : Int))),w1,w2,w3,z0,z0,z0,z0,z0,z0,z0,z0,z0,z0,z0,z0,z0,(D.v (.int .u8 (3 : Int))),w1,w2,w4,z0,z0,z0,z0,z0,z0,z0,z0,z0,z0,z0,z0,z0]),(D.v (.int .i64 (-1 : Int))),(D.v (.int .i64 (-1 : Int))),(D.v (.int .i64 (-1 : Int))),(D.list 3 (some 3) [(D.v (.int .i64 (-1 : Int))),(D.v (.int .u8 (5 : Int))),w2,w5,w29,w32,z0,z0,z0,z0,z0,z0,z0,z0,z0,z0,z0,z0,(D.list 1 (some 1) [(D.v (.int .u8 (5 : Int))),w2,w5,w29,w32,z0,z0,z0,z0,z0,z0,z0,z0,z0,z0,z0,z0]),n0l,zI,(D.v (.int .u8 (3 : Int))),w1,w2,w3,z0,z0,z0,z0,z0,z0,z0,z0,z0,z0,z0,z0,z0,(D.list 1 (some 1) [(D.v (.int .u8 (3 : Int))),w1,w2,w3,z0,z0,z0,z0,z0,z0,z0,z0,z0,z0,z0,z0,z0]),n0l,zI,(D.v (.int .u8 (5 : Int))),w2,w5,w29,w32,z0,z0,z0,z0,z0,z0,z0,z0,z0,z0,z0,z0,(D.list 1 (some 1) [(D.v (.int .u8 (5 : Int))),w2,w5,w29,w32,z0,z0,z0,z0,z0,z0,z0,z0,z0,z0,z0,z0]),n0l]),zI,(D.v (.int .i64 (3 : Int))),(D.v (.int .i64 (3 : Int)))])]
def Zmf : D := (D.agg [(D.list 3 (some 3) [(D.v (.int .i64 (-1 : Int))),(D.v (.int .u8 (5 : Int))),w2,w5,w29,w32,z0,z0,z0,z0,z0,z0,z0,z0,z0,z0,z0,z0,(D.list 1 (some 1) [(D.v (.int .u8 (5 : Int))),w2,w5,w29,w32,z0,z0,z0,z0,z0,z0,z0,z0,z0,z0,z0,z0]),n0l,zI,(D.v (.int .u8 (3 : Int))),w1,w2,w3,z0,z0,z0,z0,z0,z0,z0,z0,z0,z0,z0,z0,z0,(D.list 1 (some 1) [(D.v (.int .u8 (3 : Int))),w1,w2,w3,z0,z0,z0,z0,z0,z0,z0,z0,z0,z0,z0,z0,z0]),n0l,zI,(D.v (.int .u8 (5 : Int))),w2,w5,w29,w32,z0,z0,z0,z0,z0,z0,z0,z0,z0,z0,z0,z0,(D.list 1 (some 1) [(D.v (.int .u8 (5 : Int))),w2,w5,w29,w32,z0,z0,z0,z0,z0,z0,z0,z0,z0,z0,z0,z0]),n0l])])
def Zmg : List D := [(D.agg [(D.v (.int .i64 (2 : Int))),(D.v (.int .i64 (1 : Int))),(D.v (.int .i64 (9 : Int))),(D.v (.int .i64 (3 : Int))),bf,(D.v (.int .u8 (0 : Int))),(D.list 1 (some 1) [(D.v (.int .u8 (3 : Int))),w1,w2,w4,z0,z0,z0,z0,z0,z0,z0,z0,z0,z0,z0,z0,z0]),bt,bf,bf,bf,bt,(D.list 2 (some 2) [(D.v (.int .u8 (3 : Int))),w1,w2,w3,z0,z0,z0,z0,z0,z0,z0,z0,z0,z0,z0,z0,z0,n0l,(D.v (.int .u8 (5 : Int))),w2,w5,w29,w32,z0,z0,z0,z0,z0,z0,z0,z0,z0,z0,z0,z0,n0l]),bt,(D.list 1 (some 1) [(D.v (.int .u8 (3 : Int))),w1,w2,w3,z0,z0,z0,z0,z0,z0,z0,z0,z0,z0,z0,z0,z0,(D.v (.int .u8 (3 : Int))),w1,w2,w4,z0,z0,z0,z0,z0,z0,z0,z0,z0,z0,z0,z0,z0]),(D.v (.int .i64 (-1 : Int))),(D.v (.int .i64 (-1 : Int))),(D.v (.int .i64 (-1 : Int))),(D.list 3 none [(D.v (.int .i64 (-1 : Int))),(D.v (.int .u8 (5 : Int))),w2,w5,w29,w32,z0,z0,z0,z0,z0,z0,z0,z0,z0,z0,z0,z0,(D.list 1 (some 1) [(D.v (.int .u8 (5 : Int))),w2,w5,w29,w32,z0,z0,z0,z0,z0,z0,z0,z0,z0,z0,z0,z0]),n0l,zI,(D.v (.int .u8 (3 : Int))),w1,w2,w3,z0,z0,z0,z0,z0,z0,z0,z0,z0,z0,z0,z0,z0,(D.list 1 (some 1) [(D.v (.int .u8 (3 : Int))),w1,w2,w4,z0,z0,z0,z0,z0,z0,z0,z0,z0,z0,z0,z0,z0]),n0l,zI,(D.v (.int .u8 (5 : Int))),w2,w5,w29,w32,z0,z0,z0,z0,z0,z0,z0,z0,z0,z0,z0,z0,(D.list 1 (some 1) [(D.v (.int .u8 (5 : Int))),w2,w5,w29,w32,z0,z0,z0,z0,z0,z0,z0,z0,z0,z0,z0,z0]),n0l]),zI,(D.v (.int .i64 (2 : Int))),(D.v (.int .i64 (2 : Int)))])]
def Zmh : D := (D.agg [(D.list 3 (some 3) [(D.v (.int .i64 (-1 : Int))),(D.v (.int .u8 (5 : Int))),w2,w5,w29,w32,z0,z0,z0,z0,z0,z0,z0,z0,z0,z0,z0,z0,(D.list 1 (some 1) [(D.v (.int .u8 (5 : Int))),w2,w5,w29,w32,z0,z0,z0,z0,z0,z0,z0,z0,z0,z0,z0,z0]),n0l,zI,(D.v (.int .u8 (3 : Int))),w1,w2,w3,z0,z0,z0,z0,z0,z0,z0,z0,z0,z0,z0,z0,z0,(D.list 1 (some 1) [(D.v (.int .u8 (3 : Int))),w1,w2,w4,z0,z0,z0,z0,z0,z0,z0,z0,z0,z0,z0,z0,z0]),n0l,zI,(D.v (.int .u8 (5 : Int))),w2,w5,w29,w32,z0,z0,z0,z0,z0,z0,z0,z0,z0,z0,z0,z0,(D.list 1 (some 1) [(D.v (.int .u8 (5 : Int))),w2,w5,w29,w32,z0,z0,z0,z0,z0,z0,z0,z0,z0,z0,z0,z0]),n0l])])
def Zmi : List D := [(D.agg [(D.v (.int .i64 (2 : Int))),(D.v (.int .i64 (2 : Int))),(D.v (.int .i64 (9 : Int))),(D.v (.int .i64 (4 : Int))),bf,(D.v (.int .u8 (0 : Int))),(D.list 1 (some 1) [(D.v (.int .u8 (3 : Int))),w1,w2,w4,z0,z0,z0,z0,z0,z0,z0,z0,z0,z0,z0,z0,z0]),bt,bf,bf,bf,bt,(D.list 1 (some 1) [(D.v (.int .u8 (3 : Int))),w1,w2,w4,z0,z0,z0,z0,z0,z0,z0,z0,z0,z0,z0,z0,z0,n0l]),bf,n0l,(D.v (.int .i64 (-1 : Int))),(D.v (.int .i64 (-1 : Int))),(D.v (.int .i64 (-1 : Int))),(D.list 3 (some 3) [(D.v (.int .i64 (-1 : Int))),(D.v (.int .u8 (5 : Int))),w2,w5,w29,w32,z0,z0,z0,z0,z0,z0,z0,z0,z0,z0,z0,z0,(D.list 1 (some 1) [(D.v (.int .u8 (5 : Int))),w2,w5,w29,w32,z0,z0,z0,z0,z0,z0,z0,z0,z0,z0,z0,z0]),n0l,zI,(D.v (.int .u8 (3 : Int))),w1,w2,w3,z0,z0,z0,z0,z0,z0,z0,z0,z0,z0,z0,z0,z0,(D.list 1 (some 1) [(D.v (.int .u8 (3 : Int))),w1,w2,w4,z0,z0,z0,z0,z0,z0,z0,z0,z0,z0,z0,z0,z0]),n0l,(D.v (.int .i64 (1 : Int))),(D.v (.int .u8 (3 : Int))),w1,w2,w4,z0,z0,z0,z0,z0,z0,z0,z0,z0,z0,z0,z0,z0,(D.list 1 (some 1) [(D.v (.int .u8 (3 : Int))),w1,w2,w4,z0,z0,z0,z0,z0,z0,z0,z0,z0,z0,z0,z0,z0]),n0l]),zI,(D.v (.int .i64 (2 : Int))),(D.v (.int .i64 (2 : Int)))])]
def Zmj : D := (D.agg [(D.list 3 (some 3) [(D.v (.int .i64 (-1 : Int))),(D.v (.int .u8 (5 : Int))),w2,w5,w29,w32,z0,z0,z0,z0,z0,z0,z0,z0,z0,z0,z0,z0,(D.list 1 (some 1) [(D.v (.int .u8 (5 : Int))),w2,w5,w29,w32,z0,z0,z0,z0,z0,z0,z0,z0,z0,z0,z0,z0]),n0l,zI,(D.v (.int .u8 (3 : Int))),w1,w2,w3,z0,z0,z0,z0,z0,z0,z0,z0,z0,z0,z0,z0,z0,(D.list 1 (some 1) [(D.v (.int .u8 (3 : Int))),w1,w2,w4,z0,z0,z0,z0,z0,z0,z0,z0,z0,z0,z0,z0,z0]),n0l,(D.v (.int .i64 (1 : Int))),(D.v (.int .u8 (3 : Int))),w1,w2,w4,z0,z0,z0,z0,z0,z0,z0,z0,z0,z0,z0,z0,z0,(D.list 1 (some 1) [(D.v (.int .u8 (3 : Int))),w1,w2,w4,z0,z0,z0,z0,z0,z0,z0,z0,z0,z0,z0,z0,z0]),n0l])])
def Zmk : List D := [(D.agg [(D.v (.int .i64 (2 : Int))),(D.v (.int .i64 (2 : Int))),(D.v (.int .i64 (4 : Int))),(D.v (.int .i64 (4 : Int))),bf,(D.v (.int .u8 (0 : Int))),(D.list 1 (some 1) [(D.v (.int .u8 (3 : Int))),w1,w2,w4,z0,z0,z0,z0,z0,z0,z0,z0,z0,z0,z0,z0,z0]),bt,bf,bf,bf,bt,(D.list 1 (some 1) [(D.v (.int .u8 (3 : Int))),w1,w2,w4,z0,z0,z0,z0,z0,z0,z0,z0,z0,z0,z0,z0,z0,n0l]),bf,n0l,(D.v (.int .i64 (-1 : Int))),(D.v (.int .i64 (-1 : Int))),(D.v (.int .i64 (-1 : Int))),(D.list 3 (some 3) [(D.v (.int .i64 (-1 : Int))),(D.v (.int .u8 (5 : Int))),w2,w5,w29,w32,z0,z0,z0,z0,z0,z0,z0,z0,z0,z0,z0,z0,(D.list 1 (some 1) [(D.v (.int .u8 (5 : Int))),w2,w5,w29,w32,z0,z0,z0,z0,z0,z0,z0,z0,z0,z0,z0,z0]),n0l,zI,(D.v (.int .u8 (3 : Int))),w1,w2,w3,z0,z0,z0,z0,z0,z0,z0,z0,z0,z0,z0,z0,z0,(D.list 1 (some 1) [(D.v (.int .u8 (3 : Int))),w1,w2,w4,z0,z0,z0,z0,z0,z0,z0,z0,z0,z0,z0,z0,z0]),n0l,(D.v (.int .i64 (1 : Int))),(D.v (.int .u8 (3 : Int))),w1,w2,w4,z0,z0,z0,z0,z0,z0,z0,z0,z0,z0,z0,z0,z0,(D.list 1 (some 1) [(D.v (.int .u8 (3 : Int))),w1,w2,w4,z0,z0,z0,z0,z0,z0,z0,z0,z0,z0,z0,z0,z0]),n0l]),zI,(D.v (.int .i64 (2 : Int))),(D.v (.int .i64 (2 : Int)))])]
def Zml : D := (D.agg [(D.list 3 (some 3) [(D.v (.int .i64 (-1 : Int))),(D.v (.int .u8 (5 : Int))),w2,w5,w29,w32,z0,z0,z0,z0,z0,z0,z0,z0,z0,z0,z0,z0,(D.list 1 (some 1) [(D.v (.int .u8 (5 : Int))),w2,w5,w29,w32,z0,z0,z0,z0,z0,z0,z0,z0,z0,z0,z0,z0]),n0l,zI,(D.v (.int .u8 (3 : Int))),w1,w2,w3,z0,z0,z0,z0,z0,z0,z0,z0,z0,z0,z0,z0,z0,(D.list 1 (some 1) [(D.v (.int .u8 (3 : Int))),w1,w2,w4,z0,z0,z0,z0,z0,z0,z0,z0,z0,z0,z0,z0,z0]),n0l,(D.v (.int .i64 (1 : Int))),(D.v (.int .u8 (3 : Int))),w1,w2,w4,z0,z0,z0,z0,z0,z0,z0,z0,z0,z0,z0,z0,z0,(D.list 1 (some 1) [(D.v (.int .u8 (3 : Int))),w1,w2,w4,z0,z0,z0,z0,z0,z0,z0,z0,z0,z0,z0,z0,z0]),n0l])])
def Zmm : List D := [(D.agg [(D.v (.int .i64 (2 : Int))),(D.v (.int .i64 (2 : Int))),(D.v (.int .i64 (3 : Int))),(D.v (.int .i64 (3 : Int))),bf,(D.v (.int .u8 (0 : Int))),(D.list 1 (some 1) [(D.v (.int .u8 (3 : Int))),w1,w2,w4,z0,z0,z0,z0,z0,z0,z0,z0,z0,z0,z0,z0,z0]),bt,bt,bf,bf,bt,(D.list 1 (some 1) [(D.v (.int .u8 (3 : Int))),w1,w2,w4,z0,z0,z0,z0,z0,z0,z0,z0,z0,z0,z0,z0,z0,n0l]),bf,n0l,(D.v (.int .i64 (-1 : Int))),(D.v (.int .i64 (-1 : Int))),(D.v (.int .i64 (-1 : Int))),(D.list 3 (some 3) [(D.v (.int .i64 (-1 : Int))),(D.v (.int .u8 (5 : Int))),w2,w5,w29,w32,z0,z0,z0,z0,z0,z0,z0,z0,z0,z0,z0,z0,(D.list 1 (some 1) [(D.v (.int .u8 (5 : Int))),w2,w5,w29,w32,z0,z0,z0,z0,z0,z0,z0,z0,z0,z0,z0,z0]),n0l,zI,(D.v (.int .u8 (5 : Int))),w2,w5,w29,w32,z0,z0,z0,z0,z0,z0,z0,z0,z0,z0,z0,z0,(D.list 1 (some 1) [(D.v (.int .u8 (5 : Int))),w2,w5,w29,w32,z0,z0,z0,z0,z0,z0,z0,z0,z0,z0,z0,z0]),n0l,(D.v (.int .i64 (1 : Int))),(D.v (.int .u8 (3 : Int))),w1,w2,w4,z0,z0,z0,z0,z0,z0,z0,z0,z0,z0,z0,z0,z0,(D.list 1 (some 1) [(D.v (.int .u8 (3 : Int))),w1,w2,w4,z0,z0,z0,z0,z0,z0,z0,z0,z0,z0,z0,z0,z0]),n0l]),zI,zI,(D.v (.int .i64 (2 : Int)))])]
def Zmn : D := (D.agg [(D.list 3 (some 3) [(D.v (.int .i64 (-1 : Int))),(D.v (.int .u8 (5 : Int))),w2,w5,w29,w32,z0,z0,z0,z0,z0,z0,z0,z0,z0,z0,z0,z0,(D.list 1 (some 1) [(D.v (.int .u8 (5 : Int))),w2,w5,w29,w32,z0,z0,z0,z0,z0,z0,z0,z0,z0,z0,z0,z0]),n0l,zI,(D.v (.int .u8 (5 : Int))),w2,w5,w29,w32,z0,z0,z0,z0,z0,z0,z0,z0,z0,z0,z0,z0,(D.list 1 (some 1) [(D.v (.int .u8 (5 : Int))),w2,w5,w29,w32,z0,z0,z0,z0,z0,z0,z0,z0,z0,z0,z0,z0]),n0l,(D.v (.int .i64 (1 : Int))),(D.v (.int .u8 (3 : Int))),w1,w2,w4,z0,z0,z0,z0,z0,z0,z0,z0,z0,z0,z0,z0,z0,(D.list 1 (some 1) [(D.v (.int .u8 (3 : Int))),w1,w2,w4,z0,z0,z0,z0,z0,z0,z0,z0,z0,z0,z0,z0,z0]),n0l])])
def Zmo : List D := [(D.agg [zI,zI,zI,zI,bf,(D.v (.int .u8 (0 : Int))),n0l,bf,bf,bf,bf,bf,n0l,bf,n0l,zI,zI,zI,n0l,zI,zI,zI])]
def Zmp : D := (D.agg [n0l])
theorem Z119 : funD Tg Z1d 100000 60 Z6 Tryz.f31 Zmc = some Zmd := by kernel_rfl
theorem Z11a : funD Tg Z1d 100000 60 Z6 Tryz.f31 Zme = some Zmf := by kernel_rfl
theorem Z11b : funD Tg Z1d 100000 60 Z6 Tryz.f31 Zmg = some Zmh := by kernel_rfl
theorem Z11c : funD Tg Z1d 100000 60 Z6 Tryz.f31 Zmi = some Zmj := by kernel_rfl
theorem Z11d : funD Tg Z1d 100000 60 Z6 Tryz.f31 Zmk = some Zml := by kernel_rfl
theorem Z11e : funD Tg Z1d 100000 60 Z6 Tryz.f31 Zmm = some Zmn := by kernel_rfl
theorem Z11f : funD Tg Z1d 100000 60 Z6 Tryz.f31 Zmo = some Zmp := by kernel_rfl
def Z71 (ds : List D) : Option D := if isT Zmc ds then some Zmd else (if isT Zme ds then some Zmf else (if isT Zmg ds then some Zmh else (if isT Zmi ds then some Zmj else (if isT Zmk ds then some Zml else (if isT Zmm ds then some Zmn else (if isT Zmo ds then some Zmp else (none)))))))
theorem td_ptrees_State_Tree : ∀ ds d,Z71 ds = some d → DataSem Tg 31 ds d := by
 intro ds d h
 unfold Z71 at h
 split at h
 ·rename_i ha; obtain rfl := isT_eq ha; cases h; exact Z1h Z119
 split at h
 ·rename_i ha; obtain rfl := isT_eq ha; cases h; exact Z1h Z11a
 split at h
 ·rename_i ha; obtain rfl := isT_eq ha; cases h; exact Z1h Z11b
 split at h
 ·rename_i ha; obtain rfl := isT_eq ha; cases h; exact Z1h Z11c
 split at h
 ·rename_i ha; obtain rfl := isT_eq ha; cases h; exact Z1h Z11d
 split at h
 ·rename_i ha; obtain rfl := isT_eq ha; cases h; exact Z1h Z11e
 split at h
 ·rename_i ha; obtain rfl := isT_eq ha; cases h; exact Z1h Z11f
 cases h
def Ze : FnH := ⟨[(4,⟨(bm 35 26),[],some 1000000,none⟩)],[]⟩
theorem Z6p : Enters Tg 37 := ⟨Tryz.f37,Tryz.func37,by kernel_rfl,by kernel_rfl⟩
noncomputable def Z37 : Hints := ⟨[],[(37,Tryz.f37,Ze)],[303,305,306,308,253,1000032,1000060,2000026,2000040,2000062,2000034]⟩
theorem Z38 {m n : Nat} {ds : List D} {d : D} (h : funD Tg Z37 m n Ze Tryz.f37 ds = some d) : DataSem Tg 37 ds d := Z0 (H := Z37) SpOk.nil mixed (InlOk.cons Tryz.func37 Z6p InlOk.nil) Tryz.func37 Z6p h
def Zu6 : List D := [(D.list 2 none [(D.v (.int .u8 (5 : Int))),w2,w5,w29,w32,z0,z0,z0,z0,z0,z0,z0,z0,z0,z0,z0,z0,(D.v (.int .u8 (3 : Int))),w1,w2,w3,z0,z0,z0,z0,z0,z0,z0,z0,z0,z0,z0,z0,z0]),(D.list 2 (some 2) [(D.v (.int .u8 (5 : Int))),w2,w5,w29,w32,z0,z0,z0,z0,z0,z0,z0,z0,z0,z0,z0,z0,(D.v (.int .u8 (3 : Int))),w1,w2,w3,z0,z0,z0,z0,z0,z0,z0,z0,z0,z0,z0,z0,z0])]
def Zu7 : D := (D.v (.int .i64 (1 : Int)))
def Zu8 : List D := [(D.list 2 none [(D.v (.int .u8 (5 : Int))),w2,w5,w29,w32,z0,z0,z0,z0,z0,z0,z0,z0,z0,z0,z0,z0,(D.v (.int .u8 (5 : Int))),w2,w5,w29,w32,z0,z0,z0,z0,z0,z0,z0,z0,z0,z0,z0,z0]),(D.list 2 (some 2) [(D.v (.int .u8 (5 : Int))),w2,w5,w29,w32,z0,z0,z0,z0,z0,z0,z0,z0,z0,z0,z0,z0,(D.v (.int .u8 (5 : Int))),w2,w5,w29,w32,z0,z0,z0,z0,z0,z0,z0,z0,z0,z0,z0,z0])]
def Zu9 : D := (D.v (.int .i64 (1 : Int)))
def Zua : List D := [(D.list 1 (some 1) [(D.v (.int .u8 (3 : Int))),w1,w2,w4,z0,z0,z0,z0,z0,z0,z0,z0,z0,z0,z0,z0,z0]),(D.list 1 (some 1) [(D.v (.int .u8 (3 : Int))),w1,w2,w4,z0,z0,z0,z0,z0,z0,z0,z0,z0,z0,z0,z0,z0])]
def Zub : D := (D.v (.int .i64 (1 : Int)))
def Zuc : List D := [(D.list 3 none [(D.v (.int .u8 (5 : Int))),w2,w5,w29,w32,z0,z0,z0,z0,z0,z0,z0,z0,z0,z0,z0,z0,(D.v (.int .u8 (3 : Int))),w1,w2,w3,z0,z0,z0,z0,z0,z0,z0,z0,z0,z0,z0,z0,z0,(D.v (.int .u8 (3 : Int))),w1,w2,w4,z0,z0,z0,z0,z0,z0,z0,z0,z0,z0,z0,z0,z0]),(D.list 3 (some 3) [(D.v (.int .u8 (5 : Int))),w2,w5,w29,w32,z0,z0,z0,z0,z0,z0,z0,z0,z0,z0,z0,z0,(D.v (.int .u8 (3 : Int))),w1,w2,w3,z0,z0,z0,z0,z0,z0,z0,z0,z0,z0,z0,z0,z0,(D.v (.int .u8 (3 : Int))),w1,w2,w4,z0,z0,z0,z0,z0,z0,z0,z0,z0,z0,z0,z0,z0])]
def Zud : D := (D.v (.int .i64 (1 : Int)))
def Zue : List D := [(D.list 1 (some 1) [(D.v (.int .u8 (5 : Int))),w2,w5,w29,w32,z0,z0,z0,z0,z0,z0,z0,z0,z0,z0,z0,z0]),(D.list 1 (some 1) [(D.v (.int .u8 (5 : Int))),w2,w5,w29,w32,z0,z0,z0,z0,z0,z0,z0,z0,z0,z0,z0,z0])]
def Zuf : D := (D.v (.int .i64 (1 : Int)))
def Zug : List D := [(D.list 3 none [(D.v (.int .u8 (5 : Int))),w2,w5,w29,w32,z0,z0,z0,z0,z0,z0,z0,z0,z0,z0,z0,z0,(D.v (.int .u8 (5 : Int))),w2,w5,w29,w32,z0,z0,z0,z0,z0,z0,z0,z0,z0,z0,z0,z0,(D.v (.int .u8 (3 : Int))),w1,w2,w4,z0,z0,z0,z0,z0,z0,z0,z0,z0,z0,z0,z0,z0]),(D.list 3 (some 3) [(D.v (.int .u8 (5 : Int))),w2,w5,w29,w32,z0,z0,z0,z0,z0,z0,z0,z0,z0,z0,z0,z0,(D.v (.int .u8 (5 : Int))),w2,w5,w29,w32,z0,z0,z0,z0,z0,z0,z0,z0,z0,z0,z0,z0,(D.v (.int .u8 (3 : Int))),w1,w2,w4,z0,z0,z0,z0,z0,z0,z0,z0,z0,z0,z0,z0,z0])]
def Zuh : D := (D.v (.int .i64 (1 : Int)))
theorem Z16p : funD Tg Z37 100000 60 Ze Tryz.f37 Zu6 = some Zu7 := by kernel_rfl
theorem Z16q : funD Tg Z37 100000 60 Ze Tryz.f37 Zu8 = some Zu9 := by kernel_rfl
theorem Z16r : funD Tg Z37 100000 60 Ze Tryz.f37 Zua = some Zub := by kernel_rfl
theorem Z16s : funD Tg Z37 100000 60 Ze Tryz.f37 Zuc = some Zud := by kernel_rfl
theorem Z16t : funD Tg Z37 100000 60 Ze Tryz.f37 Zue = some Zuf := by kernel_rfl
theorem Z16u : funD Tg Z37 100000 60 Ze Tryz.f37 Zug = some Zuh := by kernel_rfl
def Z99 (ds : List D) : Option D := if isT Zu6 ds then some Zu7 else (if isT Zu8 ds then some Zu9 else (if isT Zua ds then some Zub else (if isT Zuc ds then some Zud else (if isT Zue ds then some Zuf else (if isT Zug ds then some Zuh else (none))))))
theorem td_ref25_SameIDs : ∀ ds d,Z99 ds = some d → DataSem Tg 37 ds d := by
 intro ds d h
 unfold Z99 at h
 split at h
 ·rename_i ha; obtain rfl := isT_eq ha; cases h; exact Z38 Z16p
 split at h
 ·rename_i ha; obtain rfl := isT_eq ha; cases h; exact Z38 Z16q
 split at h
 ·rename_i ha; obtain rfl := isT_eq ha; cases h; exact Z38 Z16r
 split at h
 ·rename_i ha; obtain rfl := isT_eq ha; cases h; exact Z38 Z16s
 split at h
 ·rename_i ha; obtain rfl := isT_eq ha; cases h; exact Z38 Z16t
 split at h
 ·rename_i ha; obtain rfl := isT_eq ha; cases h; exact Z38 Z16u
 cases h
def Z7g : FnH := ⟨[],[]⟩
theorem Zhk : Enters Tg 57 := ⟨Tryz.f57,Tryz.func57,by kernel_rfl,by kernel_rfl⟩
noncomputable def Zyd : Hints := ⟨[],[(57,Tryz.f57,Z7g)],[303,305,306,308,253,1000032,1000060,2000026,2000040,2000062,2000034]⟩
theorem Z18o {m n : Nat} {ds : List D} {d : D} (h : funD Tg Zyd m n Z7g Tryz.f57 ds = some d) : DataSem Tg 57 ds d := Z0 (H := Zyd) SpOk.nil mixed (InlOk.cons Tryz.func57 Zhk InlOk.nil) Tryz.func57 Zhk h
def Z14d : List D := []
def Z14e : D := (D.agg [(D.v (.int .u8 (5 : Int))),w2,w5,w29,w32,z0,z0,z0,z0,z0,z0,z0,z0,z0,z0,z0,z0])
theorem Z1dh : funD Tg Zyd 100000 60 Z7g Tryz.f57 Z14d = some Z14e := by kernel_rfl
def Zbn (ds : List D) : Option D := if isT Z14d ds then some Z14e else (none)
theorem td_ref23_Any : ∀ ds d,Zbn ds = some d → DataSem Tg 57 ds d := by
 intro ds d h
 unfold Zbn at h
 split at h
 ·rename_i ha; obtain rfl := isT_eq ha; cases h; exact Z18o Z1dh
 cases h
def Z2n : FnH := ⟨[],[]⟩
theorem Z7v : Enters Tg 56 := ⟨Tryz.f56,Tryz.func56,by kernel_rfl,by kernel_rfl⟩
noncomputable def Zfu : Hints := ⟨[(57,Zbn)],[(56,Tryz.f56,Z2n)],[303,305,306,308,253,1000032,1000060,2000026,2000040,2000062,2000034]⟩
theorem Zqa {m n : Nat} {ds : List D} {d : D} (h : funD Tg Zfu m n Z2n Tryz.f56 ds = some d) : DataSem Tg 56 ds d := Z0 (H := Zfu) (SpOk.cons td_ref23_Any SpOk.nil) mixed (InlOk.cons Tryz.func56 Z7v InlOk.nil) Tryz.func56 Z7v h
def Zxc : List D := [(D.v (.int .u8 (0 : Int)))]
def Zxd : D := (D.agg [(D.v (.int .u8 (3 : Int))),w1,w2,w3,z0,z0,z0,z0,z0,z0,z0,z0,z0,z0,z0,z0,z0])
def Zxe : List D := [(D.v (.int .u8 (1 : Int)))]
def Zxf : D := (D.agg [(D.v (.int .u8 (3 : Int))),w1,w2,w4,z0,z0,z0,z0,z0,z0,z0,z0,z0,z0,z0,z0,z0])
theorem Z18p : funD Tg Zfu 100000 60 Z2n Tryz.f56 Zxc = some Zxd := by kernel_rfl
theorem Z18q : funD Tg Zfu 100000 60 Z2n Tryz.f56 Zxe = some Zxf := by kernel_rfl
def Zbo (ds : List D) : Option D := if isT Zxc ds then some Zxd else (if isT Zxe ds then some Zxf else (none))
theorem td_law23_Policy : ∀ ds d,Zbo ds = some d → DataSem Tg 56 ds d := by
 intro ds d h
 unfold Zbo at h
 split at h
 ·rename_i ha; obtain rfl := isT_eq ha; cases h; exact Zqa Z18p
 split at h
 ·rename_i ha; obtain rfl := isT_eq ha; cases h; exact Zqa Z18q
 cases h
def Z4p : FnH := ⟨[],[]⟩
def Zv2 : FnH := ⟨[],[]⟩
def Zv3 : FnH := ⟨[],[]⟩
theorem Z7w : Enters Tg 58 := ⟨Tryz.f58,Tryz.func58,by kernel_rfl,by kernel_rfl⟩
theorem Zv4 : Enters Tg 111 := ⟨Tryz.f111,Tryz.func111,by kernel_rfl,by kernel_rfl⟩
theorem Zv5 : Enters Tg 112 := ⟨Tryz.f112,Tryz.func112,by kernel_rfl,by kernel_rfl⟩
noncomputable def Zpx : Hints := ⟨[(56,Zbo),(57,Zbn)],[(58,Tryz.f58,Z4p),(111,Tryz.f111,Zv2),(112,Tryz.f112,Zv3)],[303,305,306,308,253,1000032,1000060,2000026,2000040,2000062,2000034]⟩
theorem Z13z {m n : Nat} {ds : List D} {d : D} (h : funD Tg Zpx m n Z4p Tryz.f58 ds = some d) : DataSem Tg 58 ds d := Z0 (H := Zpx) (SpOk.cons td_law23_Policy (SpOk.cons td_ref23_Any SpOk.nil)) mixed (InlOk.cons Tryz.func58 Z7w (InlOk.cons Tryz.func111 Zv4 (InlOk.cons Tryz.func112 Zv5 InlOk.nil))) Tryz.func58 Z7w h
def Zxg : List D := []
def Zxh : D := (D.list 2 (some 2) [bf,bt,(D.list 2 (some 2) [(D.v (.int .u8 (3 : Int))),w1,w2,w3,z0,z0,z0,z0,z0,z0,z0,z0,z0,z0,z0,z0,z0,n0l,(D.v (.int .u8 (5 : Int))),w2,w5,w29,w32,z0,z0,z0,z0,z0,z0,z0,z0,z0,z0,z0,z0,n0l]),bt,(D.list 1 (some 1) [(D.v (.int .u8 (3 : Int))),w1,w2,w3,z0,z0,z0,z0,z0,z0,z0,z0,z0,z0,z0,z0,z0,(D.v (.int .u8 (3 : Int))),w1,w2,w4,z0,z0,z0,z0,z0,z0,z0,z0,z0,z0,z0,z0,z0]),(D.v (.int .i64 (-1 : Int))),(D.v (.int .i64 (-1 : Int))),(D.v (.int .i64 (-1 : Int))),bf,bt,(D.list 1 (some 1) [(D.v (.int .u8 (3 : Int))),w1,w2,w4,z0,z0,z0,z0,z0,z0,z0,z0,z0,z0,z0,z0,z0,n0l]),bf,n0l,(D.v (.int .i64 (-1 : Int))),(D.v (.int .i64 (-1 : Int))),(D.v (.int .i64 (-1 : Int)))])
theorem Z18r : funD Tg Zpx 100000 60 Z4p Tryz.f58 Zxg = some Zxh := by kernel_rfl
def Zs8 (ds : List D) : Option D := if isT Zxg ds then some Zxh else (none)
theorem td_law23_Detour : ∀ ds d,Zs8 ds = some d → DataSem Tg 58 ds d := by
 intro ds d h
 unfold Zs8 at h
 split at h
 ·rename_i ha; obtain rfl := isT_eq ha; cases h; exact Z13z Z18r
 cases h
def Z1y : FnH := ⟨[],[]⟩
theorem Zcy : Enters Tg 59 := ⟨Tryz.f59,Tryz.func59,by kernel_rfl,by kernel_rfl⟩
noncomputable def Z9d : Hints := ⟨[],[(59,Tryz.f59,Z1y)],[303,305,306,308,253,1000032,1000060,2000026,2000040,2000062,2000034]⟩
theorem Za0 {m n : Nat} {ds : List D} {d : D} (h : funD Tg Z9d m n Z1y Tryz.f59 ds = some d) : DataSem Tg 59 ds d := Z0 (H := Z9d) SpOk.nil mixed (InlOk.cons Tryz.func59 Zcy InlOk.nil) Tryz.func59 Zcy h
def Z12n : List D := [(D.agg [(D.list 1 (some 1) [(D.v (.int .i64 (-1 : Int))),(D.v (.int .u8 (5 : Int))),w2,w5,w29,w32,z0,z0,z0,z0,z0,z0,z0,z0,z0,z0,z0,z0,(D.list 1 (some 1) [(D.v (.int .u8 (5 : Int))),w2,w5,w29,w32,z0,z0,z0,z0,z0,z0,z0,z0,z0,z0,z0,z0]),n0l])])]
def Z12o : D := (D.v (.int .i64 (1 : Int)))
def Z12p : List D := [(D.agg [(D.list 3 (some 3) [(D.v (.int .i64 (-1 : Int))),(D.v (.int .u8 (5 : Int))),w2,w5,w29,w32,z0,z0,z0,z0,z0,z0,z0,z0,z0,z0,z0,z0,(D.list 1 (some 1) [(D.v (.int .u8 (5 : Int))),w2,w5,w29,w32,z0,z0,z0,z0,z0,z0,z0,z0,z0,z0,z0,z0]),n0l,zI,(D.v (.int .u8 (3 : Int))),w1,w2,w3,z0,z0,z0,z0,z0,z0,z0,z0,z0,z0,z0,z0,z0,(D.list 1 (some 1) [(D.v (.int .u8 (3 : Int))),w1,w2,w3,z0,z0,z0,z0,z0,z0,z0,z0,z0,z0,z0,z0,z0]),n0l,zI,(D.v (.int .u8 (5 : Int))),w2,w5,w29,w32,z0,z0,z0,z0,z0,z0,z0,z0,z0,z0,z0,z0,(D.list 1 (some 1) [(D.v (.int .u8 (5 : Int))),w2,w5,w29,w32,z0,z0,z0,z0,z0,z0,z0,z0,z0,z0,z0,z0]),n0l])])]
def Z12q : D := (D.v (.int .i64 (3 : Int)))
def Z12r : List D := [(D.agg [(D.list 3 (some 3) [(D.v (.int .i64 (-1 : Int))),(D.v (.int .u8 (5 : Int))),w2,w5,w29,w32,z0,z0,z0,z0,z0,z0,z0,z0,z0,z0,z0,z0,(D.list 1 (some 1) [(D.v (.int .u8 (5 : Int))),w2,w5,w29,w32,z0,z0,z0,z0,z0,z0,z0,z0,z0,z0,z0,z0]),n0l,zI,(D.v (.int .u8 (3 : Int))),w1,w2,w3,z0,z0,z0,z0,z0,z0,z0,z0,z0,z0,z0,z0,z0,(D.list 1 (some 1) [(D.v (.int .u8 (3 : Int))),w1,w2,w4,z0,z0,z0,z0,z0,z0,z0,z0,z0,z0,z0,z0,z0]),n0l,(D.v (.int .i64 (1 : Int))),(D.v (.int .u8 (3 : Int))),w1,w2,w4,z0,z0,z0,z0,z0,z0,z0,z0,z0,z0,z0,z0,z0,(D.list 1 (some 1) [(D.v (.int .u8 (3 : Int))),w1,w2,w4,z0,z0,z0,z0,z0,z0,z0,z0,z0,z0,z0,z0,z0]),n0l])])]
def Z12s : D := (D.v (.int .i64 (3 : Int)))
def Z12t : List D := [(D.agg [(D.list 3 (some 3) [(D.v (.int .i64 (-1 : Int))),(D.v (.int .u8 (5 : Int))),w2,w5,w29,w32,z0,z0,z0,z0,z0,z0,z0,z0,z0,z0,z0,z0,(D.list 1 (some 1) [(D.v (.int .u8 (5 : Int))),w2,w5,w29,w32,z0,z0,z0,z0,z0,z0,z0,z0,z0,z0,z0,z0]),n0l,zI,(D.v (.int .u8 (5 : Int))),w2,w5,w29,w32,z0,z0,z0,z0,z0,z0,z0,z0,z0,z0,z0,z0,(D.list 1 (some 1) [(D.v (.int .u8 (5 : Int))),w2,w5,w29,w32,z0,z0,z0,z0,z0,z0,z0,z0,z0,z0,z0,z0]),n0l,(D.v (.int .i64 (1 : Int))),(D.v (.int .u8 (3 : Int))),w1,w2,w4,z0,z0,z0,z0,z0,z0,z0,z0,z0,z0,z0,z0,z0,(D.list 1 (some 1) [(D.v (.int .u8 (3 : Int))),w1,w2,w4,z0,z0,z0,z0,z0,z0,z0,z0,z0,z0,z0,z0,z0]),n0l])])]
def Z12u : D := (D.v (.int .i64 (3 : Int)))
theorem Z1cb : funD Tg Z9d 100000 60 Z1y Tryz.f59 Z12n = some Z12o := by kernel_rfl
theorem Z1cc : funD Tg Z9d 100000 60 Z1y Tryz.f59 Z12p = some Z12q := by kernel_rfl
theorem Z1cd : funD Tg Z9d 100000 60 Z1y Tryz.f59 Z12r = some Z12s := by kernel_rfl
theorem Z1ce : funD Tg Z9d 100000 60 Z1y Tryz.f59 Z12t = some Z12u := by kernel_rfl
def Zye (ds : List D) : Option D := if isT Z12n ds then some Z12o else (if isT Z12p ds then some Z12q else (if isT Z12r ds then some Z12s else (if isT Z12t ds then some Z12u else (none))))
theorem td_trees_Size : ∀ ds d,Zye ds = some d → DataSem Tg 59 ds d := by
 intro ds d h
 unfold Zye at h
 split at h
 ·rename_i ha; obtain rfl := isT_eq ha; cases h; exact Za0 Z1cb
 split at h
 ·rename_i ha; obtain rfl := isT_eq ha; cases h; exact Za0 Z1cc
 split at h
 ·rename_i ha; obtain rfl := isT_eq ha; cases h; exact Za0 Z1cd
 split at h
 ·rename_i ha; obtain rfl := isT_eq ha; cases h; exact Za0 Z1ce
 cases h
end Go.Ev