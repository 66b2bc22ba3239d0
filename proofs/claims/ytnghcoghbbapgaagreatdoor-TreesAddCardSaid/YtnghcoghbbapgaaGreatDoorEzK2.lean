/- Closed calls of the reference at the two qualifiers of the examples. No conditions. -/
import Derived.Test.YtnghcoghbbapgaaGreatDoorEzI
set_option linter.unusedVariables false
set_option maxRecDepth 1000000
namespace Go.Ev
open Go Go.Proofs
def Z60 : FnH := ⟨[],[]⟩
theorem Zhm : Enters Tg 101 := ⟨Tryz.f101,Tryz.func101,by kernel_rfl,by kernel_rfl⟩
noncomputable def Zrc : Hints := ⟨[],[(101,Tryz.f101,Z60)],[203,205,206,208,148]⟩
theorem Zyt {m n : Nat} {ds : List D} {d : D} (h : funD Tg Zrc m n Z60 Tryz.f101 ds = some d) : DataSem Tg 101 ds d := Z5 (H := Zrc) SpOk.nil mixed (InlOk.cons Tryz.func101 Zhm InlOk.nil) Tryz.func101 Zhm h
def Z17h : List D := [(D.agg [(D.v (.int .u8 (1 : Int))),(D.v (.string (ByteArray.mk #[104,116,116,112,58,47,47,97]))),(D.v (.bool false)),zU,(D.v (.string (ByteArray.mk #[]))),(D.list 0 (some 0) []),(D.v (.bool false)),zU,(D.v (.string (ByteArray.mk #[]))),(D.v (.int .u8 (0 : Int))),zU,zU,zU,zU,zU,zU,zU,zU,zU,zU,zU,zU,zU,zU,zU,zU,(D.list 0 (some 0) [])])]
def Z17i : D := (D.v (.bool true))
def Z17j : List D := [(D.agg [(D.v (.int .u8 (2 : Int))),(D.v (.string (ByteArray.mk #[]))),(D.v (.bool false)),zU,(D.v (.string (ByteArray.mk #[]))),(D.list 0 (some 0) []),(D.v (.bool true)),(D.v (.int .u32 (12 : Int))),(D.v (.string (ByteArray.mk #[98]))),(D.v (.int .u8 (0 : Int))),zU,zU,zU,zU,zU,zU,zU,zU,zU,zU,zU,zU,zU,zU,zU,zU,(D.list 0 (some 0) [])])]
def Z17k : D := (D.v (.bool true))
theorem Z1m1 : funD Tg Zrc 100000 60 Z60 Tryz.f101 Z17h = some Z17i := by kernel_rfl
theorem Z1m2 : funD Tg Zrc 100000 60 Z60 Tryz.f101 Z17j = some Z17k := by kernel_rfl
def Z13n (ds : List D) : Option D := if isT Z17h ds then some Z17i else (if isT Z17j ds then some Z17k else (none))
theorem Z1ry : ∀ ds d,Z13n ds = some d → DataSem Tg 101 ds d := by
 intro ds d h
 unfold Z13n at h
 split at h
 ·rename_i ha; obtain rfl := isT_eq ha; cases h; exact Zyt Z1m1
 split at h
 ·rename_i ha; obtain rfl := isT_eq ha; cases h; exact Zyt Z1m2
 cases h
def Z7g : FnH := ⟨[(9,⟨(bm 17179869194 77),[],some 1000000⟩)],[]⟩
def Znl : FnH := ⟨[(1,⟨(bm 1 169),[],none⟩),(9,⟨(bm 1 169),[],none⟩)],[]⟩
def Znm : FnH := ⟨[],[]⟩
theorem Zd4 : Enters Tg 118 := ⟨Tryz.f118,Tryz.func118,by kernel_rfl,by kernel_rfl⟩
theorem Znn : Enters Tg 149 := ⟨Tryz.f149,Tryz.func149,by kernel_rfl,by kernel_rfl⟩
theorem Zno : Enters Tg 171 := ⟨Tryz.f171,Tryz.func171,by kernel_rfl,by kernel_rfl⟩
noncomputable def Zwm : Hints := ⟨[],[(118,Tryz.f118,Z7g),(149,Tryz.f149,Znl),(171,Tryz.f171,Znm)],[203,205,206,208,148]⟩
theorem Z1cc {m n : Nat} {ds : List D} {d : D} (h : funD Tg Zwm m n Z7g Tryz.f118 ds = some d) : DataSem Tg 118 ds d := Z5 (H := Zwm) SpOk.nil mixed (InlOk.cons Tryz.func118 Zd4 (InlOk.cons Tryz.func149 Znn (InlOk.cons Tryz.func171 Zno InlOk.nil))) Tryz.func118 Zd4 h
def Z14z : List D := [(D.agg [(D.v (.int .u32 (12 : Int))),(D.v (.string (ByteArray.mk #[98])))])]
def Z150 : D := zI
theorem Z1j2 : funD Tg Zwm 100000 60 Z7g Tryz.f118 Z14z = some Z150 := by kernel_rfl
def Z10c (ds : List D) : Option D := if isT Z14z ds then some Z150 else (none)
theorem Z1oh : ∀ ds d,Z10c ds = some d → DataSem Tg 118 ds d := by
 intro ds d h
 unfold Z10c at h
 split at h
 ·rename_i ha; obtain rfl := isT_eq ha; cases h; exact Z1cc Z1j2
 cases h
def Z89 : FnH := ⟨[],[]⟩
theorem Zq6 : Enters Tg 119 := ⟨Tryz.f119,Tryz.func119,by kernel_rfl,by kernel_rfl⟩
noncomputable def Zyu : Hints := ⟨[],[(119,Tryz.f119,Z89)],[203,205,206,208,148]⟩
theorem Z151 {m n : Nat} {ds : List D} {d : D} (h : funD Tg Zyu m n Z89 Tryz.f119 ds = some d) : DataSem Tg 119 ds d := Z5 (H := Zyu) SpOk.nil mixed (InlOk.cons Tryz.func119 Zq6 InlOk.nil) Tryz.func119 Zq6 h
def Z1ec : List D := [(D.v (.int .u32 (1 : Int)))]
def Z1ed : D := (D.agg [(D.v (.int .u8 (9 : Int))),(D.v (.int .u32 (1 : Int))),(D.v (.int .u32 (3 : Int))),(D.v (.int .u32 (6 : Int))),(D.v (.int .u32 (1 : Int))),(D.v (.int .u32 (5 : Int))),(D.v (.int .u32 (5 : Int))),(D.v (.int .u32 (7 : Int))),(D.v (.int .u32 (2 : Int))),(D.v (.int .u32 (1 : Int))),zU,zU,zU,zU,zU,zU,zU])
def Z1ee : List D := [(D.v (.int .u32 (2 : Int)))]
def Z1ef : D := (D.agg [(D.v (.int .u8 (9 : Int))),(D.v (.int .u32 (1 : Int))),(D.v (.int .u32 (3 : Int))),(D.v (.int .u32 (6 : Int))),(D.v (.int .u32 (1 : Int))),(D.v (.int .u32 (5 : Int))),(D.v (.int .u32 (5 : Int))),(D.v (.int .u32 (7 : Int))),(D.v (.int .u32 (2 : Int))),(D.v (.int .u32 (2 : Int))),zU,zU,zU,zU,zU,zU,zU])
theorem Z1rz : funD Tg Zyu 100000 60 Z89 Tryz.f119 Z1ec = some Z1ed := by kernel_rfl
theorem Z1s0 : funD Tg Zyu 100000 60 Z89 Tryz.f119 Z1ee = some Z1ef := by kernel_rfl
def Z13o (ds : List D) : Option D := if isT Z1ec ds then some Z1ed else (if isT Z1ee ds then some Z1ef else (none))
theorem Z1m3 : ∀ ds d,Z13o ds = some d → DataSem Tg 119 ds d := by
 intro ds d h
 unfold Z13o at h
 split at h
 ·rename_i ha; obtain rfl := isT_eq ha; cases h; exact Z151 Z1rz
 split at h
 ·rename_i ha; obtain rfl := isT_eq ha; cases h; exact Z151 Z1s0
 cases h
def Z4o : FnH := ⟨[(6,⟨(bm 10 76),[],some 1000000⟩)],[]⟩
def Zwn : FnH := ⟨[],[]⟩
def Zuw : FnH := ⟨[(22,⟨(bm 7865353 147),[],some 1000000⟩)],[]⟩
def Zwo : FnH := ⟨[(7,⟨(bm 229 87),[],some 1000000⟩)],[]⟩
def Zto : FnH := ⟨[],[]⟩
def Zwp : FnH := ⟨[(12,⟨(bm 225 59),[],some 1000000⟩)],[]⟩
theorem Zat : Enters Tg 102 := ⟨Tryz.f102,Tryz.func102,by kernel_rfl,by kernel_rfl⟩
theorem Zwq : Enters Tg 120 := ⟨Tryz.f120,Tryz.func120,by kernel_rfl,by kernel_rfl⟩
theorem Zux : Enters Tg 150 := ⟨Tryz.f150,Tryz.func150,by kernel_rfl,by kernel_rfl⟩
theorem Zwr : Enters Tg 172 := ⟨Tryz.f172,Tryz.func172,by kernel_rfl,by kernel_rfl⟩
theorem Ztp : Enters Tg 153 := ⟨Tryz.f153,Tryz.func153,by kernel_rfl,by kernel_rfl⟩
theorem Zws : Enters Tg 173 := ⟨Tryz.f173,Tryz.func173,by kernel_rfl,by kernel_rfl⟩
noncomputable def Zk1 : Hints := ⟨[(118,Z10c),(119,Z13o),(60,fun _ => none)],[(102,Tryz.f102,Z4o),(120,Tryz.f120,Zwn),(150,Tryz.f150,Zuw),(172,Tryz.f172,Zwo),(153,Tryz.f153,Zto),(173,Tryz.f173,Zwp)],[203,205,206,208,148]⟩
theorem Zuf {m n : Nat} {ds : List D} {d : D} (h : funD Tg Zk1 m n Z4o Tryz.f102 ds = some d) : DataSem Tg 102 ds d := Z5 (H := Zk1) (SpOk.cons Z1oh (SpOk.cons Z1m3 (SpOk.cons (fun _ _ h => by cases h) SpOk.nil))) mixed (InlOk.cons Tryz.func102 Zat (InlOk.cons Tryz.func120 Zwq (InlOk.cons Tryz.func150 Zux (InlOk.cons Tryz.func172 Zwr (InlOk.cons Tryz.func153 Ztp (InlOk.cons Tryz.func173 Zws InlOk.nil)))))) Tryz.func102 Zat h
def Z11m : List D := [(D.agg [(D.v (.int .u8 (1 : Int))),(D.v (.string (ByteArray.mk #[104,116,116,112,58,47,47,97]))),(D.v (.bool false)),zU,(D.v (.string (ByteArray.mk #[]))),(D.list 0 (some 0) []),(D.v (.bool false)),zU,(D.v (.string (ByteArray.mk #[]))),(D.v (.int .u8 (0 : Int))),zU,zU,zU,zU,zU,zU,zU,zU,zU,zU,zU,zU,zU,zU,zU,zU,(D.list 0 (some 0) [])])]
def Z11n : D := zI
def Z11o : List D := [(D.agg [(D.v (.int .u8 (2 : Int))),(D.v (.string (ByteArray.mk #[]))),(D.v (.bool false)),zU,(D.v (.string (ByteArray.mk #[]))),(D.list 0 (some 0) []),(D.v (.bool true)),(D.v (.int .u32 (12 : Int))),(D.v (.string (ByteArray.mk #[98]))),(D.v (.int .u8 (0 : Int))),zU,zU,zU,zU,zU,zU,zU,zU,zU,zU,zU,zU,zU,zU,zU,zU,(D.list 0 (some 0) [])])]
def Z11p : D := zI
theorem Z1gi : funD Tg Zk1 100000 60 Z4o Tryz.f102 Z11m = some Z11n := by kernel_rfl
theorem Z1gj : funD Tg Zk1 100000 60 Z4o Tryz.f102 Z11o = some Z11p := by kernel_rfl
def Zwt (ds : List D) : Option D := if isT Z11m ds then some Z11n else (if isT Z11o ds then some Z11p else (none))
theorem Z1m4 : ∀ ds d,Zwt ds = some d → DataSem Tg 102 ds d := by
 intro ds d h
 unfold Zwt at h
 split at h
 ·rename_i ha; obtain rfl := isT_eq ha; cases h; exact Zuf Z1gi
 split at h
 ·rename_i ha; obtain rfl := isT_eq ha; cases h; exact Zuf Z1gj
 cases h
def Z5y : FnH := ⟨[(5,⟨(bm 16392 28),[(3,1)],some 1000000⟩)],[]⟩
theorem Z9b : Enters Tg 151 := ⟨Tryz.f151,Tryz.func151,by kernel_rfl,by kernel_rfl⟩
noncomputable def Zqh : Hints := ⟨[],[(151,Tryz.f151,Z5y)],[203,205,206,208,148]⟩
theorem Z17l {m n : Nat} {ds : List D} {d : D} (h : funD Tg Zqh m n Z5y Tryz.f151 ds = some d) : DataSem Tg 151 ds d := Z5 (H := Zqh) SpOk.nil mixed (InlOk.cons Tryz.func151 Z9b InlOk.nil) Tryz.func151 Z9b h
def Zyv : List D := [(D.agg [(D.v (.int .u32 (12 : Int))),(D.v (.string (ByteArray.mk #[98])))])]
def Zyw : D := (D.list 1 none [(D.v (.int .u8 (98 : Int)))])
theorem Z1eg : funD Tg Zqh 100000 60 Z5y Tryz.f151 Zyv = some Zyw := by kernel_rfl
def Ztq (ds : List D) : Option D := if isT Zyv ds then some Zyw else (none)
theorem Z1j3 : ∀ ds d,Ztq ds = some d → DataSem Tg 151 ds d := by
 intro ds d h
 unfold Ztq at h
 split at h
 ·rename_i ha; obtain rfl := isT_eq ha; cases h; exact Z17l Z1eg
 cases h
def Z8c : FnH := ⟨[],[]⟩
theorem Zhn : Enters Tg 123 := ⟨Tryz.f123,Tryz.func123,by kernel_rfl,by kernel_rfl⟩
noncomputable def Z10d : Hints := ⟨[(151,Ztq)],[(123,Tryz.f123,Z8c)],[203,205,206,208,148]⟩
theorem Z1eh {m n : Nat} {ds : List D} {d : D} (h : funD Tg Z10d m n Z8c Tryz.f123 ds = some d) : DataSem Tg 123 ds d := Z5 (H := Z10d) (SpOk.cons Z1j3 SpOk.nil) mixed (InlOk.cons Tryz.func123 Zhn InlOk.nil) Tryz.func123 Zhn h
def Z17m : List D := [(D.agg [(D.v (.int .u32 (12 : Int))),(D.v (.string (ByteArray.mk #[98])))])]
def Z17n : D := (D.agg [(D.v (.int .u8 (0 : Int))),(D.v (.bool false)),(D.v (.int .u32 (12 : Int))),(D.list 1 none [(D.v (.int .u8 (98 : Int)))]),(D.list 0 (some 0) [])])
theorem Z1m5 : funD Tg Z10d 100000 60 Z8c Tryz.f123 Z17m = some Z17n := by kernel_rfl
def Z13p (ds : List D) : Option D := if isT Z17m ds then some Z17n else (none)
theorem Z1s1 : ∀ ds d,Z13p ds = some d → DataSem Tg 123 ds d := by
 intro ds d h
 unfold Z13p at h
 split at h
 ·rename_i ha; obtain rfl := isT_eq ha; cases h; exact Z1eh Z1m5
 cases h
def Z76 : FnH := ⟨[(3,⟨(bm 26 32),[(3,1)],some 1000000⟩)],[]⟩
def Zwu : FnH := ⟨[(3,⟨(bm 9 22),[(3,1)],some 1000000⟩)],[]⟩
theorem Zlt : Enters Tg 124 := ⟨Tryz.f124,Tryz.func124,by kernel_rfl,by kernel_rfl⟩
theorem Zwv : Enters Tg 152 := ⟨Tryz.f152,Tryz.func152,by kernel_rfl,by kernel_rfl⟩
noncomputable def Zuy : Hints := ⟨[],[(124,Tryz.f124,Z76),(152,Tryz.f152,Zwu)],[203,205,206,208,148]⟩
theorem Z11q {m n : Nat} {ds : List D} {d : D} (h : funD Tg Zuy m n Z76 Tryz.f124 ds = some d) : DataSem Tg 124 ds d := Z5 (H := Zuy) SpOk.nil mixed (InlOk.cons Tryz.func124 Zlt (InlOk.cons Tryz.func152 Zwv InlOk.nil)) Tryz.func124 Zlt h
def Z1b4 : List D := [(D.agg [(D.v (.int .u8 (9 : Int))),(D.v (.int .u32 (1 : Int))),(D.v (.int .u32 (3 : Int))),(D.v (.int .u32 (6 : Int))),(D.v (.int .u32 (1 : Int))),(D.v (.int .u32 (5 : Int))),(D.v (.int .u32 (5 : Int))),(D.v (.int .u32 (7 : Int))),(D.v (.int .u32 (2 : Int))),(D.v (.int .u32 (1 : Int))),zU,zU,zU,zU,zU,zU,zU])]
def Z1b5 : D := (D.list 8 none [(D.v (.int .u8 (43 : Int))),(D.v (.int .u8 (6 : Int))),(D.v (.int .u8 (1 : Int))),(D.v (.int .u8 (5 : Int))),(D.v (.int .u8 (5 : Int))),(D.v (.int .u8 (7 : Int))),(D.v (.int .u8 (2 : Int))),(D.v (.int .u8 (1 : Int)))])
def Z1b6 : List D := [(D.agg [(D.v (.int .u8 (9 : Int))),(D.v (.int .u32 (1 : Int))),(D.v (.int .u32 (3 : Int))),(D.v (.int .u32 (6 : Int))),(D.v (.int .u32 (1 : Int))),(D.v (.int .u32 (5 : Int))),(D.v (.int .u32 (5 : Int))),(D.v (.int .u32 (7 : Int))),(D.v (.int .u32 (2 : Int))),(D.v (.int .u32 (2 : Int))),zU,zU,zU,zU,zU,zU,zU])]
def Z1b7 : D := (D.list 8 none [(D.v (.int .u8 (43 : Int))),(D.v (.int .u8 (6 : Int))),(D.v (.int .u8 (1 : Int))),(D.v (.int .u8 (5 : Int))),(D.v (.int .u8 (5 : Int))),(D.v (.int .u8 (7 : Int))),(D.v (.int .u8 (2 : Int))),(D.v (.int .u8 (2 : Int)))])
theorem Z1oi : funD Tg Zuy 100000 60 Z76 Tryz.f124 Z1b4 = some Z1b5 := by kernel_rfl
theorem Z1oj : funD Tg Zuy 100000 60 Z76 Tryz.f124 Z1b6 = some Z1b7 := by kernel_rfl
def Z17o (ds : List D) : Option D := if isT Z1b4 ds then some Z1b5 else (if isT Z1b6 ds then some Z1b7 else (none))
theorem Z1um : ∀ ds d,Z17o ds = some d → DataSem Tg 124 ds d := by
 intro ds d h
 unfold Z17o at h
 split at h
 ·rename_i ha; obtain rfl := isT_eq ha; cases h; exact Z11q Z1oi
 split at h
 ·rename_i ha; obtain rfl := isT_eq ha; cases h; exact Z11q Z1oj
 cases h
def Z3z : FnH := ⟨[(14,⟨(bm 254 77),[(5,5),(6,5)],some 1000000⟩)],[]⟩
def Zuz : FnH := ⟨[],[]⟩
def Zv0 : FnH := ⟨[],[]⟩
def Ztr : FnH := ⟨[(22,⟨(bm 7865353 147),[],some 1000000⟩)],[]⟩
def Zv1 : FnH := ⟨[(7,⟨(bm 229 87),[],some 1000000⟩)],[]⟩
def Zsu : FnH := ⟨[],[]⟩
def Zv2 : FnH := ⟨[(12,⟨(bm 225 59),[],some 1000000⟩)],[]⟩
theorem Z9c : Enters Tg 103 := ⟨Tryz.f103,Tryz.func103,by kernel_rfl,by kernel_rfl⟩
theorem Zv3 : Enters Tg 122 := ⟨Tryz.f122,Tryz.func122,by kernel_rfl,by kernel_rfl⟩
theorem Zv4 : Enters Tg 120 := ⟨Tryz.f120,Tryz.func120,by kernel_rfl,by kernel_rfl⟩
theorem Zts : Enters Tg 150 := ⟨Tryz.f150,Tryz.func150,by kernel_rfl,by kernel_rfl⟩
theorem Zv5 : Enters Tg 172 := ⟨Tryz.f172,Tryz.func172,by kernel_rfl,by kernel_rfl⟩
theorem Zsv : Enters Tg 153 := ⟨Tryz.f153,Tryz.func153,by kernel_rfl,by kernel_rfl⟩
theorem Zv6 : Enters Tg 173 := ⟨Tryz.f173,Tryz.func173,by kernel_rfl,by kernel_rfl⟩
noncomputable def Zgx : Hints := ⟨[(119,Z13o),(123,Z13p),(124,Z17o),(121,fun _ => none)],[(103,Tryz.f103,Z3z),(122,Tryz.f122,Zuz),(120,Tryz.f120,Zv0),(150,Tryz.f150,Ztr),(172,Tryz.f172,Zv1),(153,Tryz.f153,Zsu),(173,Tryz.f173,Zv2)],[203,205,206,208,148]⟩
theorem Zsw {m n : Nat} {ds : List D} {d : D} (h : funD Tg Zgx m n Z3z Tryz.f103 ds = some d) : DataSem Tg 103 ds d := Z5 (H := Zgx) (SpOk.cons Z1m3 (SpOk.cons Z1s1 (SpOk.cons Z1um (SpOk.cons (fun _ _ h => by cases h) SpOk.nil)))) mixed (InlOk.cons Tryz.func103 Z9c (InlOk.cons Tryz.func122 Zv3 (InlOk.cons Tryz.func120 Zv4 (InlOk.cons Tryz.func150 Zts (InlOk.cons Tryz.func172 Zv5 (InlOk.cons Tryz.func153 Zsv (InlOk.cons Tryz.func173 Zv6 InlOk.nil))))))) Tryz.func103 Z9c h
def Zyx : List D := [(D.agg [(D.v (.int .u8 (1 : Int))),(D.v (.string (ByteArray.mk #[104,116,116,112,58,47,47,97]))),(D.v (.bool false)),zU,(D.v (.string (ByteArray.mk #[]))),(D.list 0 (some 0) []),(D.v (.bool false)),zU,(D.v (.string (ByteArray.mk #[]))),(D.v (.int .u8 (0 : Int))),zU,zU,zU,zU,zU,zU,zU,zU,zU,zU,zU,zU,zU,zU,zU,zU,(D.list 0 (some 0) [])])]
def Zyy : D := (D.agg [(D.v (.int .u8 (0 : Int))),(D.v (.bool true)),(D.v (.int .u32 (16 : Int))),(D.list 0 (some 0) []),(D.list 2 (some 2) [(D.v (.int .u8 (0 : Int))),(D.v (.bool false)),(D.v (.int .u32 (6 : Int))),(D.list 8 none [(D.v (.int .u8 (43 : Int))),(D.v (.int .u8 (6 : Int))),(D.v (.int .u8 (1 : Int))),(D.v (.int .u8 (5 : Int))),(D.v (.int .u8 (5 : Int))),(D.v (.int .u8 (7 : Int))),(D.v (.int .u8 (2 : Int))),(D.v (.int .u8 (1 : Int)))]),(D.list 0 (some 0) []),(D.v (.int .u8 (0 : Int))),(D.v (.bool false)),(D.v (.int .u32 (22 : Int))),(D.list 8 none [(D.v (.int .u8 (104 : Int))),(D.v (.int .u8 (116 : Int))),(D.v (.int .u8 (116 : Int))),(D.v (.int .u8 (112 : Int))),(D.v (.int .u8 (58 : Int))),(D.v (.int .u8 (47 : Int))),(D.v (.int .u8 (47 : Int))),(D.v (.int .u8 (97 : Int)))]),(D.list 0 (some 0) [])])])
def Zyz : List D := [(D.agg [(D.v (.int .u8 (2 : Int))),(D.v (.string (ByteArray.mk #[]))),(D.v (.bool false)),zU,(D.v (.string (ByteArray.mk #[]))),(D.list 0 (some 0) []),(D.v (.bool true)),(D.v (.int .u32 (12 : Int))),(D.v (.string (ByteArray.mk #[98]))),(D.v (.int .u8 (0 : Int))),zU,zU,zU,zU,zU,zU,zU,zU,zU,zU,zU,zU,zU,zU,zU,zU,(D.list 0 (some 0) [])])]
def Zz0 : D := (D.agg [(D.v (.int .u8 (0 : Int))),(D.v (.bool true)),(D.v (.int .u32 (16 : Int))),(D.list 0 (some 0) []),(D.list 2 (some 2) [(D.v (.int .u8 (0 : Int))),(D.v (.bool false)),(D.v (.int .u32 (6 : Int))),(D.list 8 none [(D.v (.int .u8 (43 : Int))),(D.v (.int .u8 (6 : Int))),(D.v (.int .u8 (1 : Int))),(D.v (.int .u8 (5 : Int))),(D.v (.int .u8 (5 : Int))),(D.v (.int .u8 (7 : Int))),(D.v (.int .u8 (2 : Int))),(D.v (.int .u8 (2 : Int)))]),(D.list 0 (some 0) []),(D.v (.int .u8 (0 : Int))),(D.v (.bool true)),(D.v (.int .u32 (16 : Int))),(D.list 0 (some 0) []),(D.list 1 none [(D.v (.int .u8 (0 : Int))),(D.v (.bool false)),(D.v (.int .u32 (12 : Int))),(D.list 1 none [(D.v (.int .u8 (98 : Int)))]),(D.list 0 (some 0) [])])])])
theorem Z1ei : funD Tg Zgx 100000 60 Z3z Tryz.f103 Zyx = some Zyy := by kernel_rfl
theorem Z1ej : funD Tg Zgx 100000 60 Z3z Tryz.f103 Zyz = some Zz0 := by kernel_rfl
def Ztt (ds : List D) : Option D := if isT Zyx ds then some Zyy else (if isT Zyz ds then some Zz0 else (none))
theorem Z1j4 : ∀ ds d,Ztt ds = some d → DataSem Tg 103 ds d := by
 intro ds d h
 unfold Ztt at h
 split at h
 ·rename_i ha; obtain rfl := isT_eq ha; cases h; exact Zsw Z1ei
 split at h
 ·rename_i ha; obtain rfl := isT_eq ha; cases h; exact Zsw Z1ej
 cases h
def Z77 : FnH := ⟨[(3,⟨(bm 26 33),[(3,1)],some 1000000⟩)],[]⟩
def Z11r : FnH := ⟨[],[]⟩
def Zww : FnH := ⟨[(3,⟨(bm 9 22),[(3,1)],some 1000000⟩)],[]⟩
def Z11s : FnH := ⟨[(4,⟨(bm 9 26),[(3,1)],some 1000000⟩)],[]⟩
theorem Zlu : Enters Tg 105 := ⟨Tryz.f105,Tryz.func105,by kernel_rfl,by kernel_rfl⟩
theorem Z11t : Enters Tg 126 := ⟨Tryz.f126,Tryz.func126,by kernel_rfl,by kernel_rfl⟩
theorem Zwx : Enters Tg 152 := ⟨Tryz.f152,Tryz.func152,by kernel_rfl,by kernel_rfl⟩
theorem Z11u : Enters Tg 127 := ⟨Tryz.f127,Tryz.func127,by kernel_rfl,by kernel_rfl⟩
noncomputable def Zv7 : Hints := ⟨[],[(105,Tryz.f105,Z77),(126,Tryz.f126,Z11r),(152,Tryz.f152,Zww),(127,Tryz.f127,Z11s)],[203,205,206,208,148]⟩
theorem Z11v {m n : Nat} {ds : List D} {d : D} (h : funD Tg Zv7 m n Z77 Tryz.f105 ds = some d) : DataSem Tg 105 ds d := Z5 (H := Zv7) SpOk.nil mixed (InlOk.cons Tryz.func105 Zlu (InlOk.cons Tryz.func126 Z11t (InlOk.cons Tryz.func152 Zwx (InlOk.cons Tryz.func127 Z11u InlOk.nil)))) Tryz.func105 Zlu h
def Z1b8 : List D := [(D.agg [(D.v (.int .u8 (0 : Int))),(D.v (.bool true)),(D.v (.int .u32 (16 : Int))),(D.list 0 (some 0) []),(D.list 2 (some 2) [(D.v (.int .u8 (0 : Int))),(D.v (.bool false)),(D.v (.int .u32 (6 : Int))),(D.list 8 none [(D.v (.int .u8 (43 : Int))),(D.v (.int .u8 (6 : Int))),(D.v (.int .u8 (1 : Int))),(D.v (.int .u8 (5 : Int))),(D.v (.int .u8 (5 : Int))),(D.v (.int .u8 (7 : Int))),(D.v (.int .u8 (2 : Int))),(D.v (.int .u8 (1 : Int)))]),(D.list 0 (some 0) []),(D.v (.int .u8 (0 : Int))),(D.v (.bool false)),(D.v (.int .u32 (22 : Int))),(D.list 8 none [(D.v (.int .u8 (104 : Int))),(D.v (.int .u8 (116 : Int))),(D.v (.int .u8 (116 : Int))),(D.v (.int .u8 (112 : Int))),(D.v (.int .u8 (58 : Int))),(D.v (.int .u8 (47 : Int))),(D.v (.int .u8 (47 : Int))),(D.v (.int .u8 (97 : Int)))]),(D.list 0 (some 0) [])])])]
def Z1b9 : D := (D.list 22 none [(D.v (.int .u8 (48 : Int))),(D.v (.int .u8 (20 : Int))),(D.v (.int .u8 (6 : Int))),(D.v (.int .u8 (8 : Int))),(D.v (.int .u8 (43 : Int))),(D.v (.int .u8 (6 : Int))),(D.v (.int .u8 (1 : Int))),(D.v (.int .u8 (5 : Int))),(D.v (.int .u8 (5 : Int))),(D.v (.int .u8 (7 : Int))),(D.v (.int .u8 (2 : Int))),(D.v (.int .u8 (1 : Int))),(D.v (.int .u8 (22 : Int))),(D.v (.int .u8 (8 : Int))),(D.v (.int .u8 (104 : Int))),(D.v (.int .u8 (116 : Int))),(D.v (.int .u8 (116 : Int))),(D.v (.int .u8 (112 : Int))),(D.v (.int .u8 (58 : Int))),(D.v (.int .u8 (47 : Int))),(D.v (.int .u8 (47 : Int))),(D.v (.int .u8 (97 : Int)))])
def Z1ba : List D := [(D.agg [(D.v (.int .u8 (0 : Int))),(D.v (.bool true)),(D.v (.int .u32 (16 : Int))),(D.list 0 (some 0) []),(D.list 2 (some 2) [(D.v (.int .u8 (0 : Int))),(D.v (.bool false)),(D.v (.int .u32 (6 : Int))),(D.list 8 none [(D.v (.int .u8 (43 : Int))),(D.v (.int .u8 (6 : Int))),(D.v (.int .u8 (1 : Int))),(D.v (.int .u8 (5 : Int))),(D.v (.int .u8 (5 : Int))),(D.v (.int .u8 (7 : Int))),(D.v (.int .u8 (2 : Int))),(D.v (.int .u8 (2 : Int)))]),(D.list 0 (some 0) []),(D.v (.int .u8 (0 : Int))),(D.v (.bool true)),(D.v (.int .u32 (16 : Int))),(D.list 0 (some 0) []),(D.list 1 none [(D.v (.int .u8 (0 : Int))),(D.v (.bool false)),(D.v (.int .u32 (12 : Int))),(D.list 1 none [(D.v (.int .u8 (98 : Int)))]),(D.list 0 (some 0) [])])])])]
def Z1bb : D := (D.list 17 none [(D.v (.int .u8 (48 : Int))),(D.v (.int .u8 (15 : Int))),(D.v (.int .u8 (6 : Int))),(D.v (.int .u8 (8 : Int))),(D.v (.int .u8 (43 : Int))),(D.v (.int .u8 (6 : Int))),(D.v (.int .u8 (1 : Int))),(D.v (.int .u8 (5 : Int))),(D.v (.int .u8 (5 : Int))),(D.v (.int .u8 (7 : Int))),(D.v (.int .u8 (2 : Int))),(D.v (.int .u8 (2 : Int))),(D.v (.int .u8 (48 : Int))),(D.v (.int .u8 (3 : Int))),(D.v (.int .u8 (12 : Int))),(D.v (.int .u8 (1 : Int))),(D.v (.int .u8 (98 : Int)))])
theorem Z1ok : funD Tg Zv7 100000 60 Z77 Tryz.f105 Z1b8 = some Z1b9 := by kernel_rfl
theorem Z1ol : funD Tg Zv7 100000 60 Z77 Tryz.f105 Z1ba = some Z1bb := by kernel_rfl
def Z17p (ds : List D) : Option D := if isT Z1b8 ds then some Z1b9 else (if isT Z1ba ds then some Z1bb else (none))
theorem Z1un : ∀ ds d,Z17p ds = some d → DataSem Tg 105 ds d := by
 intro ds d h
 unfold Z17p at h
 split at h
 ·rename_i ha; obtain rfl := isT_eq ha; cases h; exact Z11v Z1ok
 split at h
 ·rename_i ha; obtain rfl := isT_eq ha; cases h; exact Z11v Z1ol
 cases h
def Z57 : FnH := ⟨[(12,⟨(bm 1546 70),[],some 1000000⟩)],[]⟩
def Zv8 : FnH := ⟨[],[]⟩
theorem Zd5 : Enters Tg 125 := ⟨Tryz.f125,Tryz.func125,by kernel_rfl,by kernel_rfl⟩
theorem Zv9 : Enters Tg 153 := ⟨Tryz.f153,Tryz.func153,by kernel_rfl,by kernel_rfl⟩
noncomputable def Znp : Hints := ⟨[],[(125,Tryz.f125,Z57),(153,Tryz.f153,Zv8)],[203,205,206,208,148]⟩
theorem Zwy {m n : Nat} {ds : List D} {d : D} (h : funD Tg Znp m n Z57 Tryz.f125 ds = some d) : DataSem Tg 125 ds d := Z5 (H := Znp) SpOk.nil mixed (InlOk.cons Tryz.func125 Zd5 (InlOk.cons Tryz.func153 Zv9 InlOk.nil)) Tryz.func125 Zd5 h
def Z152 : List D := [(D.agg [(D.v (.int .u8 (0 : Int))),(D.v (.bool true)),(D.v (.int .u32 (16 : Int))),(D.list 0 (some 0) []),(D.list 2 (some 2) [(D.v (.int .u8 (0 : Int))),(D.v (.bool false)),(D.v (.int .u32 (6 : Int))),(D.list 8 none [(D.v (.int .u8 (43 : Int))),(D.v (.int .u8 (6 : Int))),(D.v (.int .u8 (1 : Int))),(D.v (.int .u8 (5 : Int))),(D.v (.int .u8 (5 : Int))),(D.v (.int .u8 (7 : Int))),(D.v (.int .u8 (2 : Int))),(D.v (.int .u8 (1 : Int)))]),(D.list 0 (some 0) []),(D.v (.int .u8 (0 : Int))),(D.v (.bool false)),(D.v (.int .u32 (22 : Int))),(D.list 8 none [(D.v (.int .u8 (104 : Int))),(D.v (.int .u8 (116 : Int))),(D.v (.int .u8 (116 : Int))),(D.v (.int .u8 (112 : Int))),(D.v (.int .u8 (58 : Int))),(D.v (.int .u8 (47 : Int))),(D.v (.int .u8 (47 : Int))),(D.v (.int .u8 (97 : Int)))]),(D.list 0 (some 0) [])])]),(D.v (.int .i64 (1 : Int))),zI]
def Z153 : D := (D.tup [zI,(D.v (.int .i64 (3 : Int)))])
def Z154 : List D := [(D.agg [(D.v (.int .u8 (0 : Int))),(D.v (.bool true)),(D.v (.int .u32 (16 : Int))),(D.list 0 (some 0) []),(D.list 2 (some 2) [(D.v (.int .u8 (0 : Int))),(D.v (.bool false)),(D.v (.int .u32 (6 : Int))),(D.list 8 none [(D.v (.int .u8 (43 : Int))),(D.v (.int .u8 (6 : Int))),(D.v (.int .u8 (1 : Int))),(D.v (.int .u8 (5 : Int))),(D.v (.int .u8 (5 : Int))),(D.v (.int .u8 (7 : Int))),(D.v (.int .u8 (2 : Int))),(D.v (.int .u8 (2 : Int)))]),(D.list 0 (some 0) []),(D.v (.int .u8 (0 : Int))),(D.v (.bool true)),(D.v (.int .u32 (16 : Int))),(D.list 0 (some 0) []),(D.list 1 none [(D.v (.int .u8 (0 : Int))),(D.v (.bool false)),(D.v (.int .u32 (12 : Int))),(D.list 1 none [(D.v (.int .u8 (98 : Int)))]),(D.list 0 (some 0) [])])])]),(D.v (.int .i64 (1 : Int))),zI]
def Z155 : D := (D.tup [zI,(D.v (.int .i64 (4 : Int)))])
theorem Z1j5 : funD Tg Znp 100000 60 Z57 Tryz.f125 Z152 = some Z153 := by kernel_rfl
theorem Z1j6 : funD Tg Znp 100000 60 Z57 Tryz.f125 Z154 = some Z155 := by kernel_rfl
def Z10e (ds : List D) : Option D := if isT Z152 ds then some Z153 else (if isT Z154 ds then some Z155 else (none))
theorem Z1om : ∀ ds d,Z10e ds = some d → DataSem Tg 125 ds d := by
 intro ds d h
 unfold Z10e at h
 split at h
 ·rename_i ha; obtain rfl := isT_eq ha; cases h; exact Zwy Z1j5
 split at h
 ·rename_i ha; obtain rfl := isT_eq ha; cases h; exact Zwy Z1j6
 cases h
def Z58 : FnH := ⟨[],[]⟩
def Zva : FnH := ⟨[],[]⟩
theorem Zd6 : Enters Tg 84 := ⟨Tryz.f84,Tryz.func84,by kernel_rfl,by kernel_rfl⟩
theorem Zvb : Enters Tg 104 := ⟨Tryz.f104,Tryz.func104,by kernel_rfl,by kernel_rfl⟩
noncomputable def Znq : Hints := ⟨[(101,Z13n),(102,Zwt),(103,Ztt),(105,Z17p),(125,Z10e)],[(84,Tryz.f84,Z58),(104,Tryz.f104,Zva)],[203,205,206,208,148]⟩
theorem Zwz {m n : Nat} {ds : List D} {d : D} (h : funD Tg Znq m n Z58 Tryz.f84 ds = some d) : DataSem Tg 84 ds d := Z5 (H := Znq) (SpOk.cons Z1ry (SpOk.cons Z1m4 (SpOk.cons Z1j4 (SpOk.cons Z1un (SpOk.cons Z1om SpOk.nil))))) mixed (InlOk.cons Tryz.func84 Zd6 (InlOk.cons Tryz.func104 Zvb InlOk.nil)) Tryz.func84 Zd6 h
def Z156 : List D := [(D.agg [(D.v (.int .u8 (1 : Int))),(D.v (.string (ByteArray.mk #[104,116,116,112,58,47,47,97]))),(D.v (.bool false)),zU,(D.v (.string (ByteArray.mk #[]))),(D.list 0 (some 0) []),(D.v (.bool false)),zU,(D.v (.string (ByteArray.mk #[]))),(D.v (.int .u8 (0 : Int))),zU,zU,zU,zU,zU,zU,zU,zU,zU,zU,zU,zU,zU,zU,zU,zU,(D.list 0 (some 0) [])])]
def Z157 : D := zI
def Z158 : List D := [(D.agg [(D.v (.int .u8 (2 : Int))),(D.v (.string (ByteArray.mk #[]))),(D.v (.bool false)),zU,(D.v (.string (ByteArray.mk #[]))),(D.list 0 (some 0) []),(D.v (.bool true)),(D.v (.int .u32 (12 : Int))),(D.v (.string (ByteArray.mk #[98]))),(D.v (.int .u8 (0 : Int))),zU,zU,zU,zU,zU,zU,zU,zU,zU,zU,zU,zU,zU,zU,zU,zU,(D.list 0 (some 0) [])])]
def Z159 : D := zI
theorem Z1j7 : funD Tg Znq 100000 60 Z58 Tryz.f84 Z156 = some Z157 := by kernel_rfl
theorem Z1j8 : funD Tg Znq 100000 60 Z58 Tryz.f84 Z158 = some Z159 := by kernel_rfl
def Zj2 (ds : List D) : Option D := if isT Z156 ds then some Z157 else (if isT Z158 ds then some Z159 else (none))
theorem Z1on : ∀ ds d,Zj2 ds = some d → DataSem Tg 84 ds d := by
 intro ds d h
 unfold Zj2 at h
 split at h
 ·rename_i ha; obtain rfl := isT_eq ha; cases h; exact Zwz Z1j7
 split at h
 ·rename_i ha; obtain rfl := isT_eq ha; cases h; exact Zwz Z1j8
 cases h
end Go.Ev