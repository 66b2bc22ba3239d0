/- Closed calls of the program at the two qualifiers of the examples. No conditions. -/
import Derived.Test.YtnghcoghbbapgaaGreatDoorEzI
set_option linter.unusedVariables false
set_option maxRecDepth 1000000
namespace Go.Ev
open Go Go.Proofs
def Z3y : FnH := ⟨[],[]⟩
def Zxs : FnH := ⟨[],[]⟩
def Ztm : FnH := ⟨[(6,⟨(bm 1924145348608 47),[(38,1)],none⟩)],[]⟩
theorem Z99 : Enters Tg 114 := ⟨Tryz.f114,Tryz.func114,by kernel_rfl,by kernel_rfl⟩
theorem Zxt : Enters Tg 98 := ⟨Tryz.f98,Tryz.func98,by kernel_rfl,by kernel_rfl⟩
theorem Ztn : Enters Tg 77 := ⟨Tryz.f77,Tryz.func77,by kernel_rfl,by kernel_rfl⟩
noncomputable def Zgj : Hints := ⟨[],[(114,Tryz.f114,Z3y),(98,Tryz.f98,Zxs),(77,Tryz.f77,Ztm)],[203,205,206,208,148]⟩
theorem Zs0 {m n : Nat} {ds : List D} {d : D} (h : funD Tg Zgj m n Z3y Tryz.f114 ds = some d) : DataSem Tg 114 ds d := Z5 (H := Zgj) SpOk.nil mixed (InlOk.cons Tryz.func114 Z99 (InlOk.cons Tryz.func98 Zxt (InlOk.cons Tryz.func77 Ztn InlOk.nil))) Tryz.func114 Z99 h
def Zyd : List D := [(D.v (.int .u8 (1 : Int)))]
def Zye : D := (D.agg [(D.v (.int .u8 (9 : Int))),(D.v (.int .u32 (1 : Int))),(D.v (.int .u32 (3 : Int))),(D.v (.int .u32 (6 : Int))),(D.v (.int .u32 (1 : Int))),(D.v (.int .u32 (5 : Int))),(D.v (.int .u32 (5 : Int))),(D.v (.int .u32 (7 : Int))),(D.v (.int .u32 (2 : Int))),(D.v (.int .u32 (1 : Int))),zU,zU,zU,zU,zU,zU,zU])
def Zyf : List D := [(D.v (.int .u8 (2 : Int)))]
def Zyg : D := (D.agg [(D.v (.int .u8 (9 : Int))),(D.v (.int .u32 (1 : Int))),(D.v (.int .u32 (3 : Int))),(D.v (.int .u32 (6 : Int))),(D.v (.int .u32 (1 : Int))),(D.v (.int .u32 (5 : Int))),(D.v (.int .u32 (5 : Int))),(D.v (.int .u32 (7 : Int))),(D.v (.int .u32 (2 : Int))),(D.v (.int .u32 (2 : Int))),zU,zU,zU,zU,zU,zU,zU])
theorem Z1dt : funD Tg Zgj 100000 60 Z3y Tryz.f114 Zyd = some Zye := by kernel_rfl
theorem Z1du : funD Tg Zgj 100000 60 Z3y Tryz.f114 Zyf = some Zyg := by kernel_rfl
def Zjy (ds : List D) : Option D := if isT Zyd ds then some Zye else (if isT Zyf ds then some Zyg else (none))
theorem Z14m : ∀ ds d,Zjy ds = some d → DataSem Tg 114 ds d := by
 intro ds d h
 unfold Zjy at h
 split at h
 ·rename_i ha; obtain rfl := isT_eq ha; cases h; exact Zs0 Z1dt
 split at h
 ·rename_i ha; obtain rfl := isT_eq ha; cases h; exact Zs0 Z1du
 cases h
def Z39 : FnH := ⟨[],[]⟩
def Zdn : FnH := ⟨[(6,⟨(bm 524368 30),[(6,1)],none⟩)],[]⟩
def Zbw : FnH := ⟨[],[]⟩
def Zck : FnH := ⟨[],[]⟩
def Zbx : FnH := ⟨[],[]⟩
def Zag : FnH := ⟨[],[]⟩
def Z9h : FnH := ⟨[],[]⟩
def Zdo : FnH := ⟨[],[]⟩
def Z8k : FnH := ⟨[],[]⟩
def Z9i : FnH := ⟨[],[]⟩
def Za2 : FnH := ⟨[],[]⟩
def Zby : FnH := ⟨[(38,⟨(bm 47890485652059026823698344598447161988085597568237568 187),[],none⟩),(5,⟨(bm 1923 187),[],none⟩),(12,⟨(bm 6019 187),[],none⟩),(25,⟨(bm 50049 187),[],none⟩),(29,⟨(bm 115585 187),[],none⟩)],[]⟩
def Zbz : FnH := ⟨[],[]⟩
def Z9j : FnH := ⟨[],[]⟩
def Zf8 : FnH := ⟨[],[]⟩
def Zdp : FnH := ⟨[],[]⟩
def Zdq : FnH := ⟨[],[]⟩
def Zdr : FnH := ⟨[],[]⟩
def Zb2 : FnH := ⟨[],[]⟩
def Z42 : FnH := ⟨[(2,⟨(bm 387 19),[],none⟩)],[]⟩
def Za3 : FnH := ⟨[(4,⟨(bm 2052 20),[],none⟩)],[]⟩
def Zcl : FnH := ⟨[(1,⟨(bm 1 169),[],none⟩),(9,⟨(bm 1 169),[],none⟩)],[]⟩
def Zcm : FnH := ⟨[],[]⟩
def Z9k : FnH := ⟨[],[]⟩
theorem Z59 : Enters Tg 160 := ⟨Tryz.f160,Tryz.func160,by kernel_rfl,by kernel_rfl⟩
theorem Zds : Enters Tg 179 := ⟨Tryz.f179,Tryz.func179,by kernel_rfl,by kernel_rfl⟩
theorem Zc0 : Enters Tg 189 := ⟨Tryz.f189,Tryz.func189,by kernel_rfl,by kernel_rfl⟩
theorem Zcn : Enters Tg 196 := ⟨Tryz.f196,Tryz.func196,by kernel_rfl,by kernel_rfl⟩
theorem Zc1 : Enters Tg 199 := ⟨Tryz.f199,Tryz.func199,by kernel_rfl,by kernel_rfl⟩
theorem Zah : Enters Tg 202 := ⟨Tryz.f202,Tryz.func202,by kernel_rfl,by kernel_rfl⟩
theorem Z9l : Enters Tg 207 := ⟨Tryz.f207,Tryz.func207,by kernel_rfl,by kernel_rfl⟩
theorem Zdt : Enters Tg 203 := ⟨Tryz.f203,Tryz.func203,by kernel_rfl,by kernel_rfl⟩
theorem Z8l : Enters Tg 208 := ⟨Tryz.f208,Tryz.func208,by kernel_rfl,by kernel_rfl⟩
theorem Z9m : Enters Tg 204 := ⟨Tryz.f204,Tryz.func204,by kernel_rfl,by kernel_rfl⟩
theorem Za4 : Enters Tg 209 := ⟨Tryz.f209,Tryz.func209,by kernel_rfl,by kernel_rfl⟩
theorem Zc2 : Enters Tg 210 := ⟨Tryz.f210,Tryz.func210,by kernel_rfl,by kernel_rfl⟩
theorem Zc3 : Enters Tg 211 := ⟨Tryz.f211,Tryz.func211,by kernel_rfl,by kernel_rfl⟩
theorem Z9n : Enters Tg 215 := ⟨Tryz.f215,Tryz.func215,by kernel_rfl,by kernel_rfl⟩
theorem Zf9 : Enters Tg 212 := ⟨Tryz.f212,Tryz.func212,by kernel_rfl,by kernel_rfl⟩
theorem Zdu : Enters Tg 213 := ⟨Tryz.f213,Tryz.func213,by kernel_rfl,by kernel_rfl⟩
theorem Zdv : Enters Tg 205 := ⟨Tryz.f205,Tryz.func205,by kernel_rfl,by kernel_rfl⟩
theorem Zdw : Enters Tg 206 := ⟨Tryz.f206,Tryz.func206,by kernel_rfl,by kernel_rfl⟩
theorem Zb3 : Enters Tg 201 := ⟨Tryz.f201,Tryz.func201,by kernel_rfl,by kernel_rfl⟩
theorem Z43 : Enters Tg 200 := ⟨Tryz.f200,Tryz.func200,by kernel_rfl,by kernel_rfl⟩
theorem Za5 : Enters Tg 197 := ⟨Tryz.f197,Tryz.func197,by kernel_rfl,by kernel_rfl⟩
theorem Zco : Enters Tg 149 := ⟨Tryz.f149,Tryz.func149,by kernel_rfl,by kernel_rfl⟩
theorem Zcp : Enters Tg 171 := ⟨Tryz.f171,Tryz.func171,by kernel_rfl,by kernel_rfl⟩
theorem Z9o : Enters Tg 136 := ⟨Tryz.f136,Tryz.func136,by kernel_rfl,by kernel_rfl⟩
noncomputable def Zb4 : Hints := ⟨[],[(160,Tryz.f160,Z39),(179,Tryz.f179,Zdn),(189,Tryz.f189,Zbw),(196,Tryz.f196,Zck),(199,Tryz.f199,Zbx),(202,Tryz.f202,Zag),(207,Tryz.f207,Z9h),(203,Tryz.f203,Zdo),(208,Tryz.f208,Z8k),(204,Tryz.f204,Z9i),(209,Tryz.f209,Za2),(210,Tryz.f210,Zby),(211,Tryz.f211,Zbz),(215,Tryz.f215,Z9j),(212,Tryz.f212,Zf8),(213,Tryz.f213,Zdp),(205,Tryz.f205,Zdq),(206,Tryz.f206,Zdr),(201,Tryz.f201,Zb2),(200,Tryz.f200,Z42),(197,Tryz.f197,Za3),(149,Tryz.f149,Zcl),(171,Tryz.f171,Zcm),(136,Tryz.f136,Z9k)],[203,205,206,208,148]⟩
theorem Zwh {m n : Nat} {ds : List D} {d : D} (h : funD Tg Zb4 m n Z39 Tryz.f160 ds = some d) : DataSem Tg 160 ds d := Z5 (H := Zb4) SpOk.nil mixed (InlOk.cons Tryz.func160 Z59 (InlOk.cons Tryz.func179 Zds (InlOk.cons Tryz.func189 Zc0 (InlOk.cons Tryz.func196 Zcn (InlOk.cons Tryz.func199 Zc1 (InlOk.cons Tryz.func202 Zah (InlOk.cons Tryz.func207 Z9l (InlOk.cons Tryz.func203 Zdt (InlOk.cons Tryz.func208 Z8l (InlOk.cons Tryz.func204 Z9m (InlOk.cons Tryz.func209 Za4 (InlOk.cons Tryz.func210 Zc2 (InlOk.cons Tryz.func211 Zc3 (InlOk.cons Tryz.func215 Z9n (InlOk.cons Tryz.func212 Zf9 (InlOk.cons Tryz.func213 Zdu (InlOk.cons Tryz.func205 Zdv (InlOk.cons Tryz.func206 Zdw (InlOk.cons Tryz.func201 Zb3 (InlOk.cons Tryz.func200 Z43 (InlOk.cons Tryz.func197 Za5 (InlOk.cons Tryz.func149 Zco (InlOk.cons Tryz.func171 Zcp (InlOk.cons Tryz.func136 Z9o InlOk.nil)))))))))))))))))))))))) Tryz.func160 Z59 h
def Zln : List D := [(D.agg [(D.v (.int .u32 (12 : Int))),(D.v (.string (ByteArray.mk #[98])))])]
def Zlo : D := (D.tup [(D.agg [(D.v (.int .u8 (0 : Int))),(D.v (.bool false)),(D.v (.int .u32 (12 : Int))),(D.list 1 (some 1) [(D.v (.int .u8 (98 : Int)))]),(D.list 0 (some 0) [])]),zI])
theorem Z11i : funD Tg Zb4 100000 60 Z39 Tryz.f160 Zln = some Zlo := by kernel_rfl
def Z87 (ds : List D) : Option D := if isT Zln ds then some Zlo else (none)
theorem Zq1 : ∀ ds d,Z87 ds = some d → DataSem Tg 160 ds d := by
 intro ds d h
 unfold Z87 at h
 split at h
 ·rename_i ha; obtain rfl := isT_eq ha; cases h; exact Zwh Z11i
 cases h
def Z3u : FnH := ⟨[],[]⟩
def Zdx : FnH := ⟨[],[]⟩
def Zfa : FnH := ⟨[],[]⟩
def Zdy : FnH := ⟨[],[]⟩
def Zc4 : FnH := ⟨[],[]⟩
def Zai : FnH := ⟨[],[]⟩
def Zgk : FnH := ⟨[],[]⟩
def Z9p : FnH := ⟨[],[]⟩
def Zaj : FnH := ⟨[],[]⟩
def Zb5 : FnH := ⟨[],[]⟩
def Zdz : FnH := ⟨[(38,⟨(bm 47890485652059026823698344598447161988085597568237568 187),[],none⟩),(5,⟨(bm 1923 187),[],none⟩),(12,⟨(bm 6019 187),[],none⟩),(25,⟨(bm 50049 187),[],none⟩),(29,⟨(bm 115585 187),[],none⟩)],[]⟩
def Ze0 : FnH := ⟨[],[]⟩
def Zak : FnH := ⟨[],[]⟩
def Zhz : FnH := ⟨[],[]⟩
def Zgl : FnH := ⟨[],[]⟩
def Zgm : FnH := ⟨[],[]⟩
def Zgn : FnH := ⟨[],[]⟩
def Zcq : FnH := ⟨[],[]⟩
def Z48 : FnH := ⟨[(2,⟨(bm 387 19),[],none⟩)],[]⟩
def Zb6 : FnH := ⟨[(4,⟨(bm 2052 20),[],none⟩)],[]⟩
def Zfb : FnH := ⟨[(1,⟨(bm 1 169),[],none⟩),(9,⟨(bm 1 169),[],none⟩)],[]⟩
def Zfc : FnH := ⟨[],[]⟩
theorem Z69 : Enters Tg 177 := ⟨Tryz.f177,Tryz.func177,by kernel_rfl,by kernel_rfl⟩
theorem Ze1 : Enters Tg 189 := ⟨Tryz.f189,Tryz.func189,by kernel_rfl,by kernel_rfl⟩
theorem Zfd : Enters Tg 196 := ⟨Tryz.f196,Tryz.func196,by kernel_rfl,by kernel_rfl⟩
theorem Ze2 : Enters Tg 199 := ⟨Tryz.f199,Tryz.func199,by kernel_rfl,by kernel_rfl⟩
theorem Zc5 : Enters Tg 202 := ⟨Tryz.f202,Tryz.func202,by kernel_rfl,by kernel_rfl⟩
theorem Zal : Enters Tg 207 := ⟨Tryz.f207,Tryz.func207,by kernel_rfl,by kernel_rfl⟩
theorem Zgo : Enters Tg 203 := ⟨Tryz.f203,Tryz.func203,by kernel_rfl,by kernel_rfl⟩
theorem Z9q : Enters Tg 208 := ⟨Tryz.f208,Tryz.func208,by kernel_rfl,by kernel_rfl⟩
theorem Zam : Enters Tg 204 := ⟨Tryz.f204,Tryz.func204,by kernel_rfl,by kernel_rfl⟩
theorem Zb7 : Enters Tg 209 := ⟨Tryz.f209,Tryz.func209,by kernel_rfl,by kernel_rfl⟩
theorem Ze3 : Enters Tg 210 := ⟨Tryz.f210,Tryz.func210,by kernel_rfl,by kernel_rfl⟩
theorem Ze4 : Enters Tg 211 := ⟨Tryz.f211,Tryz.func211,by kernel_rfl,by kernel_rfl⟩
theorem Zan : Enters Tg 215 := ⟨Tryz.f215,Tryz.func215,by kernel_rfl,by kernel_rfl⟩
theorem Zi0 : Enters Tg 212 := ⟨Tryz.f212,Tryz.func212,by kernel_rfl,by kernel_rfl⟩
theorem Zgp : Enters Tg 213 := ⟨Tryz.f213,Tryz.func213,by kernel_rfl,by kernel_rfl⟩
theorem Zgq : Enters Tg 205 := ⟨Tryz.f205,Tryz.func205,by kernel_rfl,by kernel_rfl⟩
theorem Zgr : Enters Tg 206 := ⟨Tryz.f206,Tryz.func206,by kernel_rfl,by kernel_rfl⟩
theorem Zcr : Enters Tg 201 := ⟨Tryz.f201,Tryz.func201,by kernel_rfl,by kernel_rfl⟩
theorem Z49 : Enters Tg 200 := ⟨Tryz.f200,Tryz.func200,by kernel_rfl,by kernel_rfl⟩
theorem Zb8 : Enters Tg 197 := ⟨Tryz.f197,Tryz.func197,by kernel_rfl,by kernel_rfl⟩
theorem Zfe : Enters Tg 149 := ⟨Tryz.f149,Tryz.func149,by kernel_rfl,by kernel_rfl⟩
theorem Zff : Enters Tg 171 := ⟨Tryz.f171,Tryz.func171,by kernel_rfl,by kernel_rfl⟩
noncomputable def Zfg : Hints := ⟨[],[(177,Tryz.f177,Z3u),(189,Tryz.f189,Zdx),(196,Tryz.f196,Zfa),(199,Tryz.f199,Zdy),(202,Tryz.f202,Zc4),(207,Tryz.f207,Zai),(203,Tryz.f203,Zgk),(208,Tryz.f208,Z9p),(204,Tryz.f204,Zaj),(209,Tryz.f209,Zb5),(210,Tryz.f210,Zdz),(211,Tryz.f211,Ze0),(215,Tryz.f215,Zak),(212,Tryz.f212,Zhz),(213,Tryz.f213,Zgl),(205,Tryz.f205,Zgm),(206,Tryz.f206,Zgn),(201,Tryz.f201,Zcq),(200,Tryz.f200,Z48),(197,Tryz.f197,Zb6),(149,Tryz.f149,Zfb),(171,Tryz.f171,Zfc)],[203,205,206,208,148]⟩
theorem Z107 {m n : Nat} {ds : List D} {d : D} (h : funD Tg Zfg m n Z3u Tryz.f177 ds = some d) : DataSem Tg 177 ds d := Z5 (H := Zfg) SpOk.nil mixed (InlOk.cons Tryz.func177 Z69 (InlOk.cons Tryz.func189 Ze1 (InlOk.cons Tryz.func196 Zfd (InlOk.cons Tryz.func199 Ze2 (InlOk.cons Tryz.func202 Zc5 (InlOk.cons Tryz.func207 Zal (InlOk.cons Tryz.func203 Zgo (InlOk.cons Tryz.func208 Z9q (InlOk.cons Tryz.func204 Zam (InlOk.cons Tryz.func209 Zb7 (InlOk.cons Tryz.func210 Ze3 (InlOk.cons Tryz.func211 Ze4 (InlOk.cons Tryz.func215 Zan (InlOk.cons Tryz.func212 Zi0 (InlOk.cons Tryz.func213 Zgp (InlOk.cons Tryz.func205 Zgq (InlOk.cons Tryz.func206 Zgr (InlOk.cons Tryz.func201 Zcr (InlOk.cons Tryz.func200 Z49 (InlOk.cons Tryz.func197 Zb8 (InlOk.cons Tryz.func149 Zfe (InlOk.cons Tryz.func171 Zff InlOk.nil)))))))))))))))))))))) Tryz.func177 Z69 h
def Zq2 : List D := [(D.agg [(D.v (.int .u32 (12 : Int))),(D.v (.string (ByteArray.mk #[98])))])]
def Zq3 : D := zI
theorem Z16c : funD Tg Zfg 100000 60 Z3u Tryz.f177 Zq2 = some Zq3 := by kernel_rfl
def Z7d (ds : List D) : Option D := if isT Zq2 ds then some Zq3 else (none)
theorem Zi1 : ∀ ds d,Z7d ds = some d → DataSem Tg 177 ds d := by
 intro ds d h
 unfold Z7d at h
 split at h
 ·rename_i ha; obtain rfl := isT_eq ha; cases h; exact Z107 Z16c
 cases h
def Z3f : FnH := ⟨[],[]⟩
def Z9r : FnH := ⟨[(2,⟨(bm 20 10),[],none⟩)],[]⟩
theorem Z5w : Enters Tg 178 := ⟨Tryz.f178,Tryz.func178,by kernel_rfl,by kernel_rfl⟩
theorem Z9s : Enters Tg 190 := ⟨Tryz.f190,Tryz.func190,by kernel_rfl,by kernel_rfl⟩
noncomputable def Zcs : Hints := ⟨[(177,Z7d)],[(178,Tryz.f178,Z3f),(190,Tryz.f190,Z9r)],[203,205,206,208,148]⟩
theorem Zxu {m n : Nat} {ds : List D} {d : D} (h : funD Tg Zcs m n Z3f Tryz.f178 ds = some d) : DataSem Tg 178 ds d := Z5 (H := Zcs) (SpOk.cons Zi1 SpOk.nil) mixed (InlOk.cons Tryz.func178 Z5w (InlOk.cons Tryz.func190 Z9s InlOk.nil)) Tryz.func178 Z5w h
def Zn7 : List D := [(D.agg [(D.v (.int .u32 (12 : Int))),(D.v (.string (ByteArray.mk #[98])))])]
def Zn8 : D := (D.v (.int .i64 (1 : Int)))
theorem Z13j : funD Tg Zcs 100000 60 Z3f Tryz.f178 Zn7 = some Zn8 := by kernel_rfl
def Z8m (ds : List D) : Option D := if isT Zn7 ds then some Zn8 else (none)
theorem Zs1 : ∀ ds d,Z8m ds = some d → DataSem Tg 178 ds d := by
 intro ds d h
 unfold Z8m at h
 split at h
 ·rename_i ha; obtain rfl := isT_eq ha; cases h; exact Zxu Z13j
 cases h
def Z3b : FnH := ⟨[],[]⟩
theorem Zhl : Enters Tg 185 := ⟨Tryz.f185,Tryz.func185,by kernel_rfl,by kernel_rfl⟩
noncomputable def Zce : Hints := ⟨[],[(185,Tryz.f185,Z3b)],[203,205,206,208,148]⟩
theorem Zd2 {m n : Nat} {ds : List D} {d : D} (h : funD Tg Zce m n Z3b Tryz.f185 ds = some d) : DataSem Tg 185 ds d := Z5 (H := Zce) SpOk.nil mixed (InlOk.cons Tryz.func185 Zhl InlOk.nil) Tryz.func185 Zhl h
def Z16x : List D := [(D.agg [(D.v (.int .u8 (0 : Int))),(D.v (.bool true)),(D.v (.int .u32 (16 : Int)))])]
def Z16y : D := zI
def Z16z : List D := [(D.agg [(D.v (.int .u8 (0 : Int))),(D.v (.bool false)),(D.v (.int .u32 (6 : Int)))])]
def Z170 : D := zI
def Z171 : List D := [(D.agg [(D.v (.int .u8 (0 : Int))),(D.v (.bool false)),(D.v (.int .u32 (22 : Int)))])]
def Z172 : D := zI
def Z173 : List D := [(D.agg [(D.v (.int .u8 (0 : Int))),(D.v (.bool false)),(D.v (.int .u32 (12 : Int)))])]
def Z174 : D := zI
theorem Z1lw : funD Tg Zce 100000 60 Z3b Tryz.f185 Z16x = some Z16y := by kernel_rfl
theorem Z1lx : funD Tg Zce 100000 60 Z3b Tryz.f185 Z16z = some Z170 := by kernel_rfl
theorem Z1ly : funD Tg Zce 100000 60 Z3b Tryz.f185 Z171 = some Z172 := by kernel_rfl
theorem Z1lz : funD Tg Zce 100000 60 Z3b Tryz.f185 Z173 = some Z174 := by kernel_rfl
def Zgs (ds : List D) : Option D := if isT Z16x ds then some Z16y else (if isT Z16z ds then some Z170 else (if isT Z171 ds then some Z172 else (if isT Z173 ds then some Z174 else (none))))
theorem Zuv : ∀ ds d,Zgs ds = some d → DataSem Tg 185 ds d := by
 intro ds d h
 unfold Zgs at h
 split at h
 ·rename_i ha; obtain rfl := isT_eq ha; cases h; exact Zd2 Z1lw
 split at h
 ·rename_i ha; obtain rfl := isT_eq ha; cases h; exact Zd2 Z1lx
 split at h
 ·rename_i ha; obtain rfl := isT_eq ha; cases h; exact Zd2 Z1ly
 split at h
 ·rename_i ha; obtain rfl := isT_eq ha; cases h; exact Zd2 Z1lz
 cases h
def Z4a : FnH := ⟨[],[]⟩
def Ze5 : FnH := ⟨[],[]⟩
def Ze6 : FnH := ⟨[(4,⟨(bm 14336 24),[(11,1)],none⟩)],[]⟩
def Ze7 : FnH := ⟨[],[]⟩
def Zb9 : FnH := ⟨[],[]⟩
def Ze8 : FnH := ⟨[],[]⟩
def Zfh : FnH := ⟨[],[]⟩
def Zc6 : FnH := ⟨[],[]⟩
def Z7o : FnH := ⟨[],[]⟩
def Z8n : FnH := ⟨[(2,⟨(bm 387 19),[],none⟩)],[]⟩
def Zao : FnH := ⟨[(8,⟨(bm 3758096566 83),[(29,1)],none⟩)],[]⟩
def Ziu : FnH := ⟨[(3,⟨(bm 73 25),[],none⟩),(8,⟨(bm 32 25),[(5,1)],none⟩)],[]⟩
def Zct : FnH := ⟨[],[]⟩
def Z6j : FnH := ⟨[],[]⟩
def Ze9 : FnH := ⟨[],[]⟩
def Zea : FnH := ⟨[],[]⟩
def Zpd : FnH := ⟨[(6,⟨(bm 1924145348608 47),[(38,1)],none⟩)],[]⟩
def Zm5 : FnH := ⟨[],[]⟩
def Zkf : FnH := ⟨[],[]⟩
def Zi2 : FnH := ⟨[],[]⟩
def Za6 : FnH := ⟨[(25,⟨(bm 16655 151),[],none⟩)],[]⟩
def Zs2 : FnH := ⟨[],[]⟩
def Zn9 : FnH := ⟨[(3,⟨(bm 13 43),[],none⟩)],[]⟩
def Zna : FnH := ⟨[],[]⟩
def Znb : FnH := ⟨[],[]⟩
def Zeb : FnH := ⟨[],[]⟩
theorem Z72 : Enters Tg 112 := ⟨Tryz.f112,Tryz.func112,by kernel_rfl,by kernel_rfl⟩
theorem Zec : Enters Tg 133 := ⟨Tryz.f133,Tryz.func133,by kernel_rfl,by kernel_rfl⟩
theorem Zed : Enters Tg 134 := ⟨Tryz.f134,Tryz.func134,by kernel_rfl,by kernel_rfl⟩
theorem Zee : Enters Tg 135 := ⟨Tryz.f135,Tryz.func135,by kernel_rfl,by kernel_rfl⟩
theorem Zba : Enters Tg 136 := ⟨Tryz.f136,Tryz.func136,by kernel_rfl,by kernel_rfl⟩
theorem Zef : Enters Tg 137 := ⟨Tryz.f137,Tryz.func137,by kernel_rfl,by kernel_rfl⟩
theorem Zfi : Enters Tg 138 := ⟨Tryz.f138,Tryz.func138,by kernel_rfl,by kernel_rfl⟩
theorem Zc7 : Enters Tg 159 := ⟨Tryz.f159,Tryz.func159,by kernel_rfl,by kernel_rfl⟩
theorem Z7p : Enters Tg 176 := ⟨Tryz.f176,Tryz.func176,by kernel_rfl,by kernel_rfl⟩
theorem Z8o : Enters Tg 188 := ⟨Tryz.f188,Tryz.func188,by kernel_rfl,by kernel_rfl⟩
theorem Zap : Enters Tg 139 := ⟨Tryz.f139,Tryz.func139,by kernel_rfl,by kernel_rfl⟩
theorem Ziv : Enters Tg 161 := ⟨Tryz.f161,Tryz.func161,by kernel_rfl,by kernel_rfl⟩
theorem Zcu : Enters Tg 180 := ⟨Tryz.f180,Tryz.func180,by kernel_rfl,by kernel_rfl⟩
theorem Z6k : Enters Tg 162 := ⟨Tryz.f162,Tryz.func162,by kernel_rfl,by kernel_rfl⟩
theorem Zeg : Enters Tg 140 := ⟨Tryz.f140,Tryz.func140,by kernel_rfl,by kernel_rfl⟩
theorem Zeh : Enters Tg 141 := ⟨Tryz.f141,Tryz.func141,by kernel_rfl,by kernel_rfl⟩
theorem Zpe : Enters Tg 77 := ⟨Tryz.f77,Tryz.func77,by kernel_rfl,by kernel_rfl⟩
theorem Zm6 : Enters Tg 142 := ⟨Tryz.f142,Tryz.func142,by kernel_rfl,by kernel_rfl⟩
theorem Zkg : Enters Tg 163 := ⟨Tryz.f163,Tryz.func163,by kernel_rfl,by kernel_rfl⟩
theorem Zi3 : Enters Tg 181 := ⟨Tryz.f181,Tryz.func181,by kernel_rfl,by kernel_rfl⟩
theorem Za7 : Enters Tg 182 := ⟨Tryz.f182,Tryz.func182,by kernel_rfl,by kernel_rfl⟩
theorem Zs3 : Enters Tg 191 := ⟨Tryz.f191,Tryz.func191,by kernel_rfl,by kernel_rfl⟩
theorem Znc : Enters Tg 198 := ⟨Tryz.f198,Tryz.func198,by kernel_rfl,by kernel_rfl⟩
theorem Znd : Enters Tg 192 := ⟨Tryz.f192,Tryz.func192,by kernel_rfl,by kernel_rfl⟩
theorem Zne : Enters Tg 193 := ⟨Tryz.f193,Tryz.func193,by kernel_rfl,by kernel_rfl⟩
theorem Zei : Enters Tg 143 := ⟨Tryz.f143,Tryz.func143,by kernel_rfl,by kernel_rfl⟩
noncomputable def Zi4 : Hints := ⟨[(114,Zjy),(160,Z87),(177,Z7d),(178,Z8m),(185,Zgs)],[(112,Tryz.f112,Z4a),(133,Tryz.f133,Ze5),(134,Tryz.f134,Ze6),(135,Tryz.f135,Ze7),(136,Tryz.f136,Zb9),(137,Tryz.f137,Ze8),(138,Tryz.f138,Zfh),(159,Tryz.f159,Zc6),(176,Tryz.f176,Z7o),(188,Tryz.f188,Z8n),(139,Tryz.f139,Zao),(161,Tryz.f161,Ziu),(180,Tryz.f180,Zct),(162,Tryz.f162,Z6j),(140,Tryz.f140,Ze9),(141,Tryz.f141,Zea),(77,Tryz.f77,Zpd),(142,Tryz.f142,Zm5),(163,Tryz.f163,Zkf),(181,Tryz.f181,Zi2),(182,Tryz.f182,Za6),(191,Tryz.f191,Zs2),(198,Tryz.f198,Zn9),(192,Tryz.f192,Zna),(193,Tryz.f193,Znb),(143,Tryz.f143,Zeb)],[203,205,206,208,148]⟩
theorem Z11j {m n : Nat} {ds : List D} {d : D} (h : funD Tg Zi4 m n Z4a Tryz.f112 ds = some d) : DataSem Tg 112 ds d := Z5 (H := Zi4) (SpOk.cons Z14m (SpOk.cons Zq1 (SpOk.cons Zi1 (SpOk.cons Zs1 (SpOk.cons Zuv SpOk.nil))))) mixed (InlOk.cons Tryz.func112 Z72 (InlOk.cons Tryz.func133 Zec (InlOk.cons Tryz.func134 Zed (InlOk.cons Tryz.func135 Zee (InlOk.cons Tryz.func136 Zba (InlOk.cons Tryz.func137 Zef (InlOk.cons Tryz.func138 Zfi (InlOk.cons Tryz.func159 Zc7 (InlOk.cons Tryz.func176 Z7p (InlOk.cons Tryz.func188 Z8o (InlOk.cons Tryz.func139 Zap (InlOk.cons Tryz.func161 Ziv (InlOk.cons Tryz.func180 Zcu (InlOk.cons Tryz.func162 Z6k (InlOk.cons Tryz.func140 Zeg (InlOk.cons Tryz.func141 Zeh (InlOk.cons Tryz.func77 Zpe (InlOk.cons Tryz.func142 Zm6 (InlOk.cons Tryz.func163 Zkg (InlOk.cons Tryz.func181 Zi3 (InlOk.cons Tryz.func182 Za7 (InlOk.cons Tryz.func191 Zs3 (InlOk.cons Tryz.func198 Znc (InlOk.cons Tryz.func192 Znd (InlOk.cons Tryz.func193 Zne (InlOk.cons Tryz.func143 Zei InlOk.nil)))))))))))))))))))))))))) Tryz.func112 Z72 h
def Zs4 : List D := []
def Zs5 : D := (D.agg [(D.v .nilFunc),(D.v .nilFunc),(D.v .nilFunc),(D.fn 133 []),(D.fn 134 []),(D.fn 135 []),(D.fn 137 []),(D.fn 138 []),(D.fn 139 []),(D.fn 140 []),(D.fn 141 []),(D.fn 143 [])])
theorem Z175 : funD Tg Zi4 100000 60 Z4a Tryz.f112 Zs4 = some Zs5 := by kernel_rfl
def Zkh (ds : List D) : Option D := if isT Zs4 ds then some Zs5 else (none)
theorem Z1c7 : ∀ ds d,Zkh ds = some d → DataSem Tg 112 ds d := by
 intro ds d h
 unfold Zkh at h
 split at h
 ·rename_i ha; obtain rfl := isT_eq ha; cases h; exact Z11j Z175
 cases h
def Z88 : FnH := ⟨[(8,⟨(bm 939524140 43),[(2,1),(27,1),(1002000,1)],none⟩),(11,⟨(bm 939524140 43),[],none⟩)],[]⟩
def Z11k : FnH := ⟨[(6,⟨(bm 1924145348608 47),[(38,1)],none⟩)],[]⟩
def Z13k : FnH := ⟨[],[]⟩
def Zej : FnH := ⟨[],[]⟩
def Z108 : FnH := ⟨[],[]⟩
def Zwi : FnH := ⟨[(1,⟨(bm 11 31),[],none⟩),(3,⟨(bm 11 31),[],none⟩)],[]⟩
def Zki : FnH := ⟨[],[]⟩
theorem Zq4 : Enters Tg 115 := ⟨Tryz.f115,Tryz.func115,by kernel_rfl,by kernel_rfl⟩
theorem Z11l : Enters Tg 77 := ⟨Tryz.f77,Tryz.func77,by kernel_rfl,by kernel_rfl⟩
theorem Z13l : Enters Tg 80 := ⟨Tryz.f80,Tryz.func80,by kernel_rfl,by kernel_rfl⟩
theorem Zek : Enters Tg 144 := ⟨Tryz.f144,Tryz.func144,by kernel_rfl,by kernel_rfl⟩
theorem Z109 : Enters Tg 145 := ⟨Tryz.f145,Tryz.func145,by kernel_rfl,by kernel_rfl⟩
theorem Zwj : Enters Tg 164 := ⟨Tryz.f164,Tryz.func164,by kernel_rfl,by kernel_rfl⟩
theorem Zkj : Enters Tg 136 := ⟨Tryz.f136,Tryz.func136,by kernel_rfl,by kernel_rfl⟩
noncomputable def Zyh : Hints := ⟨[],[(115,Tryz.f115,Z88),(77,Tryz.f77,Z11k),(80,Tryz.f80,Z13k),(144,Tryz.f144,Zej),(145,Tryz.f145,Z108),(164,Tryz.f164,Zwi),(136,Tryz.f136,Zki)],[203,205,206,208,148]⟩
theorem Z14n {m n : Nat} {ds : List D} {d : D} (h : funD Tg Zyh m n Z88 Tryz.f115 ds = some d) : DataSem Tg 115 ds d := Z5 (H := Zyh) SpOk.nil mixed (InlOk.cons Tryz.func115 Zq4 (InlOk.cons Tryz.func77 Z11l (InlOk.cons Tryz.func80 Z13l (InlOk.cons Tryz.func144 Zek (InlOk.cons Tryz.func145 Z109 (InlOk.cons Tryz.func164 Zwj (InlOk.cons Tryz.func136 Zkj InlOk.nil))))))) Tryz.func115 Zq4 h
def Z1dv : List D := [(D.agg [(D.v (.int .u8 (9 : Int))),(D.v (.int .u32 (1 : Int))),(D.v (.int .u32 (3 : Int))),(D.v (.int .u32 (6 : Int))),(D.v (.int .u32 (1 : Int))),(D.v (.int .u32 (5 : Int))),(D.v (.int .u32 (5 : Int))),(D.v (.int .u32 (7 : Int))),(D.v (.int .u32 (2 : Int))),(D.v (.int .u32 (1 : Int))),zU,zU,zU,zU,zU,zU,zU])]
def Z1dw : D := (D.tup [(D.list 8 (some 8) [(D.v (.int .u8 (43 : Int))),(D.v (.int .u8 (6 : Int))),(D.v (.int .u8 (1 : Int))),(D.v (.int .u8 (5 : Int))),(D.v (.int .u8 (5 : Int))),(D.v (.int .u8 (7 : Int))),(D.v (.int .u8 (2 : Int))),(D.v (.int .u8 (1 : Int)))]),zI])
def Z1dx : List D := [(D.agg [(D.v (.int .u8 (9 : Int))),(D.v (.int .u32 (1 : Int))),(D.v (.int .u32 (3 : Int))),(D.v (.int .u32 (6 : Int))),(D.v (.int .u32 (1 : Int))),(D.v (.int .u32 (5 : Int))),(D.v (.int .u32 (5 : Int))),(D.v (.int .u32 (7 : Int))),(D.v (.int .u32 (2 : Int))),(D.v (.int .u32 (2 : Int))),zU,zU,zU,zU,zU,zU,zU])]
def Z1dy : D := (D.tup [(D.list 8 (some 8) [(D.v (.int .u8 (43 : Int))),(D.v (.int .u8 (6 : Int))),(D.v (.int .u8 (1 : Int))),(D.v (.int .u8 (5 : Int))),(D.v (.int .u8 (5 : Int))),(D.v (.int .u8 (7 : Int))),(D.v (.int .u8 (2 : Int))),(D.v (.int .u8 (2 : Int)))]),zI])
theorem Z1rs : funD Tg Zyh 100000 60 Z88 Tryz.f115 Z1dv = some Z1dw := by kernel_rfl
theorem Z1rt : funD Tg Zyh 100000 60 Z88 Tryz.f115 Z1dx = some Z1dy := by kernel_rfl
def Z1c8 (ds : List D) : Option D := if isT Z1dv ds then some Z1dw else (if isT Z1dx ds then some Z1dy else (none))
theorem Z1wk : ∀ ds d,Z1c8 ds = some d → DataSem Tg 115 ds d := by
 intro ds d h
 unfold Z1c8 at h
 split at h
 ·rename_i ha; obtain rfl := isT_eq ha; cases h; exact Z14n Z1rs
 split at h
 ·rename_i ha; obtain rfl := isT_eq ha; cases h; exact Z14n Z1rt
 cases h
def Z2t : FnH := ⟨[],[]⟩
def Zel : FnH := ⟨[],[]⟩
def Zkk : FnH := ⟨[],[]⟩
def Zi5 : FnH := ⟨[(5,⟨(bm 3670026 34),[(19,5)],none⟩)],[]⟩
theorem Z73 : Enters Tg 165 := ⟨Tryz.f165,Tryz.func165,by kernel_rfl,by kernel_rfl⟩
theorem Zem : Enters Tg 184 := ⟨Tryz.f184,Tryz.func184,by kernel_rfl,by kernel_rfl⟩
theorem Zkl : Enters Tg 183 := ⟨Tryz.f183,Tryz.func183,by kernel_rfl,by kernel_rfl⟩
theorem Zi6 : Enters Tg 194 := ⟨Tryz.f194,Tryz.func194,by kernel_rfl,by kernel_rfl⟩
noncomputable def Z9x : Hints := ⟨[(185,Zgs)],[(165,Tryz.f165,Z2t),(184,Tryz.f184,Zel),(183,Tryz.f183,Zkk),(194,Tryz.f194,Zi5)],[203,205,206,208,148]⟩
theorem Zlp {m n : Nat} {ds : List D} {d : D} (h : funD Tg Z9x m n Z2t Tryz.f165 ds = some d) : DataSem Tg 165 ds d := Z5 (H := Z9x) (SpOk.cons Zuv SpOk.nil) mixed (InlOk.cons Tryz.func165 Z73 (InlOk.cons Tryz.func184 Zem (InlOk.cons Tryz.func183 Zkl (InlOk.cons Tryz.func194 Zi6 InlOk.nil)))) Tryz.func165 Z73 h
def Zs6 : List D := [(D.agg [(D.v (.int .u8 (0 : Int))),(D.v (.bool true)),(D.v (.int .u32 (16 : Int))),(D.list 0 (some 0) []),(D.list 2 (some 2) [(D.v (.int .u8 (0 : Int))),(D.v (.bool false)),(D.v (.int .u32 (6 : Int))),(D.list 8 (some 8) [(D.v (.int .u8 (43 : Int))),(D.v (.int .u8 (6 : Int))),(D.v (.int .u8 (1 : Int))),(D.v (.int .u8 (5 : Int))),(D.v (.int .u8 (5 : Int))),(D.v (.int .u8 (7 : Int))),(D.v (.int .u8 (2 : Int))),(D.v (.int .u8 (1 : Int)))]),(D.list 0 (some 0) []),(D.v (.int .u8 (0 : Int))),(D.v (.bool false)),(D.v (.int .u32 (22 : Int))),(D.list 8 (some 8) [(D.v (.int .u8 (104 : Int))),(D.v (.int .u8 (116 : Int))),(D.v (.int .u8 (116 : Int))),(D.v (.int .u8 (112 : Int))),(D.v (.int .u8 (58 : Int))),(D.v (.int .u8 (47 : Int))),(D.v (.int .u8 (47 : Int))),(D.v (.int .u8 (97 : Int)))]),(D.list 0 (some 0) [])])])]
def Zs7 : D := (D.tup [zI,(D.v (.int .i64 (3 : Int))),(D.v (.int .i64 (2 : Int)))])
def Zs8 : List D := [(D.agg [(D.v (.int .u8 (0 : Int))),(D.v (.bool true)),(D.v (.int .u32 (16 : Int))),(D.list 0 (some 0) []),(D.list 2 (some 2) [(D.v (.int .u8 (0 : Int))),(D.v (.bool false)),(D.v (.int .u32 (6 : Int))),(D.list 8 (some 8) [(D.v (.int .u8 (43 : Int))),(D.v (.int .u8 (6 : Int))),(D.v (.int .u8 (1 : Int))),(D.v (.int .u8 (5 : Int))),(D.v (.int .u8 (5 : Int))),(D.v (.int .u8 (7 : Int))),(D.v (.int .u8 (2 : Int))),(D.v (.int .u8 (2 : Int)))]),(D.list 0 (some 0) []),(D.v (.int .u8 (0 : Int))),(D.v (.bool true)),(D.v (.int .u32 (16 : Int))),(D.list 0 (some 0) []),(D.list 1 (some 1) [(D.v (.int .u8 (0 : Int))),(D.v (.bool false)),(D.v (.int .u32 (12 : Int))),(D.list 1 (some 1) [(D.v (.int .u8 (98 : Int)))]),(D.list 0 (some 0) [])])])])]
def Zs9 : D := (D.tup [zI,(D.v (.int .i64 (4 : Int))),(D.v (.int .i64 (3 : Int)))])
theorem Z176 : funD Tg Z9x 100000 60 Z2t Tryz.f165 Zs6 = some Zs7 := by kernel_rfl
theorem Z177 : funD Tg Z9x 100000 60 Z2t Tryz.f165 Zs8 = some Zs9 := by kernel_rfl
def Zkm (ds : List D) : Option D := if isT Zs6 ds then some Zs7 else (if isT Zs8 ds then some Zs9 else (none))
theorem Z1c9 : ∀ ds d,Zkm ds = some d → DataSem Tg 165 ds d := by
 intro ds d h
 unfold Zkm at h
 split at h
 ·rename_i ha; obtain rfl := isT_eq ha; cases h; exact Zlp Z176
 split at h
 ·rename_i ha; obtain rfl := isT_eq ha; cases h; exact Zlp Z177
 cases h
def Z2b : FnH := ⟨[],[]⟩
def Zgt : FnH := ⟨[],[]⟩
theorem Zd3 : Enters Tg 170 := ⟨Tryz.f170,Tryz.func170,by kernel_rfl,by kernel_rfl⟩
theorem Zgu : Enters Tg 136 := ⟨Tryz.f136,Tryz.func136,by kernel_rfl,by kernel_rfl⟩
noncomputable def Z7q : Hints := ⟨[],[(170,Tryz.f170,Z2b),(136,Tryz.f136,Zgt)],[203,205,206,208,148]⟩
theorem Z7r {m n : Nat} {ds : List D} {d : D} (h : funD Tg Z7q m n Z2b Tryz.f170 ds = some d) : DataSem Tg 170 ds d := Z5 (H := Z7q) SpOk.nil mixed (InlOk.cons Tryz.func170 Zd3 (InlOk.cons Tryz.func136 Zgu InlOk.nil)) Tryz.func170 Zd3 h
def Z14o : List D := [(D.v (.int .i64 (8 : Int)))]
def Z14p : D := (D.tup [(D.list 1 (some 1) [(D.v (.int .u8 (8 : Int)))]),zI])
def Z14q : List D := [(D.v (.int .i64 (20 : Int)))]
def Z14r : D := (D.tup [(D.list 1 (some 1) [(D.v (.int .u8 (20 : Int)))]),zI])
def Z14s : List D := [(D.v (.int .i64 (1 : Int)))]
def Z14t : D := (D.tup [(D.list 1 (some 1) [(D.v (.int .u8 (1 : Int)))]),zI])
def Z14u : List D := [(D.v (.int .i64 (3 : Int)))]
def Z14v : D := (D.tup [(D.list 1 (some 1) [(D.v (.int .u8 (3 : Int)))]),zI])
def Z14w : List D := [(D.v (.int .i64 (15 : Int)))]
def Z14x : D := (D.tup [(D.list 1 (some 1) [(D.v (.int .u8 (15 : Int)))]),zI])
theorem Z1ix : funD Tg Z7q 100000 60 Z2b Tryz.f170 Z14o = some Z14p := by kernel_rfl
theorem Z1iy : funD Tg Z7q 100000 60 Z2b Tryz.f170 Z14q = some Z14r := by kernel_rfl
theorem Z1iz : funD Tg Z7q 100000 60 Z2b Tryz.f170 Z14s = some Z14t := by kernel_rfl
theorem Z1j0 : funD Tg Z7q 100000 60 Z2b Tryz.f170 Z14u = some Z14v := by kernel_rfl
theorem Z1j1 : funD Tg Z7q 100000 60 Z2b Tryz.f170 Z14w = some Z14x := by kernel_rfl
def Zrb (ds : List D) : Option D := if isT Z14o ds then some Z14p else (if isT Z14q ds then some Z14r else (if isT Z14s ds then some Z14t else (if isT Z14u ds then some Z14v else (if isT Z14w ds then some Z14x else (none)))))
theorem Z1av : ∀ ds d,Zrb ds = some d → DataSem Tg 170 ds d := by
 intro ds d h
 unfold Zrb at h
 split at h
 ·rename_i ha; obtain rfl := isT_eq ha; cases h; exact Z7r Z1ix
 split at h
 ·rename_i ha; obtain rfl := isT_eq ha; cases h; exact Z7r Z1iy
 split at h
 ·rename_i ha; obtain rfl := isT_eq ha; cases h; exact Z7r Z1iz
 split at h
 ·rename_i ha; obtain rfl := isT_eq ha; cases h; exact Z7r Z1j0
 split at h
 ·rename_i ha; obtain rfl := isT_eq ha; cases h; exact Z7r Z1j1
 cases h
def Z1t : FnH := ⟨[],[]⟩
def Zqf : FnH := ⟨[],[]⟩
theorem Z9a : Enters Tg 167 := ⟨Tryz.f167,Tryz.func167,by kernel_rfl,by kernel_rfl⟩
theorem Zqg : Enters Tg 186 := ⟨Tryz.f186,Tryz.func186,by kernel_rfl,by kernel_rfl⟩
noncomputable def Z66 : Hints := ⟨[(170,Zrb)],[(167,Tryz.f167,Z1t),(186,Tryz.f186,Zqf)],[203,205,206,208,148]⟩
theorem Z6l {m n : Nat} {ds : List D} {d : D} (h : funD Tg Z66 m n Z1t Tryz.f167 ds = some d) : DataSem Tg 167 ds d := Z5 (H := Z66) (SpOk.cons Z1av SpOk.nil) mixed (InlOk.cons Tryz.func167 Z9a (InlOk.cons Tryz.func186 Zqg InlOk.nil)) Tryz.func167 Z9a h
def Zyi : List D := [(D.v (.int .i64 (1 : Int))),(D.v (.int .i64 (8 : Int)))]
def Zyj : D := (D.v (.int .i64 (10 : Int)))
def Zyk : List D := [(D.v (.int .i64 (1 : Int))),(D.v (.int .i64 (20 : Int)))]
def Zyl : D := (D.v (.int .i64 (22 : Int)))
def Zym : List D := [(D.v (.int .i64 (1 : Int))),(D.v (.int .i64 (1 : Int)))]
def Zyn : D := (D.v (.int .i64 (3 : Int)))
def Zyo : List D := [(D.v (.int .i64 (1 : Int))),(D.v (.int .i64 (3 : Int)))]
def Zyp : D := (D.v (.int .i64 (5 : Int)))
def Zyq : List D := [(D.v (.int .i64 (1 : Int))),(D.v (.int .i64 (15 : Int)))]
def Zyr : D := (D.v (.int .i64 (17 : Int)))
theorem Z1dz : funD Tg Z66 100000 60 Z1t Tryz.f167 Zyi = some Zyj := by kernel_rfl
theorem Z1e0 : funD Tg Z66 100000 60 Z1t Tryz.f167 Zyk = some Zyl := by kernel_rfl
theorem Z1e1 : funD Tg Z66 100000 60 Z1t Tryz.f167 Zym = some Zyn := by kernel_rfl
theorem Z1e2 : funD Tg Z66 100000 60 Z1t Tryz.f167 Zyo = some Zyp := by kernel_rfl
theorem Z1e3 : funD Tg Z66 100000 60 Z1t Tryz.f167 Zyq = some Zyr := by kernel_rfl
def Zjz (ds : List D) : Option D := if isT Zyi ds then some Zyj else (if isT Zyk ds then some Zyl else (if isT Zym ds then some Zyn else (if isT Zyo ds then some Zyp else (if isT Zyq ds then some Zyr else (none)))))
theorem Z14y : ∀ ds d,Zjz ds = some d → DataSem Tg 167 ds d := by
 intro ds d h
 unfold Zjz at h
 split at h
 ·rename_i ha; obtain rfl := isT_eq ha; cases h; exact Z6l Z1dz
 split at h
 ·rename_i ha; obtain rfl := isT_eq ha; cases h; exact Z6l Z1e0
 split at h
 ·rename_i ha; obtain rfl := isT_eq ha; cases h; exact Z6l Z1e1
 split at h
 ·rename_i ha; obtain rfl := isT_eq ha; cases h; exact Z6l Z1e2
 split at h
 ·rename_i ha; obtain rfl := isT_eq ha; cases h; exact Z6l Z1e3
 cases h
def Z4s : FnH := ⟨[(11,⟨(bm 76 42),[],none⟩)],[]⟩
def Z10a : FnH := ⟨[],[]⟩
def Zwk : FnH := ⟨[(1,⟨(bm 11 29),[],none⟩),(3,⟨(bm 11 29),[],none⟩)],[]⟩
def Zkn : FnH := ⟨[],[]⟩
theorem Zq5 : Enters Tg 169 := ⟨Tryz.f169,Tryz.func169,by kernel_rfl,by kernel_rfl⟩
theorem Z10b : Enters Tg 187 := ⟨Tryz.f187,Tryz.func187,by kernel_rfl,by kernel_rfl⟩
theorem Zwl : Enters Tg 195 := ⟨Tryz.f195,Tryz.func195,by kernel_rfl,by kernel_rfl⟩
theorem Zko : Enters Tg 136 := ⟨Tryz.f136,Tryz.func136,by kernel_rfl,by kernel_rfl⟩
noncomputable def Zlq : Hints := ⟨[(185,Zgs)],[(169,Tryz.f169,Z4s),(187,Tryz.f187,Z10a),(195,Tryz.f195,Zwk),(136,Tryz.f136,Zkn)],[203,205,206,208,148]⟩
theorem Zk0 {m n : Nat} {ds : List D} {d : D} (h : funD Tg Zlq m n Z4s Tryz.f169 ds = some d) : DataSem Tg 169 ds d := Z5 (H := Zlq) (SpOk.cons Zuv SpOk.nil) mixed (InlOk.cons Tryz.func169 Zq5 (InlOk.cons Tryz.func187 Z10b (InlOk.cons Tryz.func195 Zwl (InlOk.cons Tryz.func136 Zko InlOk.nil)))) Tryz.func169 Zq5 h
def Z1e4 : List D := [(D.agg [(D.v (.int .u8 (0 : Int))),(D.v (.bool false)),(D.v (.int .u32 (6 : Int)))])]
def Z1e5 : D := (D.tup [(D.list 1 (some 1) [(D.v (.int .u8 (6 : Int)))]),zI])
def Z1e6 : List D := [(D.agg [(D.v (.int .u8 (0 : Int))),(D.v (.bool false)),(D.v (.int .u32 (22 : Int)))])]
def Z1e7 : D := (D.tup [(D.list 1 (some 1) [(D.v (.int .u8 (22 : Int)))]),zI])
def Z1e8 : List D := [(D.agg [(D.v (.int .u8 (0 : Int))),(D.v (.bool true)),(D.v (.int .u32 (16 : Int)))])]
def Z1e9 : D := (D.tup [(D.list 1 (some 1) [(D.v (.int .u8 (48 : Int)))]),zI])
def Z1ea : List D := [(D.agg [(D.v (.int .u8 (0 : Int))),(D.v (.bool false)),(D.v (.int .u32 (12 : Int)))])]
def Z1eb : D := (D.tup [(D.list 1 (some 1) [(D.v (.int .u8 (12 : Int)))]),zI])
theorem Z1ru : funD Tg Zlq 100000 60 Z4s Tryz.f169 Z1e4 = some Z1e5 := by kernel_rfl
theorem Z1rv : funD Tg Zlq 100000 60 Z4s Tryz.f169 Z1e6 = some Z1e7 := by kernel_rfl
theorem Z1rw : funD Tg Zlq 100000 60 Z4s Tryz.f169 Z1e8 = some Z1e9 := by kernel_rfl
theorem Z1rx : funD Tg Zlq 100000 60 Z4s Tryz.f169 Z1ea = some Z1eb := by kernel_rfl
def Z13m (ds : List D) : Option D := if isT Z1e4 ds then some Z1e5 else (if isT Z1e6 ds then some Z1e7 else (if isT Z1e8 ds then some Z1e9 else (if isT Z1ea ds then some Z1eb else (none))))
theorem Z1m0 : ∀ ds d,Z13m ds = some d → DataSem Tg 169 ds d := by
 intro ds d h
 unfold Z13m at h
 split at h
 ·rename_i ha; obtain rfl := isT_eq ha; cases h; exact Zk0 Z1ru
 split at h
 ·rename_i ha; obtain rfl := isT_eq ha; cases h; exact Zk0 Z1rv
 split at h
 ·rename_i ha; obtain rfl := isT_eq ha; cases h; exact Zk0 Z1rw
 split at h
 ·rename_i ha; obtain rfl := isT_eq ha; cases h; exact Zk0 Z1rx
 cases h
def Z3x : FnH := ⟨[],[]⟩
theorem Zlr : Enters Tg 168 := ⟨Tryz.f168,Tryz.func168,by kernel_rfl,by kernel_rfl⟩
noncomputable def Zgv : Hints := ⟨[(169,Z13m)],[(168,Tryz.f168,Z3x)],[203,205,206,208,148]⟩
theorem Zgw {m n : Nat} {ds : List D} {d : D} (h : funD Tg Zgv m n Z3x Tryz.f168 ds = some d) : DataSem Tg 168 ds d := Z5 (H := Zgv) (SpOk.cons Z1m0 SpOk.nil) mixed (InlOk.cons Tryz.func168 Zlr InlOk.nil) Tryz.func168 Zlr h
def Z1aw : List D := [(D.agg [(D.v (.int .u8 (0 : Int))),(D.v (.bool false)),(D.v (.int .u32 (6 : Int)))])]
def Z1ax : D := (D.v (.int .i64 (1 : Int)))
def Z1ay : List D := [(D.agg [(D.v (.int .u8 (0 : Int))),(D.v (.bool false)),(D.v (.int .u32 (22 : Int)))])]
def Z1az : D := (D.v (.int .i64 (1 : Int)))
def Z1b0 : List D := [(D.agg [(D.v (.int .u8 (0 : Int))),(D.v (.bool true)),(D.v (.int .u32 (16 : Int)))])]
def Z1b1 : D := (D.v (.int .i64 (1 : Int)))
def Z1b2 : List D := [(D.agg [(D.v (.int .u8 (0 : Int))),(D.v (.bool false)),(D.v (.int .u32 (12 : Int)))])]
def Z1b3 : D := (D.v (.int .i64 (1 : Int)))
theorem Z1od : funD Tg Zgv 100000 60 Z3x Tryz.f168 Z1aw = some Z1ax := by kernel_rfl
theorem Z1oe : funD Tg Zgv 100000 60 Z3x Tryz.f168 Z1ay = some Z1az := by kernel_rfl
theorem Z1of : funD Tg Zgv 100000 60 Z3x Tryz.f168 Z1b0 = some Z1b1 := by kernel_rfl
theorem Z1og : funD Tg Zgv 100000 60 Z3x Tryz.f168 Z1b2 = some Z1b3 := by kernel_rfl
def Zys (ds : List D) : Option D := if isT Z1aw ds then some Z1ax else (if isT Z1ay ds then some Z1az else (if isT Z1b0 ds then some Z1b1 else (if isT Z1b2 ds then some Z1b3 else (none))))
theorem Z1ig : ∀ ds d,Zys ds = some d → DataSem Tg 168 ds d := by
 intro ds d h
 unfold Zys at h
 split at h
 ·rename_i ha; obtain rfl := isT_eq ha; cases h; exact Zgw Z1od
 split at h
 ·rename_i ha; obtain rfl := isT_eq ha; cases h; exact Zgw Z1oe
 split at h
 ·rename_i ha; obtain rfl := isT_eq ha; cases h; exact Zgw Z1of
 split at h
 ·rename_i ha; obtain rfl := isT_eq ha; cases h; exact Zgw Z1og
 cases h
def Zu : FnH := ⟨[(5,⟨(bm 114696 27),[(14,5)],none⟩)],[]⟩
def Zkp : FnH := ⟨[],[]⟩
theorem Z74 : Enters Tg 166 := ⟨Tryz.f166,Tryz.func166,by kernel_rfl,by kernel_rfl⟩
theorem Zkq : Enters Tg 147 := ⟨Tryz.f147,Tryz.func147,by kernel_rfl,by kernel_rfl⟩
noncomputable def Z2w : Hints := ⟨[(167,Zjz),(168,Zys)],[(166,Tryz.f166,Zu),(147,Tryz.f147,Zkp)],[203,205,206,208,148]⟩
theorem Z2y {m n : Nat} {ds : List D} {d : D} (h : funD Tg Z2w m n Zu Tryz.f166 ds = some d) : DataSem Tg 166 ds d := Z5 (H := Z2w) (SpOk.cons Z14y (SpOk.cons Z1ig SpOk.nil)) mixed (InlOk.cons Tryz.func166 Z74 (InlOk.cons Tryz.func147 Zkq InlOk.nil)) Tryz.func166 Z74 h
def Zsa : List D := [(D.agg [(D.v (.int .u8 (0 : Int))),(D.v (.bool true)),(D.v (.int .u32 (16 : Int))),(D.list 0 (some 0) []),(D.list 2 (some 2) [(D.v (.int .u8 (0 : Int))),(D.v (.bool false)),(D.v (.int .u32 (6 : Int))),(D.list 8 (some 8) [(D.v (.int .u8 (43 : Int))),(D.v (.int .u8 (6 : Int))),(D.v (.int .u8 (1 : Int))),(D.v (.int .u8 (5 : Int))),(D.v (.int .u8 (5 : Int))),(D.v (.int .u8 (7 : Int))),(D.v (.int .u8 (2 : Int))),(D.v (.int .u8 (1 : Int)))]),(D.list 0 (some 0) []),(D.v (.int .u8 (0 : Int))),(D.v (.bool false)),(D.v (.int .u32 (22 : Int))),(D.list 8 (some 8) [(D.v (.int .u8 (104 : Int))),(D.v (.int .u8 (116 : Int))),(D.v (.int .u8 (116 : Int))),(D.v (.int .u8 (112 : Int))),(D.v (.int .u8 (58 : Int))),(D.v (.int .u8 (47 : Int))),(D.v (.int .u8 (47 : Int))),(D.v (.int .u8 (97 : Int)))]),(D.list 0 (some 0) [])])])]
def Zsb : D := (D.v (.int .i64 (20 : Int)))
def Zsc : List D := [(D.agg [(D.v (.int .u8 (0 : Int))),(D.v (.bool false)),(D.v (.int .u32 (6 : Int))),(D.list 8 (some 8) [(D.v (.int .u8 (43 : Int))),(D.v (.int .u8 (6 : Int))),(D.v (.int .u8 (1 : Int))),(D.v (.int .u8 (5 : Int))),(D.v (.int .u8 (5 : Int))),(D.v (.int .u8 (7 : Int))),(D.v (.int .u8 (2 : Int))),(D.v (.int .u8 (1 : Int)))]),(D.list 0 (some 0) [])])]
def Zsd : D := (D.v (.int .i64 (8 : Int)))
def Zse : List D := [(D.agg [(D.v (.int .u8 (0 : Int))),(D.v (.bool false)),(D.v (.int .u32 (22 : Int))),(D.list 8 (some 8) [(D.v (.int .u8 (104 : Int))),(D.v (.int .u8 (116 : Int))),(D.v (.int .u8 (116 : Int))),(D.v (.int .u8 (112 : Int))),(D.v (.int .u8 (58 : Int))),(D.v (.int .u8 (47 : Int))),(D.v (.int .u8 (47 : Int))),(D.v (.int .u8 (97 : Int)))]),(D.list 0 (some 0) [])])]
def Zsf : D := (D.v (.int .i64 (8 : Int)))
def Zsg : List D := [(D.agg [(D.v (.int .u8 (0 : Int))),(D.v (.bool true)),(D.v (.int .u32 (16 : Int))),(D.list 0 (some 0) []),(D.list 2 (some 2) [(D.v (.int .u8 (0 : Int))),(D.v (.bool false)),(D.v (.int .u32 (6 : Int))),(D.list 8 (some 8) [(D.v (.int .u8 (43 : Int))),(D.v (.int .u8 (6 : Int))),(D.v (.int .u8 (1 : Int))),(D.v (.int .u8 (5 : Int))),(D.v (.int .u8 (5 : Int))),(D.v (.int .u8 (7 : Int))),(D.v (.int .u8 (2 : Int))),(D.v (.int .u8 (2 : Int)))]),(D.list 0 (some 0) []),(D.v (.int .u8 (0 : Int))),(D.v (.bool true)),(D.v (.int .u32 (16 : Int))),(D.list 0 (some 0) []),(D.list 1 (some 1) [(D.v (.int .u8 (0 : Int))),(D.v (.bool false)),(D.v (.int .u32 (12 : Int))),(D.list 1 (some 1) [(D.v (.int .u8 (98 : Int)))]),(D.list 0 (some 0) [])])])])]
def Zsh : D := (D.v (.int .i64 (15 : Int)))
def Zsi : List D := [(D.agg [(D.v (.int .u8 (0 : Int))),(D.v (.bool false)),(D.v (.int .u32 (6 : Int))),(D.list 8 (some 8) [(D.v (.int .u8 (43 : Int))),(D.v (.int .u8 (6 : Int))),(D.v (.int .u8 (1 : Int))),(D.v (.int .u8 (5 : Int))),(D.v (.int .u8 (5 : Int))),(D.v (.int .u8 (7 : Int))),(D.v (.int .u8 (2 : Int))),(D.v (.int .u8 (2 : Int)))]),(D.list 0 (some 0) [])])]
def Zsj : D := (D.v (.int .i64 (8 : Int)))
def Zsk : List D := [(D.agg [(D.v (.int .u8 (0 : Int))),(D.v (.bool true)),(D.v (.int .u32 (16 : Int))),(D.list 0 (some 0) []),(D.list 1 (some 1) [(D.v (.int .u8 (0 : Int))),(D.v (.bool false)),(D.v (.int .u32 (12 : Int))),(D.list 1 (some 1) [(D.v (.int .u8 (98 : Int)))]),(D.list 0 (some 0) [])])])]
def Zsl : D := (D.v (.int .i64 (3 : Int)))
def Zsm : List D := [(D.agg [(D.v (.int .u8 (0 : Int))),(D.v (.bool false)),(D.v (.int .u32 (12 : Int))),(D.list 1 (some 1) [(D.v (.int .u8 (98 : Int)))]),(D.list 0 (some 0) [])])]
def Zsn : D := (D.v (.int .i64 (1 : Int)))
theorem Z178 : funD Tg Z2w 100000 60 Zu Tryz.f166 Zsa = some Zsb := by kernel_rfl
theorem Z179 : funD Tg Z2w 100000 60 Zu Tryz.f166 Zsc = some Zsd := by kernel_rfl
theorem Z17a : funD Tg Z2w 100000 60 Zu Tryz.f166 Zse = some Zsf := by kernel_rfl
theorem Z17b : funD Tg Z2w 100000 60 Zu Tryz.f166 Zsg = some Zsh := by kernel_rfl
theorem Z17c : funD Tg Z2w 100000 60 Zu Tryz.f166 Zsi = some Zsj := by kernel_rfl
theorem Z17d : funD Tg Z2w 100000 60 Zu Tryz.f166 Zsk = some Zsl := by kernel_rfl
theorem Z17e : funD Tg Z2w 100000 60 Zu Tryz.f166 Zsm = some Zsn := by kernel_rfl
def Zkr (ds : List D) : Option D := if isT Zsa ds then some Zsb else (if isT Zsc ds then some Zsd else (if isT Zse ds then some Zsf else (if isT Zsg ds then some Zsh else (if isT Zsi ds then some Zsj else (if isT Zsk ds then some Zsl else (if isT Zsm ds then some Zsn else (none)))))))
theorem Z1ca : ∀ ds d,Zkr ds = some d → DataSem Tg 166 ds d := by
 intro ds d h
 unfold Zkr at h
 split at h
 ·rename_i ha; obtain rfl := isT_eq ha; cases h; exact Z2y Z178
 split at h
 ·rename_i ha; obtain rfl := isT_eq ha; cases h; exact Z2y Z179
 split at h
 ·rename_i ha; obtain rfl := isT_eq ha; cases h; exact Z2y Z17a
 split at h
 ·rename_i ha; obtain rfl := isT_eq ha; cases h; exact Z2y Z17b
 split at h
 ·rename_i ha; obtain rfl := isT_eq ha; cases h; exact Z2y Z17c
 split at h
 ·rename_i ha; obtain rfl := isT_eq ha; cases h; exact Z2y Z17d
 split at h
 ·rename_i ha; obtain rfl := isT_eq ha; cases h; exact Z2y Z17e
 cases h
def Z2u : FnH := ⟨[],[]⟩
def Ziw : FnH := ⟨[],[]⟩
def Zen : FnH := ⟨[],[]⟩
def Zeo : FnH := ⟨[(4,⟨(bm 14336 24),[(11,1)],none⟩)],[]⟩
def Zep : FnH := ⟨[],[]⟩
def Zbb : FnH := ⟨[],[]⟩
def Zeq : FnH := ⟨[],[]⟩
def Zfj : FnH := ⟨[],[]⟩
def Zc8 : FnH := ⟨[],[]⟩
def Z7s : FnH := ⟨[],[]⟩
def Z8p : FnH := ⟨[(2,⟨(bm 387 19),[],none⟩)],[]⟩
def Zaq : FnH := ⟨[(8,⟨(bm 3758096566 83),[(29,1)],none⟩)],[]⟩
def Zix : FnH := ⟨[(3,⟨(bm 73 25),[],none⟩),(8,⟨(bm 32 25),[(5,1)],none⟩)],[]⟩
def Zcv : FnH := ⟨[],[]⟩
def Z6m : FnH := ⟨[],[]⟩
def Zer : FnH := ⟨[],[]⟩
def Zes : FnH := ⟨[],[]⟩
def Zpf : FnH := ⟨[(6,⟨(bm 1924145348608 47),[(38,1)],none⟩)],[]⟩
def Zm7 : FnH := ⟨[],[]⟩
def Zks : FnH := ⟨[],[]⟩
def Zi7 : FnH := ⟨[],[]⟩
def Za8 : FnH := ⟨[(25,⟨(bm 16655 151),[],none⟩)],[]⟩
def Zso : FnH := ⟨[],[]⟩
def Znf : FnH := ⟨[(3,⟨(bm 13 43),[],none⟩)],[]⟩
def Zng : FnH := ⟨[],[]⟩
def Znh : FnH := ⟨[],[]⟩
def Zet : FnH := ⟨[],[]⟩
def Zi8 : FnH := ⟨[],[]⟩
def Zm8 : FnH := ⟨[],[]⟩
def Ziy : FnH := ⟨[],[]⟩
def Zkt : FnH := ⟨[],[]⟩
def Zm9 : FnH := ⟨[(6,⟨(bm 60129542145 44),[(0,1),(33,5)],none⟩)],[]⟩
theorem Z75 : Enters Tg 78 := ⟨Tryz.f78,Tryz.func78,by kernel_rfl,by kernel_rfl⟩
theorem Ziz : Enters Tg 99 := ⟨Tryz.f99,Tryz.func99,by kernel_rfl,by kernel_rfl⟩
theorem Zeu : Enters Tg 133 := ⟨Tryz.f133,Tryz.func133,by kernel_rfl,by kernel_rfl⟩
theorem Zev : Enters Tg 134 := ⟨Tryz.f134,Tryz.func134,by kernel_rfl,by kernel_rfl⟩
theorem Zew : Enters Tg 135 := ⟨Tryz.f135,Tryz.func135,by kernel_rfl,by kernel_rfl⟩
theorem Zbc : Enters Tg 136 := ⟨Tryz.f136,Tryz.func136,by kernel_rfl,by kernel_rfl⟩
theorem Zex : Enters Tg 137 := ⟨Tryz.f137,Tryz.func137,by kernel_rfl,by kernel_rfl⟩
theorem Zfk : Enters Tg 138 := ⟨Tryz.f138,Tryz.func138,by kernel_rfl,by kernel_rfl⟩
theorem Zc9 : Enters Tg 159 := ⟨Tryz.f159,Tryz.func159,by kernel_rfl,by kernel_rfl⟩
theorem Z7t : Enters Tg 176 := ⟨Tryz.f176,Tryz.func176,by kernel_rfl,by kernel_rfl⟩
theorem Z8q : Enters Tg 188 := ⟨Tryz.f188,Tryz.func188,by kernel_rfl,by kernel_rfl⟩
theorem Zar : Enters Tg 139 := ⟨Tryz.f139,Tryz.func139,by kernel_rfl,by kernel_rfl⟩
theorem Zj0 : Enters Tg 161 := ⟨Tryz.f161,Tryz.func161,by kernel_rfl,by kernel_rfl⟩
theorem Zcw : Enters Tg 180 := ⟨Tryz.f180,Tryz.func180,by kernel_rfl,by kernel_rfl⟩
theorem Z6n : Enters Tg 162 := ⟨Tryz.f162,Tryz.func162,by kernel_rfl,by kernel_rfl⟩
theorem Zey : Enters Tg 140 := ⟨Tryz.f140,Tryz.func140,by kernel_rfl,by kernel_rfl⟩
theorem Zez : Enters Tg 141 := ⟨Tryz.f141,Tryz.func141,by kernel_rfl,by kernel_rfl⟩
theorem Zpg : Enters Tg 77 := ⟨Tryz.f77,Tryz.func77,by kernel_rfl,by kernel_rfl⟩
theorem Zma : Enters Tg 142 := ⟨Tryz.f142,Tryz.func142,by kernel_rfl,by kernel_rfl⟩
theorem Zku : Enters Tg 163 := ⟨Tryz.f163,Tryz.func163,by kernel_rfl,by kernel_rfl⟩
theorem Zi9 : Enters Tg 181 := ⟨Tryz.f181,Tryz.func181,by kernel_rfl,by kernel_rfl⟩
theorem Za9 : Enters Tg 182 := ⟨Tryz.f182,Tryz.func182,by kernel_rfl,by kernel_rfl⟩
theorem Zsp : Enters Tg 191 := ⟨Tryz.f191,Tryz.func191,by kernel_rfl,by kernel_rfl⟩
theorem Zni : Enters Tg 198 := ⟨Tryz.f198,Tryz.func198,by kernel_rfl,by kernel_rfl⟩
theorem Znj : Enters Tg 192 := ⟨Tryz.f192,Tryz.func192,by kernel_rfl,by kernel_rfl⟩
theorem Znk : Enters Tg 193 := ⟨Tryz.f193,Tryz.func193,by kernel_rfl,by kernel_rfl⟩
theorem Zf0 : Enters Tg 143 := ⟨Tryz.f143,Tryz.func143,by kernel_rfl,by kernel_rfl⟩
theorem Zia : Enters Tg 113 := ⟨Tryz.f113,Tryz.func113,by kernel_rfl,by kernel_rfl⟩
theorem Zmb : Enters Tg 116 := ⟨Tryz.f116,Tryz.func116,by kernel_rfl,by kernel_rfl⟩
theorem Zj1 : Enters Tg 146 := ⟨Tryz.f146,Tryz.func146,by kernel_rfl,by kernel_rfl⟩
theorem Zkv : Enters Tg 147 := ⟨Tryz.f147,Tryz.func147,by kernel_rfl,by kernel_rfl⟩
theorem Zmc : Enters Tg 148 := ⟨Tryz.f148,Tryz.func148,by kernel_rfl,by kernel_rfl⟩
noncomputable def Z9y : Hints := ⟨[(112,Zkh),(114,Zjy),(115,Z1c8),(160,Z87),(165,Zkm),(166,Zkr),(167,Zjz),(168,Zys),(169,Z13m),(170,Zrb),(177,Z7d),(178,Z8m),(185,Zgs)],[(78,Tryz.f78,Z2u),(99,Tryz.f99,Ziw),(133,Tryz.f133,Zen),(134,Tryz.f134,Zeo),(135,Tryz.f135,Zep),(136,Tryz.f136,Zbb),(137,Tryz.f137,Zeq),(138,Tryz.f138,Zfj),(159,Tryz.f159,Zc8),(176,Tryz.f176,Z7s),(188,Tryz.f188,Z8p),(139,Tryz.f139,Zaq),(161,Tryz.f161,Zix),(180,Tryz.f180,Zcv),(162,Tryz.f162,Z6m),(140,Tryz.f140,Zer),(141,Tryz.f141,Zes),(77,Tryz.f77,Zpf),(142,Tryz.f142,Zm7),(163,Tryz.f163,Zks),(181,Tryz.f181,Zi7),(182,Tryz.f182,Za8),(191,Tryz.f191,Zso),(198,Tryz.f198,Znf),(192,Tryz.f192,Zng),(193,Tryz.f193,Znh),(143,Tryz.f143,Zet),(113,Tryz.f113,Zi8),(116,Tryz.f116,Zm8),(146,Tryz.f146,Ziy),(147,Tryz.f147,Zkt),(148,Tryz.f148,Zm9)],[203,205,206,208,148]⟩
theorem Zls {m n : Nat} {ds : List D} {d : D} (h : funD Tg Z9y m n Z2u Tryz.f78 ds = some d) : DataSem Tg 78 ds d := Z5 (H := Z9y) (SpOk.cons Z1c7 (SpOk.cons Z14m (SpOk.cons Z1wk (SpOk.cons Zq1 (SpOk.cons Z1c9 (SpOk.cons Z1ca (SpOk.cons Z14y (SpOk.cons Z1ig (SpOk.cons Z1m0 (SpOk.cons Z1av (SpOk.cons Zi1 (SpOk.cons Zs1 (SpOk.cons Zuv SpOk.nil))))))))))))) mixed (InlOk.cons Tryz.func78 Z75 (InlOk.cons Tryz.func99 Ziz (InlOk.cons Tryz.func133 Zeu (InlOk.cons Tryz.func134 Zev (InlOk.cons Tryz.func135 Zew (InlOk.cons Tryz.func136 Zbc (InlOk.cons Tryz.func137 Zex (InlOk.cons Tryz.func138 Zfk (InlOk.cons Tryz.func159 Zc9 (InlOk.cons Tryz.func176 Z7t (InlOk.cons Tryz.func188 Z8q (InlOk.cons Tryz.func139 Zar (InlOk.cons Tryz.func161 Zj0 (InlOk.cons Tryz.func180 Zcw (InlOk.cons Tryz.func162 Z6n (InlOk.cons Tryz.func140 Zey (InlOk.cons Tryz.func141 Zez (InlOk.cons Tryz.func77 Zpg (InlOk.cons Tryz.func142 Zma (InlOk.cons Tryz.func163 Zku (InlOk.cons Tryz.func181 Zi9 (InlOk.cons Tryz.func182 Za9 (InlOk.cons Tryz.func191 Zsp (InlOk.cons Tryz.func198 Zni (InlOk.cons Tryz.func192 Znj (InlOk.cons Tryz.func193 Znk (InlOk.cons Tryz.func143 Zf0 (InlOk.cons Tryz.func113 Zia (InlOk.cons Tryz.func116 Zmb (InlOk.cons Tryz.func146 Zj1 (InlOk.cons Tryz.func147 Zkv (InlOk.cons Tryz.func148 Zmc InlOk.nil)))))))))))))))))))))))))))))))) Tryz.func78 Z75 h
def Zsq : List D := [(D.agg [(D.v (.int .u8 (1 : Int))),(D.v (.string (ByteArray.mk #[104,116,116,112,58,47,47,97]))),(D.v (.bool false)),zU,(D.v (.string (ByteArray.mk #[]))),(D.list 0 (some 0) []),(D.v (.bool false)),zU,(D.v (.string (ByteArray.mk #[]))),(D.v (.int .u8 (0 : Int))),zU,zU,zU,zU,zU,zU,zU,zU,zU,zU,zU,zU,zU,zU,zU,zU,(D.list 0 (some 0) [])])]
def Zsr : D := zI
def Zss : List D := [(D.agg [(D.v (.int .u8 (2 : Int))),(D.v (.string (ByteArray.mk #[]))),(D.v (.bool false)),zU,(D.v (.string (ByteArray.mk #[]))),(D.list 0 (some 0) []),(D.v (.bool true)),(D.v (.int .u32 (12 : Int))),(D.v (.string (ByteArray.mk #[98]))),(D.v (.int .u8 (0 : Int))),zU,zU,zU,zU,zU,zU,zU,zU,zU,zU,zU,zU,zU,zU,zU,zU,(D.list 0 (some 0) [])])]
def Zst : D := zI
theorem Z17f : funD Tg Z9y 100000 60 Z2u Tryz.f78 Zsq = some Zsr := by kernel_rfl
theorem Z17g : funD Tg Z9y 100000 60 Z2u Tryz.f78 Zss = some Zst := by kernel_rfl
def Z7u (ds : List D) : Option D := if isT Zsq ds then some Zsr else (if isT Zss ds then some Zst else (none))
theorem Z1cb : ∀ ds d,Z7u ds = some d → DataSem Tg 78 ds d := by
 intro ds d h
 unfold Z7u at h
 split at h
 ·rename_i ha; obtain rfl := isT_eq ha; cases h; exact Zls Z17f
 split at h
 ·rename_i ha; obtain rfl := isT_eq ha; cases h; exact Zls Z17g
 cases h
end Go.Ev