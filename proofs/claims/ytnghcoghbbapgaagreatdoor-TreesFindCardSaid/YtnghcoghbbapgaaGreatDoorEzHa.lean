/- The examples of the chapter on trees,evaluated: each call at the arguments that come up. No conditions. -/
import Derived.Test.YtnghcoghbbapgaaGreatDoorEzI
import Derived.Test.YtnghcoghbbapgaaGreatDoorEzJn
set_option linter.unusedVariables false
set_option maxRecDepth 1000000
namespace Go.Ev
open Go Go.Proofs
def Z2c : FnH := ⟨[],[]⟩
def Zqv : FnH := ⟨[],[]⟩
def Z63 : FnH := ⟨[(2,⟨(bm 3587 36),[(9,1)],none⟩)],[]⟩
def Zef : FnH := ⟨[],[]⟩
def Zh6 : FnH := ⟨[],[]⟩
theorem Z72 : Enters Tg 52 := ⟨Tryz.f52,Tryz.func52,by kernel_rfl,by kernel_rfl⟩
theorem Zqw : Enters Tg 80 := ⟨Tryz.f80,Tryz.func80,by kernel_rfl,by kernel_rfl⟩
theorem Z64 : Enters Tg 79 := ⟨Tryz.f79,Tryz.func79,by kernel_rfl,by kernel_rfl⟩
theorem Zeg : Enters Tg 100 := ⟨Tryz.f100,Tryz.func100,by kernel_rfl,by kernel_rfl⟩
theorem Zh7 : Enters Tg 117 := ⟨Tryz.f117,Tryz.func117,by kernel_rfl,by kernel_rfl⟩
noncomputable def Zf6 : Hints := ⟨[],[(52,Tryz.f52,Z2c),(80,Tryz.f80,Zqv),(79,Tryz.f79,Z63),(100,Tryz.f100,Zef),(117,Tryz.f117,Zh6)],[203,205,206,208,148]⟩
theorem Zod {m n : Nat} {ds : List D} {d : D} (h : funD Tg Zf6 m n Z2c Tryz.f52 ds = some d) : DataSem Tg 52 ds d := Z0 (H := Zf6) SpOk.nil mixed (InlOk.cons Tryz.func52 Z72 (InlOk.cons Tryz.func80 Zqw (InlOk.cons Tryz.func79 Z64 (InlOk.cons Tryz.func100 Zeg (InlOk.cons Tryz.func117 Zh7 InlOk.nil))))) Tryz.func52 Z72 h
def Zuu : List D := [(D.agg [(D.v (.int .u8 (3 : Int))),(D.v (.int .u32 (1 : Int))),(D.v (.int .u32 (2 : Int))),(D.v (.int .u32 (4 : Int))),zU,zU,zU,zU,zU,zU,zU,zU,zU,zU,zU,zU,zU]),(D.agg [(D.v (.int .u8 (3 : Int))),(D.v (.int .u32 (1 : Int))),(D.v (.int .u32 (2 : Int))),(D.v (.int .u32 (5 : Int))),zU,zU,zU,zU,zU,zU,zU,zU,zU,zU,zU,zU,zU])]
def Zuv : D := (D.v (.int .i64 (-1 : Int)))
def Zuw : List D := [(D.agg [(D.v (.int .u8 (3 : Int))),(D.v (.int .u32 (1 : Int))),(D.v (.int .u32 (2 : Int))),(D.v (.int .u32 (3 : Int))),zU,zU,zU,zU,zU,zU,zU,zU,zU,zU,zU,zU,zU]),(D.agg [(D.v (.int .u8 (5 : Int))),(D.v (.int .u32 (2 : Int))),(D.v (.int .u32 (5 : Int))),(D.v (.int .u32 (29 : Int))),(D.v (.int .u32 (32 : Int))),zU,zU,zU,zU,zU,zU,zU,zU,zU,zU,zU,zU])]
def Zux : D := (D.v (.int .i64 (-1 : Int)))
theorem Z16r : funD Tg Zf6 100000 60 Z2c Tryz.f52 Zuu = some Zuv := by kernel_rfl
theorem Z16s : funD Tg Zf6 100000 60 Z2c Tryz.f52 Zuw = some Zux := by kernel_rfl
def Zbo (ds : List D) : Option D := if isT Zuu ds then some Zuv else (if isT Zuw ds then some Zux else (none))
theorem td_oids_Compare : ∀ ds d,Zbo ds = some d → DataSem Tg 52 ds d := by
 intro ds d h
 unfold Zbo at h
 split at h
 ·rename_i ha; obtain rfl := isT_eq ha; cases h; exact Zod Z16r
 split at h
 ·rename_i ha; obtain rfl := isT_eq ha; cases h; exact Zod Z16s
 cases h
def Z1f : FnH := ⟨[(6,⟨(bm 1924145348608 47),[(38,1)],none⟩)],[]⟩
theorem Zd1 : Enters Tg 77 := ⟨Tryz.f77,Tryz.func77,by kernel_rfl,by kernel_rfl⟩
noncomputable def Z8m : Hints := ⟨[],[(77,Tryz.f77,Z1f)],[203,205,206,208,148]⟩
theorem Z9b {m n : Nat} {ds : List D} {d : D} (h : funD Tg Z8m m n Z1f Tryz.f77 ds = some d) : DataSem Tg 77 ds d := Z0 (H := Z8m) SpOk.nil mixed (InlOk.cons Tryz.func77 Zd1 InlOk.nil) Tryz.func77 Zd1 h
def Zzv : List D := [(D.agg [(D.v (.int .u8 (5 : Int))),(D.v (.int .u32 (2 : Int))),(D.v (.int .u32 (5 : Int))),(D.v (.int .u32 (29 : Int))),(D.v (.int .u32 (32 : Int))),zU,zU,zU,zU,zU,zU,zU,zU,zU,zU,zU,zU])]
def Zzw : D := zI
def Zzx : List D := [(D.agg [(D.v (.int .u8 (3 : Int))),(D.v (.int .u32 (1 : Int))),(D.v (.int .u32 (2 : Int))),(D.v (.int .u32 (3 : Int))),zU,zU,zU,zU,zU,zU,zU,zU,zU,zU,zU,zU,zU])]
def Zzy : D := zI
def Zzz : List D := [(D.agg [(D.v (.int .u8 (3 : Int))),(D.v (.int .u32 (1 : Int))),(D.v (.int .u32 (2 : Int))),(D.v (.int .u32 (4 : Int))),zU,zU,zU,zU,zU,zU,zU,zU,zU,zU,zU,zU,zU])]
def Z100 : D := zI
def Z101 : List D := [(D.agg [(D.v (.int .u8 (3 : Int))),(D.v (.int .u32 (1 : Int))),(D.v (.int .u32 (2 : Int))),(D.v (.int .u32 (5 : Int))),zU,zU,zU,zU,zU,zU,zU,zU,zU,zU,zU,zU,zU])]
def Z102 : D := zI
theorem Z1bc : funD Tg Z8m 100000 60 Z1f Tryz.f77 Zzv = some Zzw := by kernel_rfl
theorem Z1bd : funD Tg Z8m 100000 60 Z1f Tryz.f77 Zzx = some Zzy := by kernel_rfl
theorem Z1be : funD Tg Z8m 100000 60 Z1f Tryz.f77 Zzz = some Z100 := by kernel_rfl
theorem Z1bf : funD Tg Z8m 100000 60 Z1f Tryz.f77 Z101 = some Z102 := by kernel_rfl
def Zcm (ds : List D) : Option D := if isT Zzv ds then some Zzw else (if isT Zzx ds then some Zzy else (if isT Zzz ds then some Z100 else (if isT Z101 ds then some Z102 else (none))))
theorem td_oids_Check : ∀ ds d,Zcm ds = some d → DataSem Tg 77 ds d := by
 intro ds d h
 unfold Zcm at h
 split at h
 ·rename_i ha; obtain rfl := isT_eq ha; cases h; exact Z9b Z1bc
 split at h
 ·rename_i ha; obtain rfl := isT_eq ha; cases h; exact Z9b Z1bd
 split at h
 ·rename_i ha; obtain rfl := isT_eq ha; cases h; exact Z9b Z1be
 split at h
 ·rename_i ha; obtain rfl := isT_eq ha; cases h; exact Z9b Z1bf
 cases h
def Zl : FnH := ⟨[(4,⟨(bm 7169 38),[(10,17)],none⟩)],[]⟩
theorem Z5o : Enters Tg 58 := ⟨Tryz.f58,Tryz.func58,by kernel_rfl,by kernel_rfl⟩
noncomputable def Z4b : Hints := ⟨[(52,Zbo),(77,Zcm)],[(58,Tryz.f58,Zl)],[203,205,206,208,148]⟩
theorem Z5f {m n : Nat} {ds : List D} {d : D} (h : funD Tg Z4b m n Zl Tryz.f58 ds = some d) : DataSem Tg 58 ds d := Z0 (H := Z4b) (SpOk.cons td_oids_Compare (SpOk.cons td_oids_Check SpOk.nil)) mixed (InlOk.cons Tryz.func58 Z5o InlOk.nil) Tryz.func58 Z5o h
def Zsr : List D := [(D.list 1 (some 1) [(D.v (.int .u8 (5 : Int))),(D.v (.int .u32 (2 : Int))),(D.v (.int .u32 (5 : Int))),(D.v (.int .u32 (29 : Int))),(D.v (.int .u32 (32 : Int))),zU,zU,zU,zU,zU,zU,zU,zU,zU,zU,zU,zU])]
def Zss : D := zI
def Zst : List D := [(D.list 2 (some 2) [(D.v (.int .u8 (3 : Int))),(D.v (.int .u32 (1 : Int))),(D.v (.int .u32 (2 : Int))),(D.v (.int .u32 (4 : Int))),zU,zU,zU,zU,zU,zU,zU,zU,zU,zU,zU,zU,zU,(D.v (.int .u8 (3 : Int))),(D.v (.int .u32 (1 : Int))),(D.v (.int .u32 (2 : Int))),(D.v (.int .u32 (5 : Int))),zU,zU,zU,zU,zU,zU,zU,zU,zU,zU,zU,zU,zU])]
def Zsu : D := zI
def Zsv : List D := [(D.list 1 (some 1) [(D.v (.int .u8 (3 : Int))),(D.v (.int .u32 (1 : Int))),(D.v (.int .u32 (2 : Int))),(D.v (.int .u32 (4 : Int))),zU,zU,zU,zU,zU,zU,zU,zU,zU,zU,zU,zU,zU])]
def Zsw : D := zI
def Zsx : List D := [(D.list 1 (some 1) [(D.v (.int .u8 (3 : Int))),(D.v (.int .u32 (1 : Int))),(D.v (.int .u32 (2 : Int))),(D.v (.int .u32 (5 : Int))),zU,zU,zU,zU,zU,zU,zU,zU,zU,zU,zU,zU,zU])]
def Zsy : D := zI
theorem Z155 : funD Tg Z4b 100000 60 Zl Tryz.f58 Zsr = some Zss := by kernel_rfl
theorem Z156 : funD Tg Z4b 100000 60 Zl Tryz.f58 Zst = some Zsu := by kernel_rfl
theorem Z157 : funD Tg Z4b 100000 60 Zl Tryz.f58 Zsv = some Zsw := by kernel_rfl
theorem Z158 : funD Tg Z4b 100000 60 Zl Tryz.f58 Zsx = some Zsy := by kernel_rfl
def Znz (ds : List D) : Option D := if isT Zsr ds then some Zss else (if isT Zst ds then some Zsu else (if isT Zsv ds then some Zsw else (if isT Zsx ds then some Zsy else (none))))
theorem td_oidsets_Check : ∀ ds d,Znz ds = some d → DataSem Tg 58 ds d := by
 intro ds d h
 unfold Znz at h
 split at h
 ·rename_i ha; obtain rfl := isT_eq ha; cases h; exact Z5f Z155
 split at h
 ·rename_i ha; obtain rfl := isT_eq ha; cases h; exact Z5f Z156
 split at h
 ·rename_i ha; obtain rfl := isT_eq ha; cases h; exact Z5f Z157
 split at h
 ·rename_i ha; obtain rfl := isT_eq ha; cases h; exact Z5f Z158
 cases h
def Zn : FnH := ⟨[(10,⟨(bm 234881024 37),[(25,27)],none⟩)],[]⟩
def Zja : FnH := ⟨[],[]⟩
def Zl7 : FnH := ⟨[],[]⟩
def Zjb : FnH := ⟨[],[]⟩
def Zfr : FnH := ⟨[],[]⟩
def Zfs : FnH := ⟨[(4,⟨(bm 14336 24),[(11,1)],none⟩)],[]⟩
def Zft : FnH := ⟨[],[]⟩
def Zcn : FnH := ⟨[],[]⟩
def Zfu : FnH := ⟨[],[]⟩
def Zh8 : FnH := ⟨[],[]⟩
def Zdo : FnH := ⟨[],[]⟩
def Z65 : FnH := ⟨[],[]⟩
def Z7o : FnH := ⟨[(2,⟨(bm 387 19),[],none⟩)],[]⟩
def Zh9 : FnH := ⟨[],[]⟩
def Zha : FnH := ⟨[],[]⟩
def Zjc : FnH := ⟨[],[]⟩
def Zhb : FnH := ⟨[],[]⟩
def Zeh : FnH := ⟨[],[]⟩
def Zco : FnH := ⟨[],[]⟩
def Zk4 : FnH := ⟨[],[]⟩
def Zay : FnH := ⟨[],[]⟩
def Zcp : FnH := ⟨[],[]⟩
def Zdp : FnH := ⟨[],[]⟩
def Zhc : FnH := ⟨[(38,⟨(bm 47890485652059026823698344598447161988085597568237568 187),[],none⟩),(5,⟨(bm 1923 187),[],none⟩),(12,⟨(bm 6019 187),[],none⟩),(25,⟨(bm 50049 187),[],none⟩),(29,⟨(bm 115585 187),[],none⟩)],[]⟩
def Zhd : FnH := ⟨[],[]⟩
def Zcq : FnH := ⟨[],[]⟩
def Zl8 : FnH := ⟨[],[]⟩
def Zk5 : FnH := ⟨[],[]⟩
def Zk6 : FnH := ⟨[],[]⟩
def Zk7 : FnH := ⟨[],[]⟩
def Zfv : FnH := ⟨[],[]⟩
def Z2g : FnH := ⟨[(2,⟨(bm 387 19),[],none⟩)],[]⟩
def Zdq : FnH := ⟨[(4,⟨(bm 2052 20),[],none⟩)],[]⟩
def Zjd : FnH := ⟨[(1,⟨(bm 1 169),[],none⟩),(9,⟨(bm 1 169),[],none⟩)],[]⟩
def Zje : FnH := ⟨[],[]⟩
def Zfw : FnH := ⟨[],[]⟩
def Zbp : FnH := ⟨[(2,⟨(bm 20 10),[],none⟩)],[]⟩
def Zbq : FnH := ⟨[(8,⟨(bm 3758096566 83),[(29,1)],none⟩)],[]⟩
def Zei : FnH := ⟨[],[]⟩
def Zk8 : FnH := ⟨[(6,⟨(bm 524368 30),[(6,1)],none⟩)],[]⟩
def Zl9 : FnH := ⟨[(3,⟨(bm 73 25),[],none⟩),(8,⟨(bm 32 25),[(5,1)],none⟩)],[]⟩
def Zej : FnH := ⟨[],[]⟩
def Z4c : FnH := ⟨[],[]⟩
def Zfx : FnH := ⟨[],[]⟩
def Zfy : FnH := ⟨[],[]⟩
def Zn4 : FnH := ⟨[],[]⟩
def Zuy : FnH := ⟨[],[]⟩
def Zo0 : FnH := ⟨[],[]⟩
def Zn5 : FnH := ⟨[],[]⟩
def Zk9 : FnH := ⟨[],[]⟩
def Zaz : FnH := ⟨[(25,⟨(bm 16655 151),[],none⟩)],[]⟩
def Ztn : FnH := ⟨[],[]⟩
def Zpg : FnH := ⟨[(3,⟨(bm 13 43),[],none⟩)],[]⟩
def Zqx : FnH := ⟨[],[]⟩
def Zph : FnH := ⟨[],[]⟩
def Zpi : FnH := ⟨[],[]⟩
def Zfz : FnH := ⟨[],[]⟩
def Zka : FnH := ⟨[],[]⟩
def Zto : FnH := ⟨[(8,⟨(bm 939524140 43),[(2,1),(27,1)],none⟩),(11,⟨(bm 939524140 43),[],none⟩)],[]⟩
def Zrc : FnH := ⟨[],[]⟩
def Z7p : FnH := ⟨[],[]⟩
def Zpj : FnH := ⟨[],[]⟩
def Zn6 : FnH := ⟨[(1,⟨(bm 11 31),[],none⟩),(3,⟨(bm 11 31),[],none⟩)],[]⟩
def Zo1 : FnH := ⟨[],[]⟩
def Zla : FnH := ⟨[],[]⟩
def Zjf : FnH := ⟨[],[]⟩
def Zg0 : FnH := ⟨[],[]⟩
def Zn7 : FnH := ⟨[],[]⟩
def Zkb : FnH := ⟨[(5,⟨(bm 3670026 34),[(19,5)],none⟩)],[]⟩
def Zn8 : FnH := ⟨[],[]⟩
def Zjg : FnH := ⟨[(5,⟨(bm 114696 27),[(14,5)],none⟩)],[]⟩
def Zrd : FnH := ⟨[],[]⟩
def Ztp : FnH := ⟨[(11,⟨(bm 76 42),[],none⟩)],[]⟩
def Zpk : FnH := ⟨[],[]⟩
def Zn9 : FnH := ⟨[(1,⟨(bm 11 29),[],none⟩),(3,⟨(bm 11 29),[],none⟩)],[]⟩
def Zna : FnH := ⟨[],[]⟩
def Zo2 : FnH := ⟨[],[]⟩
def Zpl : FnH := ⟨[],[]⟩
def Zo3 : FnH := ⟨[(6,⟨(bm 60129542145 44),[(0,1),(33,5)],none⟩)],[]⟩
theorem Z9c : Enters Tg 51 := ⟨Tryz.f51,Tryz.func51,by kernel_rfl,by kernel_rfl⟩
theorem Zjh : Enters Tg 78 := ⟨Tryz.f78,Tryz.func78,by kernel_rfl,by kernel_rfl⟩
theorem Zlb : Enters Tg 99 := ⟨Tryz.f99,Tryz.func99,by kernel_rfl,by kernel_rfl⟩
theorem Zji : Enters Tg 112 := ⟨Tryz.f112,Tryz.func112,by kernel_rfl,by kernel_rfl⟩
theorem Zg1 : Enters Tg 133 := ⟨Tryz.f133,Tryz.func133,by kernel_rfl,by kernel_rfl⟩
theorem Zg2 : Enters Tg 134 := ⟨Tryz.f134,Tryz.func134,by kernel_rfl,by kernel_rfl⟩
theorem Zg3 : Enters Tg 135 := ⟨Tryz.f135,Tryz.func135,by kernel_rfl,by kernel_rfl⟩
theorem Zcr : Enters Tg 136 := ⟨Tryz.f136,Tryz.func136,by kernel_rfl,by kernel_rfl⟩
theorem Zg4 : Enters Tg 137 := ⟨Tryz.f137,Tryz.func137,by kernel_rfl,by kernel_rfl⟩
theorem Zhe : Enters Tg 138 := ⟨Tryz.f138,Tryz.func138,by kernel_rfl,by kernel_rfl⟩
theorem Zdr : Enters Tg 159 := ⟨Tryz.f159,Tryz.func159,by kernel_rfl,by kernel_rfl⟩
theorem Z66 : Enters Tg 176 := ⟨Tryz.f176,Tryz.func176,by kernel_rfl,by kernel_rfl⟩
theorem Z7q : Enters Tg 188 := ⟨Tryz.f188,Tryz.func188,by kernel_rfl,by kernel_rfl⟩
theorem Zhf : Enters Tg 177 := ⟨Tryz.f177,Tryz.func177,by kernel_rfl,by kernel_rfl⟩
theorem Zhg : Enters Tg 189 := ⟨Tryz.f189,Tryz.func189,by kernel_rfl,by kernel_rfl⟩
theorem Zjj : Enters Tg 196 := ⟨Tryz.f196,Tryz.func196,by kernel_rfl,by kernel_rfl⟩
theorem Zhh : Enters Tg 199 := ⟨Tryz.f199,Tryz.func199,by kernel_rfl,by kernel_rfl⟩
theorem Zek : Enters Tg 202 := ⟨Tryz.f202,Tryz.func202,by kernel_rfl,by kernel_rfl⟩
theorem Zcs : Enters Tg 207 := ⟨Tryz.f207,Tryz.func207,by kernel_rfl,by kernel_rfl⟩
theorem Zkc : Enters Tg 203 := ⟨Tryz.f203,Tryz.func203,by kernel_rfl,by kernel_rfl⟩
theorem Zb0 : Enters Tg 208 := ⟨Tryz.f208,Tryz.func208,by kernel_rfl,by kernel_rfl⟩
theorem Zct : Enters Tg 204 := ⟨Tryz.f204,Tryz.func204,by kernel_rfl,by kernel_rfl⟩
theorem Zds : Enters Tg 209 := ⟨Tryz.f209,Tryz.func209,by kernel_rfl,by kernel_rfl⟩
theorem Zhi : Enters Tg 210 := ⟨Tryz.f210,Tryz.func210,by kernel_rfl,by kernel_rfl⟩
theorem Zhj : Enters Tg 211 := ⟨Tryz.f211,Tryz.func211,by kernel_rfl,by kernel_rfl⟩
theorem Zcu : Enters Tg 215 := ⟨Tryz.f215,Tryz.func215,by kernel_rfl,by kernel_rfl⟩
theorem Zlc : Enters Tg 212 := ⟨Tryz.f212,Tryz.func212,by kernel_rfl,by kernel_rfl⟩
theorem Zkd : Enters Tg 213 := ⟨Tryz.f213,Tryz.func213,by kernel_rfl,by kernel_rfl⟩
theorem Zke : Enters Tg 205 := ⟨Tryz.f205,Tryz.func205,by kernel_rfl,by kernel_rfl⟩
theorem Zkf : Enters Tg 206 := ⟨Tryz.f206,Tryz.func206,by kernel_rfl,by kernel_rfl⟩
theorem Zg5 : Enters Tg 201 := ⟨Tryz.f201,Tryz.func201,by kernel_rfl,by kernel_rfl⟩
theorem Z2h : Enters Tg 200 := ⟨Tryz.f200,Tryz.func200,by kernel_rfl,by kernel_rfl⟩
theorem Zdt : Enters Tg 197 := ⟨Tryz.f197,Tryz.func197,by kernel_rfl,by kernel_rfl⟩
theorem Zjk : Enters Tg 149 := ⟨Tryz.f149,Tryz.func149,by kernel_rfl,by kernel_rfl⟩
theorem Zjl : Enters Tg 171 := ⟨Tryz.f171,Tryz.func171,by kernel_rfl,by kernel_rfl⟩
theorem Zg6 : Enters Tg 178 := ⟨Tryz.f178,Tryz.func178,by kernel_rfl,by kernel_rfl⟩
theorem Zbr : Enters Tg 190 := ⟨Tryz.f190,Tryz.func190,by kernel_rfl,by kernel_rfl⟩
theorem Zbs : Enters Tg 139 := ⟨Tryz.f139,Tryz.func139,by kernel_rfl,by kernel_rfl⟩
theorem Zel : Enters Tg 160 := ⟨Tryz.f160,Tryz.func160,by kernel_rfl,by kernel_rfl⟩
theorem Zkg : Enters Tg 179 := ⟨Tryz.f179,Tryz.func179,by kernel_rfl,by kernel_rfl⟩
theorem Zld : Enters Tg 161 := ⟨Tryz.f161,Tryz.func161,by kernel_rfl,by kernel_rfl⟩
theorem Zem : Enters Tg 180 := ⟨Tryz.f180,Tryz.func180,by kernel_rfl,by kernel_rfl⟩
theorem Z4d : Enters Tg 162 := ⟨Tryz.f162,Tryz.func162,by kernel_rfl,by kernel_rfl⟩
theorem Zg7 : Enters Tg 140 := ⟨Tryz.f140,Tryz.func140,by kernel_rfl,by kernel_rfl⟩
theorem Zg8 : Enters Tg 141 := ⟨Tryz.f141,Tryz.func141,by kernel_rfl,by kernel_rfl⟩
theorem Znb : Enters Tg 114 := ⟨Tryz.f114,Tryz.func114,by kernel_rfl,by kernel_rfl⟩
theorem Zuz : Enters Tg 98 := ⟨Tryz.f98,Tryz.func98,by kernel_rfl,by kernel_rfl⟩
theorem Zo4 : Enters Tg 142 := ⟨Tryz.f142,Tryz.func142,by kernel_rfl,by kernel_rfl⟩
theorem Znc : Enters Tg 163 := ⟨Tryz.f163,Tryz.func163,by kernel_rfl,by kernel_rfl⟩
theorem Zkh : Enters Tg 181 := ⟨Tryz.f181,Tryz.func181,by kernel_rfl,by kernel_rfl⟩
theorem Zb1 : Enters Tg 182 := ⟨Tryz.f182,Tryz.func182,by kernel_rfl,by kernel_rfl⟩
theorem Ztq : Enters Tg 191 := ⟨Tryz.f191,Tryz.func191,by kernel_rfl,by kernel_rfl⟩
theorem Zpm : Enters Tg 198 := ⟨Tryz.f198,Tryz.func198,by kernel_rfl,by kernel_rfl⟩
theorem Zqy : Enters Tg 185 := ⟨Tryz.f185,Tryz.func185,by kernel_rfl,by kernel_rfl⟩
theorem Zpn : Enters Tg 192 := ⟨Tryz.f192,Tryz.func192,by kernel_rfl,by kernel_rfl⟩
theorem Zpo : Enters Tg 193 := ⟨Tryz.f193,Tryz.func193,by kernel_rfl,by kernel_rfl⟩
theorem Zg9 : Enters Tg 143 := ⟨Tryz.f143,Tryz.func143,by kernel_rfl,by kernel_rfl⟩
theorem Zki : Enters Tg 113 := ⟨Tryz.f113,Tryz.func113,by kernel_rfl,by kernel_rfl⟩
theorem Ztr : Enters Tg 115 := ⟨Tryz.f115,Tryz.func115,by kernel_rfl,by kernel_rfl⟩
theorem Zre : Enters Tg 80 := ⟨Tryz.f80,Tryz.func80,by kernel_rfl,by kernel_rfl⟩
theorem Z7r : Enters Tg 144 := ⟨Tryz.f144,Tryz.func144,by kernel_rfl,by kernel_rfl⟩
theorem Zpp : Enters Tg 145 := ⟨Tryz.f145,Tryz.func145,by kernel_rfl,by kernel_rfl⟩
theorem Znd : Enters Tg 164 := ⟨Tryz.f164,Tryz.func164,by kernel_rfl,by kernel_rfl⟩
theorem Zo5 : Enters Tg 116 := ⟨Tryz.f116,Tryz.func116,by kernel_rfl,by kernel_rfl⟩
theorem Zle : Enters Tg 146 := ⟨Tryz.f146,Tryz.func146,by kernel_rfl,by kernel_rfl⟩
theorem Zjm : Enters Tg 165 := ⟨Tryz.f165,Tryz.func165,by kernel_rfl,by kernel_rfl⟩
theorem Zga : Enters Tg 184 := ⟨Tryz.f184,Tryz.func184,by kernel_rfl,by kernel_rfl⟩
theorem Zne : Enters Tg 183 := ⟨Tryz.f183,Tryz.func183,by kernel_rfl,by kernel_rfl⟩
theorem Zkj : Enters Tg 194 := ⟨Tryz.f194,Tryz.func194,by kernel_rfl,by kernel_rfl⟩
theorem Znf : Enters Tg 147 := ⟨Tryz.f147,Tryz.func147,by kernel_rfl,by kernel_rfl⟩
theorem Zjn : Enters Tg 166 := ⟨Tryz.f166,Tryz.func166,by kernel_rfl,by kernel_rfl⟩
theorem Zrf : Enters Tg 168 := ⟨Tryz.f168,Tryz.func168,by kernel_rfl,by kernel_rfl⟩
theorem Zts : Enters Tg 169 := ⟨Tryz.f169,Tryz.func169,by kernel_rfl,by kernel_rfl⟩
theorem Zpq : Enters Tg 187 := ⟨Tryz.f187,Tryz.func187,by kernel_rfl,by kernel_rfl⟩
theorem Zng : Enters Tg 195 := ⟨Tryz.f195,Tryz.func195,by kernel_rfl,by kernel_rfl⟩
theorem Znh : Enters Tg 167 := ⟨Tryz.f167,Tryz.func167,by kernel_rfl,by kernel_rfl⟩
theorem Zo6 : Enters Tg 186 := ⟨Tryz.f186,Tryz.func186,by kernel_rfl,by kernel_rfl⟩
theorem Zpr : Enters Tg 170 := ⟨Tryz.f170,Tryz.func170,by kernel_rfl,by kernel_rfl⟩
theorem Zo7 : Enters Tg 148 := ⟨Tryz.f148,Tryz.func148,by kernel_rfl,by kernel_rfl⟩
noncomputable def Z4r : Hints := ⟨[(58,Znz),(77,Zcm)],[(51,Tryz.f51,Zn),(78,Tryz.f78,Zja),(99,Tryz.f99,Zl7),(112,Tryz.f112,Zjb),(133,Tryz.f133,Zfr),(134,Tryz.f134,Zfs),(135,Tryz.f135,Zft),(136,Tryz.f136,Zcn),(137,Tryz.f137,Zfu),(138,Tryz.f138,Zh8),(159,Tryz.f159,Zdo),(176,Tryz.f176,Z65),(188,Tryz.f188,Z7o),(177,Tryz.f177,Zh9),(189,Tryz.f189,Zha),(196,Tryz.f196,Zjc),(199,Tryz.f199,Zhb),(202,Tryz.f202,Zeh),(207,Tryz.f207,Zco),(203,Tryz.f203,Zk4),(208,Tryz.f208,Zay),(204,Tryz.f204,Zcp),(209,Tryz.f209,Zdp),(210,Tryz.f210,Zhc),(211,Tryz.f211,Zhd),(215,Tryz.f215,Zcq),(212,Tryz.f212,Zl8),(213,Tryz.f213,Zk5),(205,Tryz.f205,Zk6),(206,Tryz.f206,Zk7),(201,Tryz.f201,Zfv),(200,Tryz.f200,Z2g),(197,Tryz.f197,Zdq),(149,Tryz.f149,Zjd),(171,Tryz.f171,Zje),(178,Tryz.f178,Zfw),(190,Tryz.f190,Zbp),(139,Tryz.f139,Zbq),(160,Tryz.f160,Zei),(179,Tryz.f179,Zk8),(161,Tryz.f161,Zl9),(180,Tryz.f180,Zej),(162,Tryz.f162,Z4c),(140,Tryz.f140,Zfx),(141,Tryz.f141,Zfy),(114,Tryz.f114,Zn4),(98,Tryz.f98,Zuy),(142,Tryz.f142,Zo0),(163,Tryz.f163,Zn5),(181,Tryz.f181,Zk9),(182,Tryz.f182,Zaz),(191,Tryz.f191,Ztn),(198,Tryz.f198,Zpg),(185,Tryz.f185,Zqx),(192,Tryz.f192,Zph),(193,Tryz.f193,Zpi),(143,Tryz.f143,Zfz),(113,Tryz.f113,Zka),(115,Tryz.f115,Zto),(80,Tryz.f80,Zrc),(144,Tryz.f144,Z7p),(145,Tryz.f145,Zpj),(164,Tryz.f164,Zn6),(116,Tryz.f116,Zo1),(146,Tryz.f146,Zla),(165,Tryz.f165,Zjf),(184,Tryz.f184,Zg0),(183,Tryz.f183,Zn7),(194,Tryz.f194,Zkb),(147,Tryz.f147,Zn8),(166,Tryz.f166,Zjg),(168,Tryz.f168,Zrd),(169,Tryz.f169,Ztp),(187,Tryz.f187,Zpk),(195,Tryz.f195,Zn9),(167,Tryz.f167,Zna),(186,Tryz.f186,Zo2),(170,Tryz.f170,Zpl),(148,Tryz.f148,Zo3)],[203,205,206,208,148]⟩
theorem Z4s {m n : Nat} {ds : List D} {d : D} (h : funD Tg Z4r m n Zn Tryz.f51 ds = some d) : DataSem Tg 51 ds d := Z0 (H := Z4r) (SpOk.cons td_oidsets_Check (SpOk.cons td_oids_Check SpOk.nil)) mixed (InlOk.cons Tryz.func51 Z9c (InlOk.cons Tryz.func78 Zjh (InlOk.cons Tryz.func99 Zlb (InlOk.cons Tryz.func112 Zji (InlOk.cons Tryz.func133 Zg1 (InlOk.cons Tryz.func134 Zg2 (InlOk.cons Tryz.func135 Zg3 (InlOk.cons Tryz.func136 Zcr (InlOk.cons Tryz.func137 Zg4 (InlOk.cons Tryz.func138 Zhe (InlOk.cons Tryz.func159 Zdr (InlOk.cons Tryz.func176 Z66 (InlOk.cons Tryz.func188 Z7q (InlOk.cons Tryz.func177 Zhf (InlOk.cons Tryz.func189 Zhg (InlOk.cons Tryz.func196 Zjj (InlOk.cons Tryz.func199 Zhh (InlOk.cons Tryz.func202 Zek (InlOk.cons Tryz.func207 Zcs (InlOk.cons Tryz.func203 Zkc (InlOk.cons Tryz.func208 Zb0 (InlOk.cons Tryz.func204 Zct (InlOk.cons Tryz.func209 Zds (InlOk.cons Tryz.func210 Zhi (InlOk.cons Tryz.func211 Zhj (InlOk.cons Tryz.func215 Zcu (InlOk.cons Tryz.func212 Zlc (InlOk.cons Tryz.func213 Zkd (InlOk.cons Tryz.func205 Zke (InlOk.cons Tryz.func206 Zkf (InlOk.cons Tryz.func201 Zg5 (InlOk.cons Tryz.func200 Z2h (InlOk.cons Tryz.func197 Zdt (InlOk.cons Tryz.func149 Zjk (InlOk.cons Tryz.func171 Zjl (InlOk.cons Tryz.func178 Zg6 (InlOk.cons Tryz.func190 Zbr (InlOk.cons Tryz.func139 Zbs (InlOk.cons Tryz.func160 Zel (InlOk.cons Tryz.func179 Zkg (InlOk.cons Tryz.func161 Zld (InlOk.cons Tryz.func180 Zem (InlOk.cons Tryz.func162 Z4d (InlOk.cons Tryz.func140 Zg7 (InlOk.cons Tryz.func141 Zg8 (InlOk.cons Tryz.func114 Znb (InlOk.cons Tryz.func98 Zuz (InlOk.cons Tryz.func142 Zo4 (InlOk.cons Tryz.func163 Znc (InlOk.cons Tryz.func181 Zkh (InlOk.cons Tryz.func182 Zb1 (InlOk.cons Tryz.func191 Ztq (InlOk.cons Tryz.func198 Zpm (InlOk.cons Tryz.func185 Zqy (InlOk.cons Tryz.func192 Zpn (InlOk.cons Tryz.func193 Zpo (InlOk.cons Tryz.func143 Zg9 (InlOk.cons Tryz.func113 Zki (InlOk.cons Tryz.func115 Ztr (InlOk.cons Tryz.func80 Zre (InlOk.cons Tryz.func144 Z7r (InlOk.cons Tryz.func145 Zpp (InlOk.cons Tryz.func164 Znd (InlOk.cons Tryz.func116 Zo5 (InlOk.cons Tryz.func146 Zle (InlOk.cons Tryz.func165 Zjm (InlOk.cons Tryz.func184 Zga (InlOk.cons Tryz.func183 Zne (InlOk.cons Tryz.func194 Zkj (InlOk.cons Tryz.func147 Znf (InlOk.cons Tryz.func166 Zjn (InlOk.cons Tryz.func168 Zrf (InlOk.cons Tryz.func169 Zts (InlOk.cons Tryz.func187 Zpq (InlOk.cons Tryz.func195 Zng (InlOk.cons Tryz.func167 Znh (InlOk.cons Tryz.func186 Zo6 (InlOk.cons Tryz.func170 Zpr (InlOk.cons Tryz.func148 Zo7 InlOk.nil))))))))))))))))))))))))))))))))))))))))))))))))))))))))))))))))))))))))))))))) Tryz.func51 Z9c h
def Zxl : List D := [(D.agg [(D.v (.int .i64 (-1 : Int))),(D.v (.int .u8 (5 : Int))),(D.v (.int .u32 (2 : Int))),(D.v (.int .u32 (5 : Int))),(D.v (.int .u32 (29 : Int))),(D.v (.int .u32 (32 : Int))),zU,zU,zU,zU,zU,zU,zU,zU,zU,zU,zU,zU,(D.list 1 (some 1) [(D.v (.int .u8 (5 : Int))),(D.v (.int .u32 (2 : Int))),(D.v (.int .u32 (5 : Int))),(D.v (.int .u32 (29 : Int))),(D.v (.int .u32 (32 : Int))),zU,zU,zU,zU,zU,zU,zU,zU,zU,zU,zU,zU]),(D.list 0 (some 0) [])])]
def Zxm : D := zI
def Zxn : List D := [(D.agg [zI,(D.v (.int .u8 (3 : Int))),(D.v (.int .u32 (1 : Int))),(D.v (.int .u32 (2 : Int))),(D.v (.int .u32 (3 : Int))),zU,zU,zU,zU,zU,zU,zU,zU,zU,zU,zU,zU,zU,(D.list 2 (some 2) [(D.v (.int .u8 (3 : Int))),(D.v (.int .u32 (1 : Int))),(D.v (.int .u32 (2 : Int))),(D.v (.int .u32 (4 : Int))),zU,zU,zU,zU,zU,zU,zU,zU,zU,zU,zU,zU,zU,(D.v (.int .u8 (3 : Int))),(D.v (.int .u32 (1 : Int))),(D.v (.int .u32 (2 : Int))),(D.v (.int .u32 (5 : Int))),zU,zU,zU,zU,zU,zU,zU,zU,zU,zU,zU,zU,zU]),(D.list 0 (some 0) [])])]
def Zxo : D := zI
def Zxp : List D := [(D.agg [zI,(D.v (.int .u8 (5 : Int))),(D.v (.int .u32 (2 : Int))),(D.v (.int .u32 (5 : Int))),(D.v (.int .u32 (29 : Int))),(D.v (.int .u32 (32 : Int))),zU,zU,zU,zU,zU,zU,zU,zU,zU,zU,zU,zU,(D.list 1 (some 1) [(D.v (.int .u8 (5 : Int))),(D.v (.int .u32 (2 : Int))),(D.v (.int .u32 (5 : Int))),(D.v (.int .u32 (29 : Int))),(D.v (.int .u32 (32 : Int))),zU,zU,zU,zU,zU,zU,zU,zU,zU,zU,zU,zU]),(D.list 0 (some 0) [])])]
def Zxq : D := zI
def Zxr : List D := [(D.agg [(D.v (.int .i64 (1 : Int))),(D.v (.int .u8 (3 : Int))),(D.v (.int .u32 (1 : Int))),(D.v (.int .u32 (2 : Int))),(D.v (.int .u32 (4 : Int))),zU,zU,zU,zU,zU,zU,zU,zU,zU,zU,zU,zU,zU,(D.list 1 (some 1) [(D.v (.int .u8 (3 : Int))),(D.v (.int .u32 (1 : Int))),(D.v (.int .u32 (2 : Int))),(D.v (.int .u32 (4 : Int))),zU,zU,zU,zU,zU,zU,zU,zU,zU,zU,zU,zU,zU]),(D.list 0 (some 0) [])])]
def Zxs : D := zI
def Zxt : List D := [(D.agg [(D.v (.int .i64 (1 : Int))),(D.v (.int .u8 (3 : Int))),(D.v (.int .u32 (1 : Int))),(D.v (.int .u32 (2 : Int))),(D.v (.int .u32 (5 : Int))),zU,zU,zU,zU,zU,zU,zU,zU,zU,zU,zU,zU,zU,(D.list 1 (some 1) [(D.v (.int .u8 (3 : Int))),(D.v (.int .u32 (1 : Int))),(D.v (.int .u32 (2 : Int))),(D.v (.int .u32 (5 : Int))),zU,zU,zU,zU,zU,zU,zU,zU,zU,zU,zU,zU,zU]),(D.list 0 (some 0) [])])]
def Zxu : D := zI
theorem Z18t : funD Tg Z4r 100000 60 Zn Tryz.f51 Zxl = some Zxm := by kernel_rfl
theorem Z18u : funD Tg Z4r 100000 60 Zn Tryz.f51 Zxn = some Zxo := by kernel_rfl
theorem Z18v : funD Tg Z4r 100000 60 Zn Tryz.f51 Zxp = some Zxq := by kernel_rfl
theorem Z18w : funD Tg Z4r 100000 60 Zn Tryz.f51 Zxr = some Zxs := by kernel_rfl
theorem Z18x : funD Tg Z4r 100000 60 Zn Tryz.f51 Zxt = some Zxu := by kernel_rfl
def Zly (ds : List D) : Option D := if isT Zxl ds then some Zxm else (if isT Zxn ds then some Zxo else (if isT Zxp ds then some Zxq else (if isT Zxr ds then some Zxs else (if isT Zxt ds then some Zxu else (none)))))
theorem td_trees_valid : ∀ ds d,Zly ds = some d → DataSem Tg 51 ds d := by
 intro ds d h
 unfold Zly at h
 split at h
 ·rename_i ha; obtain rfl := isT_eq ha; cases h; exact Z4s Z18t
 split at h
 ·rename_i ha; obtain rfl := isT_eq ha; cases h; exact Z4s Z18u
 split at h
 ·rename_i ha; obtain rfl := isT_eq ha; cases h; exact Z4s Z18v
 split at h
 ·rename_i ha; obtain rfl := isT_eq ha; cases h; exact Z4s Z18w
 split at h
 ·rename_i ha; obtain rfl := isT_eq ha; cases h; exact Z4s Z18x
 cases h
def Zf : FnH := ⟨[(5,⟨(bm 1835026 40),[(4,1),(18,20)],none⟩)],[]⟩
def Zni : FnH := ⟨[],[]⟩
theorem Z5p : Enters Tg 50 := ⟨Tryz.f50,Tryz.func50,by kernel_rfl,by kernel_rfl⟩
theorem Znj : Enters Tg 76 := ⟨Tryz.f76,Tryz.func76,by kernel_rfl,by kernel_rfl⟩
noncomputable def Z3b : Hints := ⟨[(51,Zly),(52,Zbo)],[(50,Tryz.f50,Zf),(76,Tryz.f76,Zni)],[203,205,206,208,148]⟩
theorem Z3t {m n : Nat} {ds : List D} {d : D} (h : funD Tg Z3b m n Zf Tryz.f50 ds = some d) : DataSem Tg 50 ds d := Z0 (H := Z3b) (SpOk.cons td_trees_valid (SpOk.cons td_oids_Compare SpOk.nil)) mixed (InlOk.cons Tryz.func50 Z5p (InlOk.cons Tryz.func76 Znj InlOk.nil)) Tryz.func50 Z5p h
def Zsz : List D := [(D.agg [(D.list 1 (some 1) [(D.v (.int .i64 (-1 : Int))),(D.v (.int .u8 (5 : Int))),(D.v (.int .u32 (2 : Int))),(D.v (.int .u32 (5 : Int))),(D.v (.int .u32 (29 : Int))),(D.v (.int .u32 (32 : Int))),zU,zU,zU,zU,zU,zU,zU,zU,zU,zU,zU,zU,(D.list 1 (some 1) [(D.v (.int .u8 (5 : Int))),(D.v (.int .u32 (2 : Int))),(D.v (.int .u32 (5 : Int))),(D.v (.int .u32 (29 : Int))),(D.v (.int .u32 (32 : Int))),zU,zU,zU,zU,zU,zU,zU,zU,zU,zU,zU,zU]),(D.list 0 (some 0) [])])])]
def Zt0 : D := (D.tup [(D.list 1 (some 1) [zI]),zI])
def Zt1 : List D := [(D.agg [(D.list 2 (some 2) [(D.v (.int .i64 (-1 : Int))),(D.v (.int .u8 (5 : Int))),(D.v (.int .u32 (2 : Int))),(D.v (.int .u32 (5 : Int))),(D.v (.int .u32 (29 : Int))),(D.v (.int .u32 (32 : Int))),zU,zU,zU,zU,zU,zU,zU,zU,zU,zU,zU,zU,(D.list 1 (some 1) [(D.v (.int .u8 (5 : Int))),(D.v (.int .u32 (2 : Int))),(D.v (.int .u32 (5 : Int))),(D.v (.int .u32 (29 : Int))),(D.v (.int .u32 (32 : Int))),zU,zU,zU,zU,zU,zU,zU,zU,zU,zU,zU,zU]),(D.list 0 (some 0) []),zI,(D.v (.int .u8 (3 : Int))),(D.v (.int .u32 (1 : Int))),(D.v (.int .u32 (2 : Int))),(D.v (.int .u32 (3 : Int))),zU,zU,zU,zU,zU,zU,zU,zU,zU,zU,zU,zU,zU,(D.list 2 (some 2) [(D.v (.int .u8 (3 : Int))),(D.v (.int .u32 (1 : Int))),(D.v (.int .u32 (2 : Int))),(D.v (.int .u32 (4 : Int))),zU,zU,zU,zU,zU,zU,zU,zU,zU,zU,zU,zU,zU,(D.v (.int .u8 (3 : Int))),(D.v (.int .u32 (1 : Int))),(D.v (.int .u32 (2 : Int))),(D.v (.int .u32 (5 : Int))),zU,zU,zU,zU,zU,zU,zU,zU,zU,zU,zU,zU,zU]),(D.list 0 (some 0) [])])])]
def Zt2 : D := (D.tup [(D.list 2 (some 2) [zI,(D.v (.int .i64 (1 : Int)))]),zI])
def Zt3 : List D := [(D.agg [(D.list 3 (some 3) [(D.v (.int .i64 (-1 : Int))),(D.v (.int .u8 (5 : Int))),(D.v (.int .u32 (2 : Int))),(D.v (.int .u32 (5 : Int))),(D.v (.int .u32 (29 : Int))),(D.v (.int .u32 (32 : Int))),zU,zU,zU,zU,zU,zU,zU,zU,zU,zU,zU,zU,(D.list 1 (some 1) [(D.v (.int .u8 (5 : Int))),(D.v (.int .u32 (2 : Int))),(D.v (.int .u32 (5 : Int))),(D.v (.int .u32 (29 : Int))),(D.v (.int .u32 (32 : Int))),zU,zU,zU,zU,zU,zU,zU,zU,zU,zU,zU,zU]),(D.list 0 (some 0) []),zI,(D.v (.int .u8 (3 : Int))),(D.v (.int .u32 (1 : Int))),(D.v (.int .u32 (2 : Int))),(D.v (.int .u32 (3 : Int))),zU,zU,zU,zU,zU,zU,zU,zU,zU,zU,zU,zU,zU,(D.list 2 (some 2) [(D.v (.int .u8 (3 : Int))),(D.v (.int .u32 (1 : Int))),(D.v (.int .u32 (2 : Int))),(D.v (.int .u32 (4 : Int))),zU,zU,zU,zU,zU,zU,zU,zU,zU,zU,zU,zU,zU,(D.v (.int .u8 (3 : Int))),(D.v (.int .u32 (1 : Int))),(D.v (.int .u32 (2 : Int))),(D.v (.int .u32 (5 : Int))),zU,zU,zU,zU,zU,zU,zU,zU,zU,zU,zU,zU,zU]),(D.list 0 (some 0) []),zI,(D.v (.int .u8 (5 : Int))),(D.v (.int .u32 (2 : Int))),(D.v (.int .u32 (5 : Int))),(D.v (.int .u32 (29 : Int))),(D.v (.int .u32 (32 : Int))),zU,zU,zU,zU,zU,zU,zU,zU,zU,zU,zU,zU,(D.list 1 (some 1) [(D.v (.int .u8 (5 : Int))),(D.v (.int .u32 (2 : Int))),(D.v (.int .u32 (5 : Int))),(D.v (.int .u32 (29 : Int))),(D.v (.int .u32 (32 : Int))),zU,zU,zU,zU,zU,zU,zU,zU,zU,zU,zU,zU]),(D.list 0 (some 0) [])])])]
def Zt4 : D := (D.tup [(D.list 3 (some 3) [zI,(D.v (.int .i64 (1 : Int))),(D.v (.int .i64 (1 : Int)))]),zI])
def Zt5 : List D := [(D.agg [(D.list 4 (some 4) [(D.v (.int .i64 (-1 : Int))),(D.v (.int .u8 (5 : Int))),(D.v (.int .u32 (2 : Int))),(D.v (.int .u32 (5 : Int))),(D.v (.int .u32 (29 : Int))),(D.v (.int .u32 (32 : Int))),zU,zU,zU,zU,zU,zU,zU,zU,zU,zU,zU,zU,(D.list 1 (some 1) [(D.v (.int .u8 (5 : Int))),(D.v (.int .u32 (2 : Int))),(D.v (.int .u32 (5 : Int))),(D.v (.int .u32 (29 : Int))),(D.v (.int .u32 (32 : Int))),zU,zU,zU,zU,zU,zU,zU,zU,zU,zU,zU,zU]),(D.list 0 (some 0) []),zI,(D.v (.int .u8 (3 : Int))),(D.v (.int .u32 (1 : Int))),(D.v (.int .u32 (2 : Int))),(D.v (.int .u32 (3 : Int))),zU,zU,zU,zU,zU,zU,zU,zU,zU,zU,zU,zU,zU,(D.list 2 (some 2) [(D.v (.int .u8 (3 : Int))),(D.v (.int .u32 (1 : Int))),(D.v (.int .u32 (2 : Int))),(D.v (.int .u32 (4 : Int))),zU,zU,zU,zU,zU,zU,zU,zU,zU,zU,zU,zU,zU,(D.v (.int .u8 (3 : Int))),(D.v (.int .u32 (1 : Int))),(D.v (.int .u32 (2 : Int))),(D.v (.int .u32 (5 : Int))),zU,zU,zU,zU,zU,zU,zU,zU,zU,zU,zU,zU,zU]),(D.list 0 (some 0) []),zI,(D.v (.int .u8 (5 : Int))),(D.v (.int .u32 (2 : Int))),(D.v (.int .u32 (5 : Int))),(D.v (.int .u32 (29 : Int))),(D.v (.int .u32 (32 : Int))),zU,zU,zU,zU,zU,zU,zU,zU,zU,zU,zU,zU,(D.list 1 (some 1) [(D.v (.int .u8 (5 : Int))),(D.v (.int .u32 (2 : Int))),(D.v (.int .u32 (5 : Int))),(D.v (.int .u32 (29 : Int))),(D.v (.int .u32 (32 : Int))),zU,zU,zU,zU,zU,zU,zU,zU,zU,zU,zU,zU]),(D.list 0 (some 0) []),(D.v (.int .i64 (1 : Int))),(D.v (.int .u8 (3 : Int))),(D.v (.int .u32 (1 : Int))),(D.v (.int .u32 (2 : Int))),(D.v (.int .u32 (4 : Int))),zU,zU,zU,zU,zU,zU,zU,zU,zU,zU,zU,zU,zU,(D.list 1 (some 1) [(D.v (.int .u8 (3 : Int))),(D.v (.int .u32 (1 : Int))),(D.v (.int .u32 (2 : Int))),(D.v (.int .u32 (4 : Int))),zU,zU,zU,zU,zU,zU,zU,zU,zU,zU,zU,zU,zU]),(D.list 0 (some 0) [])])])]
def Zt6 : D := (D.tup [(D.list 4 (some 4) [zI,(D.v (.int .i64 (1 : Int))),(D.v (.int .i64 (1 : Int))),(D.v (.int .i64 (2 : Int)))]),zI])
def Zt7 : List D := [(D.agg [(D.list 5 (some 5) [(D.v (.int .i64 (-1 : Int))),(D.v (.int .u8 (5 : Int))),(D.v (.int .u32 (2 : Int))),(D.v (.int .u32 (5 : Int))),(D.v (.int .u32 (29 : Int))),(D.v (.int .u32 (32 : Int))),zU,zU,zU,zU,zU,zU,zU,zU,zU,zU,zU,zU,(D.list 1 (some 1) [(D.v (.int .u8 (5 : Int))),(D.v (.int .u32 (2 : Int))),(D.v (.int .u32 (5 : Int))),(D.v (.int .u32 (29 : Int))),(D.v (.int .u32 (32 : Int))),zU,zU,zU,zU,zU,zU,zU,zU,zU,zU,zU,zU]),(D.list 0 (some 0) []),zI,(D.v (.int .u8 (3 : Int))),(D.v (.int .u32 (1 : Int))),(D.v (.int .u32 (2 : Int))),(D.v (.int .u32 (3 : Int))),zU,zU,zU,zU,zU,zU,zU,zU,zU,zU,zU,zU,zU,(D.list 2 (some 2) [(D.v (.int .u8 (3 : Int))),(D.v (.int .u32 (1 : Int))),(D.v (.int .u32 (2 : Int))),(D.v (.int .u32 (4 : Int))),zU,zU,zU,zU,zU,zU,zU,zU,zU,zU,zU,zU,zU,(D.v (.int .u8 (3 : Int))),(D.v (.int .u32 (1 : Int))),(D.v (.int .u32 (2 : Int))),(D.v (.int .u32 (5 : Int))),zU,zU,zU,zU,zU,zU,zU,zU,zU,zU,zU,zU,zU]),(D.list 0 (some 0) []),zI,(D.v (.int .u8 (5 : Int))),(D.v (.int .u32 (2 : Int))),(D.v (.int .u32 (5 : Int))),(D.v (.int .u32 (29 : Int))),(D.v (.int .u32 (32 : Int))),zU,zU,zU,zU,zU,zU,zU,zU,zU,zU,zU,zU,(D.list 1 (some 1) [(D.v (.int .u8 (5 : Int))),(D.v (.int .u32 (2 : Int))),(D.v (.int .u32 (5 : Int))),(D.v (.int .u32 (29 : Int))),(D.v (.int .u32 (32 : Int))),zU,zU,zU,zU,zU,zU,zU,zU,zU,zU,zU,zU]),(D.list 0 (some 0) []),(D.v (.int .i64 (1 : Int))),(D.v (.int .u8 (3 : Int))),(D.v (.int .u32 (1 : Int))),(D.v (.int .u32 (2 : Int))),(D.v (.int .u32 (4 : Int))),zU,zU,zU,zU,zU,zU,zU,zU,zU,zU,zU,zU,zU,(D.list 1 (some 1) [(D.v (.int .u8 (3 : Int))),(D.v (.int .u32 (1 : Int))),(D.v (.int .u32 (2 : Int))),(D.v (.int .u32 (4 : Int))),zU,zU,zU,zU,zU,zU,zU,zU,zU,zU,zU,zU,zU]),(D.list 0 (some 0) []),(D.v (.int .i64 (1 : Int))),(D.v (.int .u8 (3 : Int))),(D.v (.int .u32 (1 : Int))),(D.v (.int .u32 (2 : Int))),(D.v (.int .u32 (5 : Int))),zU,zU,zU,zU,zU,zU,zU,zU,zU,zU,zU,zU,zU,(D.list 1 (some 1) [(D.v (.int .u8 (3 : Int))),(D.v (.int .u32 (1 : Int))),(D.v (.int .u32 (2 : Int))),(D.v (.int .u32 (5 : Int))),zU,zU,zU,zU,zU,zU,zU,zU,zU,zU,zU,zU,zU]),(D.list 0 (some 0) [])])])]
def Zt8 : D := (D.tup [(D.list 5 (some 5) [zI,(D.v (.int .i64 (1 : Int))),(D.v (.int .i64 (1 : Int))),(D.v (.int .i64 (2 : Int))),(D.v (.int .i64 (2 : Int)))]),zI])
theorem Z159 : funD Tg Z3b 100000 60 Zf Tryz.f50 Zsz = some Zt0 := by kernel_rfl
theorem Z15a : funD Tg Z3b 100000 60 Zf Tryz.f50 Zt1 = some Zt2 := by kernel_rfl
theorem Z15b : funD Tg Z3b 100000 60 Zf Tryz.f50 Zt3 = some Zt4 := by kernel_rfl
theorem Z15c : funD Tg Z3b 100000 60 Zf Tryz.f50 Zt5 = some Zt6 := by kernel_rfl
theorem Z15d : funD Tg Z3b 100000 60 Zf Tryz.f50 Zt7 = some Zt8 := by kernel_rfl
def Z56 (ds : List D) : Option D := if isT Zsz ds then some Zt0 else (if isT Zt1 ds then some Zt2 else (if isT Zt3 ds then some Zt4 else (if isT Zt5 ds then some Zt6 else (if isT Zt7 ds then some Zt8 else (none)))))
theorem td_trees_examine : ∀ ds d,Z56 ds = some d → DataSem Tg 50 ds d := by
 intro ds d h
 unfold Z56 at h
 split at h
 ·rename_i ha; obtain rfl := isT_eq ha; cases h; exact Z3t Z159
 split at h
 ·rename_i ha; obtain rfl := isT_eq ha; cases h; exact Z3t Z15a
 split at h
 ·rename_i ha; obtain rfl := isT_eq ha; cases h; exact Z3t Z15b
 split at h
 ·rename_i ha; obtain rfl := isT_eq ha; cases h; exact Z3t Z15c
 split at h
 ·rename_i ha; obtain rfl := isT_eq ha; cases h; exact Z3t Z15d
 cases h
def Z48 : FnH := ⟨[],[]⟩
theorem Z9d : Enters Tg 41 := ⟨Tryz.f41,Tryz.func41,by kernel_rfl,by kernel_rfl⟩
noncomputable def Zqz : Hints := ⟨[(50,Z56)],[(41,Tryz.f41,Z48)],[203,205,206,208,148]⟩
theorem Z136 {m n : Nat} {ds : List D} {d : D} (h : funD Tg Zqz m n Z48 Tryz.f41 ds = some d) : DataSem Tg 41 ds d := Z0 (H := Zqz) (SpOk.cons td_trees_examine SpOk.nil) mixed (InlOk.cons Tryz.func41 Z9d InlOk.nil) Tryz.func41 Z9d h
def Zxv : List D := [(D.agg [(D.list 5 (some 5) [(D.v (.int .i64 (-1 : Int))),(D.v (.int .u8 (5 : Int))),(D.v (.int .u32 (2 : Int))),(D.v (.int .u32 (5 : Int))),(D.v (.int .u32 (29 : Int))),(D.v (.int .u32 (32 : Int))),zU,zU,zU,zU,zU,zU,zU,zU,zU,zU,zU,zU,(D.list 1 (some 1) [(D.v (.int .u8 (5 : Int))),(D.v (.int .u32 (2 : Int))),(D.v (.int .u32 (5 : Int))),(D.v (.int .u32 (29 : Int))),(D.v (.int .u32 (32 : Int))),zU,zU,zU,zU,zU,zU,zU,zU,zU,zU,zU,zU]),(D.list 0 (some 0) []),zI,(D.v (.int .u8 (3 : Int))),(D.v (.int .u32 (1 : Int))),(D.v (.int .u32 (2 : Int))),(D.v (.int .u32 (3 : Int))),zU,zU,zU,zU,zU,zU,zU,zU,zU,zU,zU,zU,zU,(D.list 2 (some 2) [(D.v (.int .u8 (3 : Int))),(D.v (.int .u32 (1 : Int))),(D.v (.int .u32 (2 : Int))),(D.v (.int .u32 (4 : Int))),zU,zU,zU,zU,zU,zU,zU,zU,zU,zU,zU,zU,zU,(D.v (.int .u8 (3 : Int))),(D.v (.int .u32 (1 : Int))),(D.v (.int .u32 (2 : Int))),(D.v (.int .u32 (5 : Int))),zU,zU,zU,zU,zU,zU,zU,zU,zU,zU,zU,zU,zU]),(D.list 0 (some 0) []),zI,(D.v (.int .u8 (5 : Int))),(D.v (.int .u32 (2 : Int))),(D.v (.int .u32 (5 : Int))),(D.v (.int .u32 (29 : Int))),(D.v (.int .u32 (32 : Int))),zU,zU,zU,zU,zU,zU,zU,zU,zU,zU,zU,zU,(D.list 1 (some 1) [(D.v (.int .u8 (5 : Int))),(D.v (.int .u32 (2 : Int))),(D.v (.int .u32 (5 : Int))),(D.v (.int .u32 (29 : Int))),(D.v (.int .u32 (32 : Int))),zU,zU,zU,zU,zU,zU,zU,zU,zU,zU,zU,zU]),(D.list 0 (some 0) []),(D.v (.int .i64 (1 : Int))),(D.v (.int .u8 (3 : Int))),(D.v (.int .u32 (1 : Int))),(D.v (.int .u32 (2 : Int))),(D.v (.int .u32 (4 : Int))),zU,zU,zU,zU,zU,zU,zU,zU,zU,zU,zU,zU,zU,(D.list 1 (some 1) [(D.v (.int .u8 (3 : Int))),(D.v (.int .u32 (1 : Int))),(D.v (.int .u32 (2 : Int))),(D.v (.int .u32 (4 : Int))),zU,zU,zU,zU,zU,zU,zU,zU,zU,zU,zU,zU,zU]),(D.list 0 (some 0) []),(D.v (.int .i64 (1 : Int))),(D.v (.int .u8 (3 : Int))),(D.v (.int .u32 (1 : Int))),(D.v (.int .u32 (2 : Int))),(D.v (.int .u32 (5 : Int))),zU,zU,zU,zU,zU,zU,zU,zU,zU,zU,zU,zU,zU,(D.list 1 (some 1) [(D.v (.int .u8 (3 : Int))),(D.v (.int .u32 (1 : Int))),(D.v (.int .u32 (2 : Int))),(D.v (.int .u32 (5 : Int))),zU,zU,zU,zU,zU,zU,zU,zU,zU,zU,zU,zU,zU]),(D.list 0 (some 0) [])])])]
def Zxw : D := zI
theorem Z18y : funD Tg Zqz 100000 60 Z48 Tryz.f41 Zxv = some Zxw := by kernel_rfl
def Zen (ds : List D) : Option D := if isT Zxv ds then some Zxw else (none)
theorem td_trees_Check : ∀ ds d,Zen ds = some d → DataSem Tg 41 ds d := by
 intro ds d h
 unfold Zen at h
 split at h
 ·rename_i ha; obtain rfl := isT_eq ha; cases h; exact Z136 Z18y
 cases h
def Zo : FnH := ⟨[(3,⟨(bm 1800 24),[(8,20)],none⟩)],[]⟩
theorem Z9e : Enters Tg 47 := ⟨Tryz.f47,Tryz.func47,by kernel_rfl,by kernel_rfl⟩
noncomputable def Z4t : Hints := ⟨[],[(47,Tryz.f47,Zo)],[203,205,206,208,148]⟩
theorem Z4u {m n : Nat} {ds : List D} {d : D} (h : funD Tg Z4t m n Zo Tryz.f47 ds = some d) : DataSem Tg 47 ds d := Z0 (H := Z4t) SpOk.nil mixed (InlOk.cons Tryz.func47 Z9e InlOk.nil) Tryz.func47 Z9e h
def Zxx : List D := [(D.agg [(D.list 1 (some 1) [(D.v (.int .i64 (-1 : Int))),(D.v (.int .u8 (5 : Int))),(D.v (.int .u32 (2 : Int))),(D.v (.int .u32 (5 : Int))),(D.v (.int .u32 (29 : Int))),(D.v (.int .u32 (32 : Int))),zU,zU,zU,zU,zU,zU,zU,zU,zU,zU,zU,zU,(D.list 1 (some 1) [(D.v (.int .u8 (5 : Int))),(D.v (.int .u32 (2 : Int))),(D.v (.int .u32 (5 : Int))),(D.v (.int .u32 (29 : Int))),(D.v (.int .u32 (32 : Int))),zU,zU,zU,zU,zU,zU,zU,zU,zU,zU,zU,zU]),(D.list 0 (some 0) [])])])]
def Zxy : D := (D.mp [((D.agg [(D.v (.int .i64 (-1 : Int))),(D.v (.int .u8 (5 : Int))),(D.v (.int .u32 (2 : Int))),(D.v (.int .u32 (5 : Int))),(D.v (.int .u32 (29 : Int))),(D.v (.int .u32 (32 : Int))),zU,zU,zU,zU,zU,zU,zU,zU,zU,zU,zU,zU]),zI)])
def Zxz : List D := [(D.agg [(D.list 2 (some 2) [(D.v (.int .i64 (-1 : Int))),(D.v (.int .u8 (5 : Int))),(D.v (.int .u32 (2 : Int))),(D.v (.int .u32 (5 : Int))),(D.v (.int .u32 (29 : Int))),(D.v (.int .u32 (32 : Int))),zU,zU,zU,zU,zU,zU,zU,zU,zU,zU,zU,zU,(D.list 1 (some 1) [(D.v (.int .u8 (5 : Int))),(D.v (.int .u32 (2 : Int))),(D.v (.int .u32 (5 : Int))),(D.v (.int .u32 (29 : Int))),(D.v (.int .u32 (32 : Int))),zU,zU,zU,zU,zU,zU,zU,zU,zU,zU,zU,zU]),(D.list 0 (some 0) []),zI,(D.v (.int .u8 (3 : Int))),(D.v (.int .u32 (1 : Int))),(D.v (.int .u32 (2 : Int))),(D.v (.int .u32 (3 : Int))),zU,zU,zU,zU,zU,zU,zU,zU,zU,zU,zU,zU,zU,(D.list 2 (some 2) [(D.v (.int .u8 (3 : Int))),(D.v (.int .u32 (1 : Int))),(D.v (.int .u32 (2 : Int))),(D.v (.int .u32 (4 : Int))),zU,zU,zU,zU,zU,zU,zU,zU,zU,zU,zU,zU,zU,(D.v (.int .u8 (3 : Int))),(D.v (.int .u32 (1 : Int))),(D.v (.int .u32 (2 : Int))),(D.v (.int .u32 (5 : Int))),zU,zU,zU,zU,zU,zU,zU,zU,zU,zU,zU,zU,zU]),(D.list 0 (some 0) [])])])]
def Zy0 : D := (D.mp [((D.agg [(D.v (.int .i64 (-1 : Int))),(D.v (.int .u8 (5 : Int))),(D.v (.int .u32 (2 : Int))),(D.v (.int .u32 (5 : Int))),(D.v (.int .u32 (29 : Int))),(D.v (.int .u32 (32 : Int))),zU,zU,zU,zU,zU,zU,zU,zU,zU,zU,zU,zU]),zI),((D.agg [zI,(D.v (.int .u8 (3 : Int))),(D.v (.int .u32 (1 : Int))),(D.v (.int .u32 (2 : Int))),(D.v (.int .u32 (3 : Int))),zU,zU,zU,zU,zU,zU,zU,zU,zU,zU,zU,zU,zU]),(D.v (.int .i64 (1 : Int))))])
def Zy1 : List D := [(D.agg [(D.list 3 (some 3) [(D.v (.int .i64 (-1 : Int))),(D.v (.int .u8 (5 : Int))),(D.v (.int .u32 (2 : Int))),(D.v (.int .u32 (5 : Int))),(D.v (.int .u32 (29 : Int))),(D.v (.int .u32 (32 : Int))),zU,zU,zU,zU,zU,zU,zU,zU,zU,zU,zU,zU,(D.list 1 (some 1) [(D.v (.int .u8 (5 : Int))),(D.v (.int .u32 (2 : Int))),(D.v (.int .u32 (5 : Int))),(D.v (.int .u32 (29 : Int))),(D.v (.int .u32 (32 : Int))),zU,zU,zU,zU,zU,zU,zU,zU,zU,zU,zU,zU]),(D.list 0 (some 0) []),zI,(D.v (.int .u8 (3 : Int))),(D.v (.int .u32 (1 : Int))),(D.v (.int .u32 (2 : Int))),(D.v (.int .u32 (3 : Int))),zU,zU,zU,zU,zU,zU,zU,zU,zU,zU,zU,zU,zU,(D.list 2 (some 2) [(D.v (.int .u8 (3 : Int))),(D.v (.int .u32 (1 : Int))),(D.v (.int .u32 (2 : Int))),(D.v (.int .u32 (4 : Int))),zU,zU,zU,zU,zU,zU,zU,zU,zU,zU,zU,zU,zU,(D.v (.int .u8 (3 : Int))),(D.v (.int .u32 (1 : Int))),(D.v (.int .u32 (2 : Int))),(D.v (.int .u32 (5 : Int))),zU,zU,zU,zU,zU,zU,zU,zU,zU,zU,zU,zU,zU]),(D.list 0 (some 0) []),zI,(D.v (.int .u8 (5 : Int))),(D.v (.int .u32 (2 : Int))),(D.v (.int .u32 (5 : Int))),(D.v (.int .u32 (29 : Int))),(D.v (.int .u32 (32 : Int))),zU,zU,zU,zU,zU,zU,zU,zU,zU,zU,zU,zU,(D.list 1 (some 1) [(D.v (.int .u8 (5 : Int))),(D.v (.int .u32 (2 : Int))),(D.v (.int .u32 (5 : Int))),(D.v (.int .u32 (29 : Int))),(D.v (.int .u32 (32 : Int))),zU,zU,zU,zU,zU,zU,zU,zU,zU,zU,zU,zU]),(D.list 0 (some 0) [])])])]
def Zy2 : D := (D.mp [((D.agg [(D.v (.int .i64 (-1 : Int))),(D.v (.int .u8 (5 : Int))),(D.v (.int .u32 (2 : Int))),(D.v (.int .u32 (5 : Int))),(D.v (.int .u32 (29 : Int))),(D.v (.int .u32 (32 : Int))),zU,zU,zU,zU,zU,zU,zU,zU,zU,zU,zU,zU]),zI),((D.agg [zI,(D.v (.int .u8 (3 : Int))),(D.v (.int .u32 (1 : Int))),(D.v (.int .u32 (2 : Int))),(D.v (.int .u32 (3 : Int))),zU,zU,zU,zU,zU,zU,zU,zU,zU,zU,zU,zU,zU]),(D.v (.int .i64 (1 : Int)))),((D.agg [zI,(D.v (.int .u8 (5 : Int))),(D.v (.int .u32 (2 : Int))),(D.v (.int .u32 (5 : Int))),(D.v (.int .u32 (29 : Int))),(D.v (.int .u32 (32 : Int))),zU,zU,zU,zU,zU,zU,zU,zU,zU,zU,zU,zU]),(D.v (.int .i64 (2 : Int))))])
def Zy3 : List D := [(D.agg [(D.list 4 (some 4) [(D.v (.int .i64 (-1 : Int))),(D.v (.int .u8 (5 : Int))),(D.v (.int .u32 (2 : Int))),(D.v (.int .u32 (5 : Int))),(D.v (.int .u32 (29 : Int))),(D.v (.int .u32 (32 : Int))),zU,zU,zU,zU,zU,zU,zU,zU,zU,zU,zU,zU,(D.list 1 (some 1) [(D.v (.int .u8 (5 : Int))),(D.v (.int .u32 (2 : Int))),(D.v (.int .u32 (5 : Int))),(D.v (.int .u32 (29 : Int))),(D.v (.int .u32 (32 : Int))),zU,zU,zU,zU,zU,zU,zU,zU,zU,zU,zU,zU]),(D.list 0 (some 0) []),zI,(D.v (.int .u8 (3 : Int))),(D.v (.int .u32 (1 : Int))),(D.v (.int .u32 (2 : Int))),(D.v (.int .u32 (3 : Int))),zU,zU,zU,zU,zU,zU,zU,zU,zU,zU,zU,zU,zU,(D.list 2 (some 2) [(D.v (.int .u8 (3 : Int))),(D.v (.int .u32 (1 : Int))),(D.v (.int .u32 (2 : Int))),(D.v (.int .u32 (4 : Int))),zU,zU,zU,zU,zU,zU,zU,zU,zU,zU,zU,zU,zU,(D.v (.int .u8 (3 : Int))),(D.v (.int .u32 (1 : Int))),(D.v (.int .u32 (2 : Int))),(D.v (.int .u32 (5 : Int))),zU,zU,zU,zU,zU,zU,zU,zU,zU,zU,zU,zU,zU]),(D.list 0 (some 0) []),zI,(D.v (.int .u8 (5 : Int))),(D.v (.int .u32 (2 : Int))),(D.v (.int .u32 (5 : Int))),(D.v (.int .u32 (29 : Int))),(D.v (.int .u32 (32 : Int))),zU,zU,zU,zU,zU,zU,zU,zU,zU,zU,zU,zU,(D.list 1 (some 1) [(D.v (.int .u8 (5 : Int))),(D.v (.int .u32 (2 : Int))),(D.v (.int .u32 (5 : Int))),(D.v (.int .u32 (29 : Int))),(D.v (.int .u32 (32 : Int))),zU,zU,zU,zU,zU,zU,zU,zU,zU,zU,zU,zU]),(D.list 0 (some 0) []),(D.v (.int .i64 (1 : Int))),(D.v (.int .u8 (3 : Int))),(D.v (.int .u32 (1 : Int))),(D.v (.int .u32 (2 : Int))),(D.v (.int .u32 (4 : Int))),zU,zU,zU,zU,zU,zU,zU,zU,zU,zU,zU,zU,zU,(D.list 1 (some 1) [(D.v (.int .u8 (3 : Int))),(D.v (.int .u32 (1 : Int))),(D.v (.int .u32 (2 : Int))),(D.v (.int .u32 (4 : Int))),zU,zU,zU,zU,zU,zU,zU,zU,zU,zU,zU,zU,zU]),(D.list 0 (some 0) [])])])]
def Zy4 : D := (D.mp [((D.agg [(D.v (.int .i64 (-1 : Int))),(D.v (.int .u8 (5 : Int))),(D.v (.int .u32 (2 : Int))),(D.v (.int .u32 (5 : Int))),(D.v (.int .u32 (29 : Int))),(D.v (.int .u32 (32 : Int))),zU,zU,zU,zU,zU,zU,zU,zU,zU,zU,zU,zU]),zI),((D.agg [zI,(D.v (.int .u8 (3 : Int))),(D.v (.int .u32 (1 : Int))),(D.v (.int .u32 (2 : Int))),(D.v (.int .u32 (3 : Int))),zU,zU,zU,zU,zU,zU,zU,zU,zU,zU,zU,zU,zU]),(D.v (.int .i64 (1 : Int)))),((D.agg [zI,(D.v (.int .u8 (5 : Int))),(D.v (.int .u32 (2 : Int))),(D.v (.int .u32 (5 : Int))),(D.v (.int .u32 (29 : Int))),(D.v (.int .u32 (32 : Int))),zU,zU,zU,zU,zU,zU,zU,zU,zU,zU,zU,zU]),(D.v (.int .i64 (2 : Int)))),((D.agg [(D.v (.int .i64 (1 : Int))),(D.v (.int .u8 (3 : Int))),(D.v (.int .u32 (1 : Int))),(D.v (.int .u32 (2 : Int))),(D.v (.int .u32 (4 : Int))),zU,zU,zU,zU,zU,zU,zU,zU,zU,zU,zU,zU,zU]),(D.v (.int .i64 (3 : Int))))])
def Zy5 : List D := [(D.agg [(D.list 5 (some 5) [(D.v (.int .i64 (-1 : Int))),(D.v (.int .u8 (5 : Int))),(D.v (.int .u32 (2 : Int))),(D.v (.int .u32 (5 : Int))),(D.v (.int .u32 (29 : Int))),(D.v (.int .u32 (32 : Int))),zU,zU,zU,zU,zU,zU,zU,zU,zU,zU,zU,zU,(D.list 1 (some 1) [(D.v (.int .u8 (5 : Int))),(D.v (.int .u32 (2 : Int))),(D.v (.int .u32 (5 : Int))),(D.v (.int .u32 (29 : Int))),(D.v (.int .u32 (32 : Int))),zU,zU,zU,zU,zU,zU,zU,zU,zU,zU,zU,zU]),(D.list 0 (some 0) []),zI,(D.v (.int .u8 (3 : Int))),(D.v (.int .u32 (1 : Int))),(D.v (.int .u32 (2 : Int))),(D.v (.int .u32 (3 : Int))),zU,zU,zU,zU,zU,zU,zU,zU,zU,zU,zU,zU,zU,(D.list 2 (some 2) [(D.v (.int .u8 (3 : Int))),(D.v (.int .u32 (1 : Int))),(D.v (.int .u32 (2 : Int))),(D.v (.int .u32 (4 : Int))),zU,zU,zU,zU,zU,zU,zU,zU,zU,zU,zU,zU,zU,(D.v (.int .u8 (3 : Int))),(D.v (.int .u32 (1 : Int))),(D.v (.int .u32 (2 : Int))),(D.v (.int .u32 (5 : Int))),zU,zU,zU,zU,zU,zU,zU,zU,zU,zU,zU,zU,zU]),(D.list 0 (some 0) []),zI,(D.v (.int .u8 (5 : Int))),(D.v (.int .u32 (2 : Int))),(D.v (.int .u32 (5 : Int))),(D.v (.int .u32 (29 : Int))),(D.v (.int .u32 (32 : Int))),zU,zU,zU,zU,zU,zU,zU,zU,zU,zU,zU,zU,(D.list 1 (some 1) [(D.v (.int .u8 (5 : Int))),(D.v (.int .u32 (2 : Int))),(D.v (.int .u32 (5 : Int))),(D.v (.int .u32 (29 : Int))),(D.v (.int .u32 (32 : Int))),zU,zU,zU,zU,zU,zU,zU,zU,zU,zU,zU,zU]),(D.list 0 (some 0) []),(D.v (.int .i64 (1 : Int))),(D.v (.int .u8 (3 : Int))),(D.v (.int .u32 (1 : Int))),(D.v (.int .u32 (2 : Int))),(D.v (.int .u32 (4 : Int))),zU,zU,zU,zU,zU,zU,zU,zU,zU,zU,zU,zU,zU,(D.list 1 (some 1) [(D.v (.int .u8 (3 : Int))),(D.v (.int .u32 (1 : Int))),(D.v (.int .u32 (2 : Int))),(D.v (.int .u32 (4 : Int))),zU,zU,zU,zU,zU,zU,zU,zU,zU,zU,zU,zU,zU]),(D.list 0 (some 0) []),(D.v (.int .i64 (1 : Int))),(D.v (.int .u8 (3 : Int))),(D.v (.int .u32 (1 : Int))),(D.v (.int .u32 (2 : Int))),(D.v (.int .u32 (5 : Int))),zU,zU,zU,zU,zU,zU,zU,zU,zU,zU,zU,zU,zU,(D.list 1 (some 1) [(D.v (.int .u8 (3 : Int))),(D.v (.int .u32 (1 : Int))),(D.v (.int .u32 (2 : Int))),(D.v (.int .u32 (5 : Int))),zU,zU,zU,zU,zU,zU,zU,zU,zU,zU,zU,zU,zU]),(D.list 0 (some 0) [])])])]
def Zy6 : D := (D.mp [((D.agg [(D.v (.int .i64 (-1 : Int))),(D.v (.int .u8 (5 : Int))),(D.v (.int .u32 (2 : Int))),(D.v (.int .u32 (5 : Int))),(D.v (.int .u32 (29 : Int))),(D.v (.int .u32 (32 : Int))),zU,zU,zU,zU,zU,zU,zU,zU,zU,zU,zU,zU]),zI),((D.agg [zI,(D.v (.int .u8 (3 : Int))),(D.v (.int .u32 (1 : Int))),(D.v (.int .u32 (2 : Int))),(D.v (.int .u32 (3 : Int))),zU,zU,zU,zU,zU,zU,zU,zU,zU,zU,zU,zU,zU]),(D.v (.int .i64 (1 : Int)))),((D.agg [zI,(D.v (.int .u8 (5 : Int))),(D.v (.int .u32 (2 : Int))),(D.v (.int .u32 (5 : Int))),(D.v (.int .u32 (29 : Int))),(D.v (.int .u32 (32 : Int))),zU,zU,zU,zU,zU,zU,zU,zU,zU,zU,zU,zU]),(D.v (.int .i64 (2 : Int)))),((D.agg [(D.v (.int .i64 (1 : Int))),(D.v (.int .u8 (3 : Int))),(D.v (.int .u32 (1 : Int))),(D.v (.int .u32 (2 : Int))),(D.v (.int .u32 (4 : Int))),zU,zU,zU,zU,zU,zU,zU,zU,zU,zU,zU,zU,zU]),(D.v (.int .i64 (3 : Int)))),((D.agg [(D.v (.int .i64 (1 : Int))),(D.v (.int .u8 (3 : Int))),(D.v (.int .u32 (1 : Int))),(D.v (.int .u32 (2 : Int))),(D.v (.int .u32 (5 : Int))),zU,zU,zU,zU,zU,zU,zU,zU,zU,zU,zU,zU,zU]),(D.v (.int .i64 (4 : Int))))])
theorem Z18z : funD Tg Z4t 100000 60 Zo Tryz.f47 Zxx = some Zxy := by kernel_rfl
theorem Z190 : funD Tg Z4t 100000 60 Zo Tryz.f47 Zxz = some Zy0 := by kernel_rfl
theorem Z191 : funD Tg Z4t 100000 60 Zo Tryz.f47 Zy1 = some Zy2 := by kernel_rfl
theorem Z192 : funD Tg Z4t 100000 60 Zo Tryz.f47 Zy3 = some Zy4 := by kernel_rfl
theorem Z193 : funD Tg Z4t 100000 60 Zo Tryz.f47 Zy5 = some Zy6 := by kernel_rfl
def Zlz (ds : List D) : Option D := if isT Zxx ds then some Zxy else (if isT Zxz ds then some Zy0 else (if isT Zy1 ds then some Zy2 else (if isT Zy3 ds then some Zy4 else (if isT Zy5 ds then some Zy6 else (none)))))
theorem td_trees_edges : ∀ ds d,Zlz ds = some d → DataSem Tg 47 ds d := by
 intro ds d h
 unfold Zlz at h
 split at h
 ·rename_i ha; obtain rfl := isT_eq ha; cases h; exact Z4u Z18z
 split at h
 ·rename_i ha; obtain rfl := isT_eq ha; cases h; exact Z4u Z190
 split at h
 ·rename_i ha; obtain rfl := isT_eq ha; cases h; exact Z4u Z191
 split at h
 ·rename_i ha; obtain rfl := isT_eq ha; cases h; exact Z4u Z192
 split at h
 ·rename_i ha; obtain rfl := isT_eq ha; cases h; exact Z4u Z193
 cases h
def Z51 : FnH := ⟨[(7,⟨(bm 3670400 39),[(19,17)],none⟩)],[]⟩
theorem Zd2 : Enters Tg 13 := ⟨Tryz.f13,Tryz.func13,by kernel_rfl,by kernel_rfl⟩
noncomputable def Ztt : Hints := ⟨[(41,Zen),(47,Zlz)],[(13,Tryz.f13,Z51)],[203,205,206,208,148]⟩
theorem Z15e {m n : Nat} {ds : List D} {d : D} (h : funD Tg Ztt m n Z51 Tryz.f13 ds = some d) : DataSem Tg 13 ds d := Z0 (H := Ztt) (SpOk.cons td_trees_Check (SpOk.cons td_trees_edges SpOk.nil)) mixed (InlOk.cons Tryz.func13 Zd2 InlOk.nil) Tryz.func13 Zd2 h
def Z103 : List D := [(D.agg [(D.list 5 (some 5) [(D.v (.int .i64 (-1 : Int))),(D.v (.int .u8 (5 : Int))),(D.v (.int .u32 (2 : Int))),(D.v (.int .u32 (5 : Int))),(D.v (.int .u32 (29 : Int))),(D.v (.int .u32 (32 : Int))),zU,zU,zU,zU,zU,zU,zU,zU,zU,zU,zU,zU,(D.list 1 (some 1) [(D.v (.int .u8 (5 : Int))),(D.v (.int .u32 (2 : Int))),(D.v (.int .u32 (5 : Int))),(D.v (.int .u32 (29 : Int))),(D.v (.int .u32 (32 : Int))),zU,zU,zU,zU,zU,zU,zU,zU,zU,zU,zU,zU]),(D.list 0 (some 0) []),zI,(D.v (.int .u8 (3 : Int))),(D.v (.int .u32 (1 : Int))),(D.v (.int .u32 (2 : Int))),(D.v (.int .u32 (3 : Int))),zU,zU,zU,zU,zU,zU,zU,zU,zU,zU,zU,zU,zU,(D.list 2 (some 2) [(D.v (.int .u8 (3 : Int))),(D.v (.int .u32 (1 : Int))),(D.v (.int .u32 (2 : Int))),(D.v (.int .u32 (4 : Int))),zU,zU,zU,zU,zU,zU,zU,zU,zU,zU,zU,zU,zU,(D.v (.int .u8 (3 : Int))),(D.v (.int .u32 (1 : Int))),(D.v (.int .u32 (2 : Int))),(D.v (.int .u32 (5 : Int))),zU,zU,zU,zU,zU,zU,zU,zU,zU,zU,zU,zU,zU]),(D.list 0 (some 0) []),zI,(D.v (.int .u8 (5 : Int))),(D.v (.int .u32 (2 : Int))),(D.v (.int .u32 (5 : Int))),(D.v (.int .u32 (29 : Int))),(D.v (.int .u32 (32 : Int))),zU,zU,zU,zU,zU,zU,zU,zU,zU,zU,zU,zU,(D.list 1 (some 1) [(D.v (.int .u8 (5 : Int))),(D.v (.int .u32 (2 : Int))),(D.v (.int .u32 (5 : Int))),(D.v (.int .u32 (29 : Int))),(D.v (.int .u32 (32 : Int))),zU,zU,zU,zU,zU,zU,zU,zU,zU,zU,zU,zU]),(D.list 0 (some 0) []),(D.v (.int .i64 (1 : Int))),(D.v (.int .u8 (3 : Int))),(D.v (.int .u32 (1 : Int))),(D.v (.int .u32 (2 : Int))),(D.v (.int .u32 (4 : Int))),zU,zU,zU,zU,zU,zU,zU,zU,zU,zU,zU,zU,zU,(D.list 1 (some 1) [(D.v (.int .u8 (3 : Int))),(D.v (.int .u32 (1 : Int))),(D.v (.int .u32 (2 : Int))),(D.v (.int .u32 (4 : Int))),zU,zU,zU,zU,zU,zU,zU,zU,zU,zU,zU,zU,zU]),(D.list 0 (some 0) []),(D.v (.int .i64 (1 : Int))),(D.v (.int .u8 (3 : Int))),(D.v (.int .u32 (1 : Int))),(D.v (.int .u32 (2 : Int))),(D.v (.int .u32 (5 : Int))),zU,zU,zU,zU,zU,zU,zU,zU,zU,zU,zU,zU,zU,(D.list 1 (some 1) [(D.v (.int .u8 (3 : Int))),(D.v (.int .u32 (1 : Int))),(D.v (.int .u32 (2 : Int))),(D.v (.int .u32 (5 : Int))),zU,zU,zU,zU,zU,zU,zU,zU,zU,zU,zU,zU,zU]),(D.list 0 (some 0) [])])]),(D.list 3 (some 3) [(D.v (.int .u8 (5 : Int))),(D.v (.int .u32 (2 : Int))),(D.v (.int .u32 (5 : Int))),(D.v (.int .u32 (29 : Int))),(D.v (.int .u32 (32 : Int))),zU,zU,zU,zU,zU,zU,zU,zU,zU,zU,zU,zU,(D.v (.int .u8 (3 : Int))),(D.v (.int .u32 (1 : Int))),(D.v (.int .u32 (2 : Int))),(D.v (.int .u32 (3 : Int))),zU,zU,zU,zU,zU,zU,zU,zU,zU,zU,zU,zU,zU,(D.v (.int .u8 (3 : Int))),(D.v (.int .u32 (1 : Int))),(D.v (.int .u32 (2 : Int))),(D.v (.int .u32 (5 : Int))),zU,zU,zU,zU,zU,zU,zU,zU,zU,zU,zU,zU,zU])]
def Z104 : D := (D.tup [(D.v (.int .i64 (4 : Int))),zI])
theorem Z1bg : funD Tg Ztt 100000 60 Z51 Tryz.f13 Z103 = some Z104 := by kernel_rfl
def Zwj (ds : List D) : Option D := if isT Z103 ds then some Z104 else (none)
theorem td_trees_Find : ∀ ds d,Zwj ds = some d → DataSem Tg 13 ds d := by
 intro ds d h
 unfold Zwj at h
 split at h
 ·rename_i ha; obtain rfl := isT_eq ha; cases h; exact Z15e Z1bg
 cases h
def Z29 : FnH := ⟨[],[]⟩
theorem Zd3 : Enters Tg 48 := ⟨Tryz.f48,Tryz.func48,by kernel_rfl,by kernel_rfl⟩
noncomputable def Zeo : Hints := ⟨[(50,Z56)],[(48,Tryz.f48,Z29)],[203,205,206,208,148]⟩
theorem Zjo {m n : Nat} {ds : List D} {d : D} (h : funD Tg Zeo m n Z29 Tryz.f48 ds = some d) : DataSem Tg 48 ds d := Z0 (H := Zeo) (SpOk.cons td_trees_examine SpOk.nil) mixed (InlOk.cons Tryz.func48 Zd3 InlOk.nil) Tryz.func48 Zd3 h
def Z105 : List D := [(D.agg [(D.list 5 (some 5) [(D.v (.int .i64 (-1 : Int))),(D.v (.int .u8 (5 : Int))),(D.v (.int .u32 (2 : Int))),(D.v (.int .u32 (5 : Int))),(D.v (.int .u32 (29 : Int))),(D.v (.int .u32 (32 : Int))),zU,zU,zU,zU,zU,zU,zU,zU,zU,zU,zU,zU,(D.list 1 (some 1) [(D.v (.int .u8 (5 : Int))),(D.v (.int .u32 (2 : Int))),(D.v (.int .u32 (5 : Int))),(D.v (.int .u32 (29 : Int))),(D.v (.int .u32 (32 : Int))),zU,zU,zU,zU,zU,zU,zU,zU,zU,zU,zU,zU]),(D.list 0 (some 0) []),zI,(D.v (.int .u8 (3 : Int))),(D.v (.int .u32 (1 : Int))),(D.v (.int .u32 (2 : Int))),(D.v (.int .u32 (3 : Int))),zU,zU,zU,zU,zU,zU,zU,zU,zU,zU,zU,zU,zU,(D.list 2 (some 2) [(D.v (.int .u8 (3 : Int))),(D.v (.int .u32 (1 : Int))),(D.v (.int .u32 (2 : Int))),(D.v (.int .u32 (4 : Int))),zU,zU,zU,zU,zU,zU,zU,zU,zU,zU,zU,zU,zU,(D.v (.int .u8 (3 : Int))),(D.v (.int .u32 (1 : Int))),(D.v (.int .u32 (2 : Int))),(D.v (.int .u32 (5 : Int))),zU,zU,zU,zU,zU,zU,zU,zU,zU,zU,zU,zU,zU]),(D.list 0 (some 0) []),zI,(D.v (.int .u8 (5 : Int))),(D.v (.int .u32 (2 : Int))),(D.v (.int .u32 (5 : Int))),(D.v (.int .u32 (29 : Int))),(D.v (.int .u32 (32 : Int))),zU,zU,zU,zU,zU,zU,zU,zU,zU,zU,zU,zU,(D.list 1 (some 1) [(D.v (.int .u8 (5 : Int))),(D.v (.int .u32 (2 : Int))),(D.v (.int .u32 (5 : Int))),(D.v (.int .u32 (29 : Int))),(D.v (.int .u32 (32 : Int))),zU,zU,zU,zU,zU,zU,zU,zU,zU,zU,zU,zU]),(D.list 0 (some 0) []),(D.v (.int .i64 (1 : Int))),(D.v (.int .u8 (3 : Int))),(D.v (.int .u32 (1 : Int))),(D.v (.int .u32 (2 : Int))),(D.v (.int .u32 (4 : Int))),zU,zU,zU,zU,zU,zU,zU,zU,zU,zU,zU,zU,zU,(D.list 1 (some 1) [(D.v (.int .u8 (3 : Int))),(D.v (.int .u32 (1 : Int))),(D.v (.int .u32 (2 : Int))),(D.v (.int .u32 (4 : Int))),zU,zU,zU,zU,zU,zU,zU,zU,zU,zU,zU,zU,zU]),(D.list 0 (some 0) []),(D.v (.int .i64 (1 : Int))),(D.v (.int .u8 (3 : Int))),(D.v (.int .u32 (1 : Int))),(D.v (.int .u32 (2 : Int))),(D.v (.int .u32 (5 : Int))),zU,zU,zU,zU,zU,zU,zU,zU,zU,zU,zU,zU,zU,(D.list 1 (some 1) [(D.v (.int .u8 (3 : Int))),(D.v (.int .u32 (1 : Int))),(D.v (.int .u32 (2 : Int))),(D.v (.int .u32 (5 : Int))),zU,zU,zU,zU,zU,zU,zU,zU,zU,zU,zU,zU,zU]),(D.list 0 (some 0) [])])]),(D.v (.int .i64 (4 : Int)))]
def Z106 : D := (D.tup [(D.list 5 (some 5) [zI,(D.v (.int .i64 (1 : Int))),(D.v (.int .i64 (1 : Int))),(D.v (.int .i64 (2 : Int))),(D.v (.int .i64 (2 : Int)))]),zI])
def Z107 : List D := [(D.agg [(D.list 5 (some 5) [(D.v (.int .i64 (-1 : Int))),(D.v (.int .u8 (5 : Int))),(D.v (.int .u32 (2 : Int))),(D.v (.int .u32 (5 : Int))),(D.v (.int .u32 (29 : Int))),(D.v (.int .u32 (32 : Int))),zU,zU,zU,zU,zU,zU,zU,zU,zU,zU,zU,zU,(D.list 1 (some 1) [(D.v (.int .u8 (5 : Int))),(D.v (.int .u32 (2 : Int))),(D.v (.int .u32 (5 : Int))),(D.v (.int .u32 (29 : Int))),(D.v (.int .u32 (32 : Int))),zU,zU,zU,zU,zU,zU,zU,zU,zU,zU,zU,zU]),(D.list 0 (some 0) []),zI,(D.v (.int .u8 (3 : Int))),(D.v (.int .u32 (1 : Int))),(D.v (.int .u32 (2 : Int))),(D.v (.int .u32 (3 : Int))),zU,zU,zU,zU,zU,zU,zU,zU,zU,zU,zU,zU,zU,(D.list 2 (some 2) [(D.v (.int .u8 (3 : Int))),(D.v (.int .u32 (1 : Int))),(D.v (.int .u32 (2 : Int))),(D.v (.int .u32 (4 : Int))),zU,zU,zU,zU,zU,zU,zU,zU,zU,zU,zU,zU,zU,(D.v (.int .u8 (3 : Int))),(D.v (.int .u32 (1 : Int))),(D.v (.int .u32 (2 : Int))),(D.v (.int .u32 (5 : Int))),zU,zU,zU,zU,zU,zU,zU,zU,zU,zU,zU,zU,zU]),(D.list 0 (some 0) []),zI,(D.v (.int .u8 (5 : Int))),(D.v (.int .u32 (2 : Int))),(D.v (.int .u32 (5 : Int))),(D.v (.int .u32 (29 : Int))),(D.v (.int .u32 (32 : Int))),zU,zU,zU,zU,zU,zU,zU,zU,zU,zU,zU,zU,(D.list 1 (some 1) [(D.v (.int .u8 (5 : Int))),(D.v (.int .u32 (2 : Int))),(D.v (.int .u32 (5 : Int))),(D.v (.int .u32 (29 : Int))),(D.v (.int .u32 (32 : Int))),zU,zU,zU,zU,zU,zU,zU,zU,zU,zU,zU,zU]),(D.list 0 (some 0) []),(D.v (.int .i64 (1 : Int))),(D.v (.int .u8 (3 : Int))),(D.v (.int .u32 (1 : Int))),(D.v (.int .u32 (2 : Int))),(D.v (.int .u32 (4 : Int))),zU,zU,zU,zU,zU,zU,zU,zU,zU,zU,zU,zU,zU,(D.list 1 (some 1) [(D.v (.int .u8 (3 : Int))),(D.v (.int .u32 (1 : Int))),(D.v (.int .u32 (2 : Int))),(D.v (.int .u32 (4 : Int))),zU,zU,zU,zU,zU,zU,zU,zU,zU,zU,zU,zU,zU]),(D.list 0 (some 0) []),(D.v (.int .i64 (1 : Int))),(D.v (.int .u8 (3 : Int))),(D.v (.int .u32 (1 : Int))),(D.v (.int .u32 (2 : Int))),(D.v (.int .u32 (5 : Int))),zU,zU,zU,zU,zU,zU,zU,zU,zU,zU,zU,zU,zU,(D.list 1 (some 1) [(D.v (.int .u8 (3 : Int))),(D.v (.int .u32 (1 : Int))),(D.v (.int .u32 (2 : Int))),(D.v (.int .u32 (5 : Int))),zU,zU,zU,zU,zU,zU,zU,zU,zU,zU,zU,zU,zU]),(D.list 0 (some 0) [])])]),(D.v (.int .i64 (1 : Int)))]
def Z108 : D := (D.tup [(D.list 5 (some 5) [zI,(D.v (.int .i64 (1 : Int))),(D.v (.int .i64 (1 : Int))),(D.v (.int .i64 (2 : Int))),(D.v (.int .i64 (2 : Int)))]),zI])
def Z109 : List D := [(D.agg [(D.list 5 (some 5) [(D.v (.int .i64 (-1 : Int))),(D.v (.int .u8 (5 : Int))),(D.v (.int .u32 (2 : Int))),(D.v (.int .u32 (5 : Int))),(D.v (.int .u32 (29 : Int))),(D.v (.int .u32 (32 : Int))),zU,zU,zU,zU,zU,zU,zU,zU,zU,zU,zU,zU,(D.list 1 (some 1) [(D.v (.int .u8 (5 : Int))),(D.v (.int .u32 (2 : Int))),(D.v (.int .u32 (5 : Int))),(D.v (.int .u32 (29 : Int))),(D.v (.int .u32 (32 : Int))),zU,zU,zU,zU,zU,zU,zU,zU,zU,zU,zU,zU]),(D.list 0 (some 0) []),zI,(D.v (.int .u8 (3 : Int))),(D.v (.int .u32 (1 : Int))),(D.v (.int .u32 (2 : Int))),(D.v (.int .u32 (3 : Int))),zU,zU,zU,zU,zU,zU,zU,zU,zU,zU,zU,zU,zU,(D.list 2 (some 2) [(D.v (.int .u8 (3 : Int))),(D.v (.int .u32 (1 : Int))),(D.v (.int .u32 (2 : Int))),(D.v (.int .u32 (4 : Int))),zU,zU,zU,zU,zU,zU,zU,zU,zU,zU,zU,zU,zU,(D.v (.int .u8 (3 : Int))),(D.v (.int .u32 (1 : Int))),(D.v (.int .u32 (2 : Int))),(D.v (.int .u32 (5 : Int))),zU,zU,zU,zU,zU,zU,zU,zU,zU,zU,zU,zU,zU]),(D.list 0 (some 0) []),zI,(D.v (.int .u8 (5 : Int))),(D.v (.int .u32 (2 : Int))),(D.v (.int .u32 (5 : Int))),(D.v (.int .u32 (29 : Int))),(D.v (.int .u32 (32 : Int))),zU,zU,zU,zU,zU,zU,zU,zU,zU,zU,zU,zU,(D.list 1 (some 1) [(D.v (.int .u8 (5 : Int))),(D.v (.int .u32 (2 : Int))),(D.v (.int .u32 (5 : Int))),(D.v (.int .u32 (29 : Int))),(D.v (.int .u32 (32 : Int))),zU,zU,zU,zU,zU,zU,zU,zU,zU,zU,zU,zU]),(D.list 0 (some 0) []),(D.v (.int .i64 (1 : Int))),(D.v (.int .u8 (3 : Int))),(D.v (.int .u32 (1 : Int))),(D.v (.int .u32 (2 : Int))),(D.v (.int .u32 (4 : Int))),zU,zU,zU,zU,zU,zU,zU,zU,zU,zU,zU,zU,zU,(D.list 1 (some 1) [(D.v (.int .u8 (3 : Int))),(D.v (.int .u32 (1 : Int))),(D.v (.int .u32 (2 : Int))),(D.v (.int .u32 (4 : Int))),zU,zU,zU,zU,zU,zU,zU,zU,zU,zU,zU,zU,zU]),(D.list 0 (some 0) []),(D.v (.int .i64 (1 : Int))),(D.v (.int .u8 (3 : Int))),(D.v (.int .u32 (1 : Int))),(D.v (.int .u32 (2 : Int))),(D.v (.int .u32 (5 : Int))),zU,zU,zU,zU,zU,zU,zU,zU,zU,zU,zU,zU,zU,(D.list 1 (some 1) [(D.v (.int .u8 (3 : Int))),(D.v (.int .u32 (1 : Int))),(D.v (.int .u32 (2 : Int))),(D.v (.int .u32 (5 : Int))),zU,zU,zU,zU,zU,zU,zU,zU,zU,zU,zU,zU,zU]),(D.list 0 (some 0) [])])]),(D.v (.int .i64 (2 : Int)))]
def Z10a : D := (D.tup [(D.list 5 (some 5) [zI,(D.v (.int .i64 (1 : Int))),(D.v (.int .i64 (1 : Int))),(D.v (.int .i64 (2 : Int))),(D.v (.int .i64 (2 : Int)))]),zI])
theorem Z1bh : funD Tg Zeo 100000 60 Z29 Tryz.f48 Z105 = some Z106 := by kernel_rfl
theorem Z1bi : funD Tg Zeo 100000 60 Z29 Tryz.f48 Z107 = some Z108 := by kernel_rfl
theorem Z1bj : funD Tg Zeo 100000 60 Z29 Tryz.f48 Z109 = some Z10a := by kernel_rfl
def Zps (ds : List D) : Option D := if isT Z105 ds then some Z106 else (if isT Z107 ds then some Z108 else (if isT Z109 ds then some Z10a else (none)))
theorem td_trees_node : ∀ ds d,Zps ds = some d → DataSem Tg 48 ds d := by
 intro ds d h
 unfold Zps at h
 split at h
 ·rename_i ha; obtain rfl := isT_eq ha; cases h; exact Zjo Z1bh
 split at h
 ·rename_i ha; obtain rfl := isT_eq ha; cases h; exact Zjo Z1bi
 split at h
 ·rename_i ha; obtain rfl := isT_eq ha; cases h; exact Zjo Z1bj
 cases h
def Zr : FnH := ⟨[],[]⟩
theorem Z4a : Enters Tg 49 := ⟨Tryz.f49,Tryz.func49,by kernel_rfl,by kernel_rfl⟩
noncomputable def Z4v : Hints := ⟨[],[(49,Tryz.f49,Zr)],[203,205,206,208,148]⟩
theorem Z7s {m n : Nat} {ds : List D} {d : D} (h : funD Tg Z4v m n Zr Tryz.f49 ds = some d) : DataSem Tg 49 ds d := Z0 (H := Z4v) SpOk.nil mixed (InlOk.cons Tryz.func49 Z4a InlOk.nil) Tryz.func49 Z4a h
def Zoe : List D := [(D.list 2 none [(D.v (.int .i64 (1 : Int))),(D.v (.int .i64 (2 : Int)))])]
def Zof : D := (D.list 2 (some 2) [(D.v (.int .i64 (1 : Int))),(D.v (.int .i64 (2 : Int)))])
def Zog : List D := [(D.list 2 none [(D.v (.int .i64 (3 : Int))),(D.v (.int .i64 (4 : Int)))])]
def Zoh : D := (D.list 2 (some 2) [(D.v (.int .i64 (3 : Int))),(D.v (.int .i64 (4 : Int)))])
def Zoi : List D := [(D.list 0 none [])]
def Zoj : D := (D.list 0 (some 0) [])
theorem Z11f : funD Tg Z4v 100000 60 Zr Tryz.f49 Zoe = some Zof := by kernel_rfl
theorem Z11g : funD Tg Z4v 100000 60 Zr Tryz.f49 Zog = some Zoh := by kernel_rfl
theorem Z11h : funD Tg Z4v 100000 60 Zr Tryz.f49 Zoi = some Zoj := by kernel_rfl
def Z9f (ds : List D) : Option D := if isT Zoe ds then some Zof else (if isT Zog ds then some Zoh else (if isT Zoi ds then some Zoj else (none)))
theorem td_trees_clone_int : ∀ ds d,Z9f ds = some d → DataSem Tg 49 ds d := by
 intro ds d h
 unfold Z9f at h
 split at h
 ·rename_i ha; obtain rfl := isT_eq ha; cases h; exact Z7s Z11f
 split at h
 ·rename_i ha; obtain rfl := isT_eq ha; cases h; exact Z7s Z11g
 split at h
 ·rename_i ha; obtain rfl := isT_eq ha; cases h; exact Z7s Z11h
 cases h
def Z1o : FnH := ⟨[(6,⟨(bm 14680322 39),[(8,1),(21,20)],none⟩)],[]⟩
theorem Z4z : Enters Tg 17 := ⟨Tryz.f17,Tryz.func17,by kernel_rfl,by kernel_rfl⟩
noncomputable def Z9g : Hints := ⟨[(48,Zps),(49,Z9f)],[(17,Tryz.f17,Z1o)],[203,205,206,208,148]⟩
theorem Zkr {m n : Nat} {ds : List D} {d : D} (h : funD Tg Z9g m n Z1o Tryz.f17 ds = some d) : DataSem Tg 17 ds d := Z0 (H := Z9g) (SpOk.cons td_trees_node (SpOk.cons td_trees_clone_int SpOk.nil)) mixed (InlOk.cons Tryz.func17 Z4z InlOk.nil) Tryz.func17 Z4z h
def Zr0 : List D := [(D.agg [(D.list 5 (some 5) [(D.v (.int .i64 (-1 : Int))),(D.v (.int .u8 (5 : Int))),(D.v (.int .u32 (2 : Int))),(D.v (.int .u32 (5 : Int))),(D.v (.int .u32 (29 : Int))),(D.v (.int .u32 (32 : Int))),zU,zU,zU,zU,zU,zU,zU,zU,zU,zU,zU,zU,(D.list 1 (some 1) [(D.v (.int .u8 (5 : Int))),(D.v (.int .u32 (2 : Int))),(D.v (.int .u32 (5 : Int))),(D.v (.int .u32 (29 : Int))),(D.v (.int .u32 (32 : Int))),zU,zU,zU,zU,zU,zU,zU,zU,zU,zU,zU,zU]),(D.list 0 (some 0) []),zI,(D.v (.int .u8 (3 : Int))),(D.v (.int .u32 (1 : Int))),(D.v (.int .u32 (2 : Int))),(D.v (.int .u32 (3 : Int))),zU,zU,zU,zU,zU,zU,zU,zU,zU,zU,zU,zU,zU,(D.list 2 (some 2) [(D.v (.int .u8 (3 : Int))),(D.v (.int .u32 (1 : Int))),(D.v (.int .u32 (2 : Int))),(D.v (.int .u32 (4 : Int))),zU,zU,zU,zU,zU,zU,zU,zU,zU,zU,zU,zU,zU,(D.v (.int .u8 (3 : Int))),(D.v (.int .u32 (1 : Int))),(D.v (.int .u32 (2 : Int))),(D.v (.int .u32 (5 : Int))),zU,zU,zU,zU,zU,zU,zU,zU,zU,zU,zU,zU,zU]),(D.list 0 (some 0) []),zI,(D.v (.int .u8 (5 : Int))),(D.v (.int .u32 (2 : Int))),(D.v (.int .u32 (5 : Int))),(D.v (.int .u32 (29 : Int))),(D.v (.int .u32 (32 : Int))),zU,zU,zU,zU,zU,zU,zU,zU,zU,zU,zU,zU,(D.list 1 (some 1) [(D.v (.int .u8 (5 : Int))),(D.v (.int .u32 (2 : Int))),(D.v (.int .u32 (5 : Int))),(D.v (.int .u32 (29 : Int))),(D.v (.int .u32 (32 : Int))),zU,zU,zU,zU,zU,zU,zU,zU,zU,zU,zU,zU]),(D.list 0 (some 0) []),(D.v (.int .i64 (1 : Int))),(D.v (.int .u8 (3 : Int))),(D.v (.int .u32 (1 : Int))),(D.v (.int .u32 (2 : Int))),(D.v (.int .u32 (4 : Int))),zU,zU,zU,zU,zU,zU,zU,zU,zU,zU,zU,zU,zU,(D.list 1 (some 1) [(D.v (.int .u8 (3 : Int))),(D.v (.int .u32 (1 : Int))),(D.v (.int .u32 (2 : Int))),(D.v (.int .u32 (4 : Int))),zU,zU,zU,zU,zU,zU,zU,zU,zU,zU,zU,zU,zU]),(D.list 0 (some 0) []),(D.v (.int .i64 (1 : Int))),(D.v (.int .u8 (3 : Int))),(D.v (.int .u32 (1 : Int))),(D.v (.int .u32 (2 : Int))),(D.v (.int .u32 (5 : Int))),zU,zU,zU,zU,zU,zU,zU,zU,zU,zU,zU,zU,zU,(D.list 1 (some 1) [(D.v (.int .u8 (3 : Int))),(D.v (.int .u32 (1 : Int))),(D.v (.int .u32 (2 : Int))),(D.v (.int .u32 (5 : Int))),zU,zU,zU,zU,zU,zU,zU,zU,zU,zU,zU,zU,zU]),(D.list 0 (some 0) [])])]),(D.v (.int .i64 (1 : Int)))]
def Zr1 : D := (D.tup [(D.list 2 (some 2) [(D.v (.int .i64 (3 : Int))),(D.v (.int .i64 (4 : Int)))]),zI])
def Zr2 : List D := [(D.agg [(D.list 5 (some 5) [(D.v (.int .i64 (-1 : Int))),(D.v (.int .u8 (5 : Int))),(D.v (.int .u32 (2 : Int))),(D.v (.int .u32 (5 : Int))),(D.v (.int .u32 (29 : Int))),(D.v (.int .u32 (32 : Int))),zU,zU,zU,zU,zU,zU,zU,zU,zU,zU,zU,zU,(D.list 1 (some 1) [(D.v (.int .u8 (5 : Int))),(D.v (.int .u32 (2 : Int))),(D.v (.int .u32 (5 : Int))),(D.v (.int .u32 (29 : Int))),(D.v (.int .u32 (32 : Int))),zU,zU,zU,zU,zU,zU,zU,zU,zU,zU,zU,zU]),(D.list 0 (some 0) []),zI,(D.v (.int .u8 (3 : Int))),(D.v (.int .u32 (1 : Int))),(D.v (.int .u32 (2 : Int))),(D.v (.int .u32 (3 : Int))),zU,zU,zU,zU,zU,zU,zU,zU,zU,zU,zU,zU,zU,(D.list 2 (some 2) [(D.v (.int .u8 (3 : Int))),(D.v (.int .u32 (1 : Int))),(D.v (.int .u32 (2 : Int))),(D.v (.int .u32 (4 : Int))),zU,zU,zU,zU,zU,zU,zU,zU,zU,zU,zU,zU,zU,(D.v (.int .u8 (3 : Int))),(D.v (.int .u32 (1 : Int))),(D.v (.int .u32 (2 : Int))),(D.v (.int .u32 (5 : Int))),zU,zU,zU,zU,zU,zU,zU,zU,zU,zU,zU,zU,zU]),(D.list 0 (some 0) []),zI,(D.v (.int .u8 (5 : Int))),(D.v (.int .u32 (2 : Int))),(D.v (.int .u32 (5 : Int))),(D.v (.int .u32 (29 : Int))),(D.v (.int .u32 (32 : Int))),zU,zU,zU,zU,zU,zU,zU,zU,zU,zU,zU,zU,(D.list 1 (some 1) [(D.v (.int .u8 (5 : Int))),(D.v (.int .u32 (2 : Int))),(D.v (.int .u32 (5 : Int))),(D.v (.int .u32 (29 : Int))),(D.v (.int .u32 (32 : Int))),zU,zU,zU,zU,zU,zU,zU,zU,zU,zU,zU,zU]),(D.list 0 (some 0) []),(D.v (.int .i64 (1 : Int))),(D.v (.int .u8 (3 : Int))),(D.v (.int .u32 (1 : Int))),(D.v (.int .u32 (2 : Int))),(D.v (.int .u32 (4 : Int))),zU,zU,zU,zU,zU,zU,zU,zU,zU,zU,zU,zU,zU,(D.list 1 (some 1) [(D.v (.int .u8 (3 : Int))),(D.v (.int .u32 (1 : Int))),(D.v (.int .u32 (2 : Int))),(D.v (.int .u32 (4 : Int))),zU,zU,zU,zU,zU,zU,zU,zU,zU,zU,zU,zU,zU]),(D.list 0 (some 0) []),(D.v (.int .i64 (1 : Int))),(D.v (.int .u8 (3 : Int))),(D.v (.int .u32 (1 : Int))),(D.v (.int .u32 (2 : Int))),(D.v (.int .u32 (5 : Int))),zU,zU,zU,zU,zU,zU,zU,zU,zU,zU,zU,zU,zU,(D.list 1 (some 1) [(D.v (.int .u8 (3 : Int))),(D.v (.int .u32 (1 : Int))),(D.v (.int .u32 (2 : Int))),(D.v (.int .u32 (5 : Int))),zU,zU,zU,zU,zU,zU,zU,zU,zU,zU,zU,zU,zU]),(D.list 0 (some 0) [])])]),(D.v (.int .i64 (2 : Int)))]
def Zr3 : D := (D.tup [(D.list 0 (some 0) []),zI])
theorem Z137 : funD Tg Z9g 100000 60 Z1o Tryz.f17 Zr0 = some Zr1 := by kernel_rfl
theorem Z138 : funD Tg Z9g 100000 60 Z1o Tryz.f17 Zr2 = some Zr3 := by kernel_rfl
def Zlf (ds : List D) : Option D := if isT Zr0 ds then some Zr1 else (if isT Zr2 ds then some Zr3 else (none))
theorem td_trees_Children : ∀ ds d,Zlf ds = some d → DataSem Tg 17 ds d := by
 intro ds d h
 unfold Zlf at h
 split at h
 ·rename_i ha; obtain rfl := isT_eq ha; cases h; exact Zkr Z137
 split at h
 ·rename_i ha; obtain rfl := isT_eq ha; cases h; exact Zkr Z138
 cases h
def Z52 : FnH := ⟨[(6,⟨(bm 774 48),[(8,17)],none⟩)],[]⟩
theorem Zd4 : Enters Tg 18 := ⟨Tryz.f18,Tryz.func18,by kernel_rfl,by kernel_rfl⟩
noncomputable def Ztu : Hints := ⟨[(48,Zps)],[(18,Tryz.f18,Z52)],[203,205,206,208,148]⟩
theorem Z15f {m n : Nat} {ds : List D} {d : D} (h : funD Tg Ztu m n Z52 Tryz.f18 ds = some d) : DataSem Tg 18 ds d := Z0 (H := Ztu) (SpOk.cons td_trees_node SpOk.nil) mixed (InlOk.cons Tryz.func18 Zd4 InlOk.nil) Tryz.func18 Zd4 h
def Z10b : List D := [(D.agg [(D.list 5 (some 5) [(D.v (.int .i64 (-1 : Int))),(D.v (.int .u8 (5 : Int))),(D.v (.int .u32 (2 : Int))),(D.v (.int .u32 (5 : Int))),(D.v (.int .u32 (29 : Int))),(D.v (.int .u32 (32 : Int))),zU,zU,zU,zU,zU,zU,zU,zU,zU,zU,zU,zU,(D.list 1 (some 1) [(D.v (.int .u8 (5 : Int))),(D.v (.int .u32 (2 : Int))),(D.v (.int .u32 (5 : Int))),(D.v (.int .u32 (29 : Int))),(D.v (.int .u32 (32 : Int))),zU,zU,zU,zU,zU,zU,zU,zU,zU,zU,zU,zU]),(D.list 0 (some 0) []),zI,(D.v (.int .u8 (3 : Int))),(D.v (.int .u32 (1 : Int))),(D.v (.int .u32 (2 : Int))),(D.v (.int .u32 (3 : Int))),zU,zU,zU,zU,zU,zU,zU,zU,zU,zU,zU,zU,zU,(D.list 2 (some 2) [(D.v (.int .u8 (3 : Int))),(D.v (.int .u32 (1 : Int))),(D.v (.int .u32 (2 : Int))),(D.v (.int .u32 (4 : Int))),zU,zU,zU,zU,zU,zU,zU,zU,zU,zU,zU,zU,zU,(D.v (.int .u8 (3 : Int))),(D.v (.int .u32 (1 : Int))),(D.v (.int .u32 (2 : Int))),(D.v (.int .u32 (5 : Int))),zU,zU,zU,zU,zU,zU,zU,zU,zU,zU,zU,zU,zU]),(D.list 0 (some 0) []),zI,(D.v (.int .u8 (5 : Int))),(D.v (.int .u32 (2 : Int))),(D.v (.int .u32 (5 : Int))),(D.v (.int .u32 (29 : Int))),(D.v (.int .u32 (32 : Int))),zU,zU,zU,zU,zU,zU,zU,zU,zU,zU,zU,zU,(D.list 1 (some 1) [(D.v (.int .u8 (5 : Int))),(D.v (.int .u32 (2 : Int))),(D.v (.int .u32 (5 : Int))),(D.v (.int .u32 (29 : Int))),(D.v (.int .u32 (32 : Int))),zU,zU,zU,zU,zU,zU,zU,zU,zU,zU,zU,zU]),(D.list 0 (some 0) []),(D.v (.int .i64 (1 : Int))),(D.v (.int .u8 (3 : Int))),(D.v (.int .u32 (1 : Int))),(D.v (.int .u32 (2 : Int))),(D.v (.int .u32 (4 : Int))),zU,zU,zU,zU,zU,zU,zU,zU,zU,zU,zU,zU,zU,(D.list 1 (some 1) [(D.v (.int .u8 (3 : Int))),(D.v (.int .u32 (1 : Int))),(D.v (.int .u32 (2 : Int))),(D.v (.int .u32 (4 : Int))),zU,zU,zU,zU,zU,zU,zU,zU,zU,zU,zU,zU,zU]),(D.list 0 (some 0) []),(D.v (.int .i64 (1 : Int))),(D.v (.int .u8 (3 : Int))),(D.v (.int .u32 (1 : Int))),(D.v (.int .u32 (2 : Int))),(D.v (.int .u32 (5 : Int))),zU,zU,zU,zU,zU,zU,zU,zU,zU,zU,zU,zU,zU,(D.list 1 (some 1) [(D.v (.int .u8 (3 : Int))),(D.v (.int .u32 (1 : Int))),(D.v (.int .u32 (2 : Int))),(D.v (.int .u32 (5 : Int))),zU,zU,zU,zU,zU,zU,zU,zU,zU,zU,zU,zU,zU]),(D.list 0 (some 0) [])])]),(D.v (.int .i64 (4 : Int)))]
def Z10c : D := (D.tup [(D.list 3 (some 3) [(D.v (.int .u8 (5 : Int))),(D.v (.int .u32 (2 : Int))),(D.v (.int .u32 (5 : Int))),(D.v (.int .u32 (29 : Int))),(D.v (.int .u32 (32 : Int))),zU,zU,zU,zU,zU,zU,zU,zU,zU,zU,zU,zU,(D.v (.int .u8 (3 : Int))),(D.v (.int .u32 (1 : Int))),(D.v (.int .u32 (2 : Int))),(D.v (.int .u32 (3 : Int))),zU,zU,zU,zU,zU,zU,zU,zU,zU,zU,zU,zU,zU,(D.v (.int .u8 (3 : Int))),(D.v (.int .u32 (1 : Int))),(D.v (.int .u32 (2 : Int))),(D.v (.int .u32 (5 : Int))),zU,zU,zU,zU,zU,zU,zU,zU,zU,zU,zU,zU,zU]),zI])
theorem Z1bk : funD Tg Ztu 100000 60 Z52 Tryz.f18 Z10b = some Z10c := by kernel_rfl
def Zwk (ds : List D) : Option D := if isT Z10b ds then some Z10c else (none)
theorem td_trees_Line : ∀ ds d,Zwk ds = some d → DataSem Tg 18 ds d := by
 intro ds d h
 unfold Zwk at h
 split at h
 ·rename_i ha; obtain rfl := isT_eq ha; cases h; exact Z15f Z1bk
 cases h
def Z34 : FnH := ⟨[(4,⟨(bm 35 33),[],none⟩)],[]⟩
theorem Zd5 : Enters Tg 19 := ⟨Tryz.f19,Tryz.func19,by kernel_rfl,by kernel_rfl⟩
noncomputable def Zm0 : Hints := ⟨[],[(19,Tryz.f19,Z34)],[203,205,206,208,148]⟩
theorem Zt9 {m n : Nat} {ds : List D} {d : D} (h : funD Tg Zm0 m n Z34 Tryz.f19 ds = some d) : DataSem Tg 19 ds d := Z0 (H := Zm0) SpOk.nil mixed (InlOk.cons Tryz.func19 Zd5 InlOk.nil) Tryz.func19 Zd5 h
def Z10d : List D := [(D.list 2 (some 2) [(D.v (.int .i64 (1 : Int))),(D.v (.int .i64 (2 : Int)))]),(D.list 2 (some 2) [(D.v (.int .i64 (1 : Int))),(D.v (.int .i64 (2 : Int)))])]
def Z10e : D := (D.v (.bool true))
def Z10f : List D := [(D.list 2 (some 2) [(D.v (.int .i64 (3 : Int))),(D.v (.int .i64 (4 : Int)))]),(D.list 2 (some 2) [(D.v (.int .i64 (3 : Int))),(D.v (.int .i64 (4 : Int)))])]
def Z10g : D := (D.v (.bool true))
theorem Z1bl : funD Tg Zm0 100000 60 Z34 Tryz.f19 Z10d = some Z10e := by kernel_rfl
theorem Z1bm : funD Tg Zm0 100000 60 Z34 Tryz.f19 Z10f = some Z10g := by kernel_rfl
def Zwl (ds : List D) : Option D := if isT Z10d ds then some Z10e else (if isT Z10f ds then some Z10g else (none))
theorem td_law26_ints : ∀ ds d,Zwl ds = some d → DataSem Tg 19 ds d := by
 intro ds d h
 unfold Zwl at h
 split at h
 ·rename_i ha; obtain rfl := isT_eq ha; cases h; exact Zt9 Z1bl
 split at h
 ·rename_i ha; obtain rfl := isT_eq ha; cases h; exact Zt9 Z1bm
 cases h
def Z32 : FnH := ⟨[(4,⟨(bm 35 26),[],some 1000000⟩)],[]⟩
theorem Z5q : Enters Tg 21 := ⟨Tryz.f21,Tryz.func21,by kernel_rfl,by kernel_rfl⟩
noncomputable def Zlg : Hints := ⟨[],[(21,Tryz.f21,Z32)],[203,205,206,208,148]⟩
theorem Z10h {m n : Nat} {ds : List D} {d : D} (h : funD Tg Zlg m n Z32 Tryz.f21 ds = some d) : DataSem Tg 21 ds d := Z0 (H := Zlg) SpOk.nil mixed (InlOk.cons Tryz.func21 Z5q InlOk.nil) Tryz.func21 Z5q h
def Zta : List D := [(D.list 3 (some 3) [(D.v (.int .u8 (5 : Int))),(D.v (.int .u32 (2 : Int))),(D.v (.int .u32 (5 : Int))),(D.v (.int .u32 (29 : Int))),(D.v (.int .u32 (32 : Int))),zU,zU,zU,zU,zU,zU,zU,zU,zU,zU,zU,zU,(D.v (.int .u8 (3 : Int))),(D.v (.int .u32 (1 : Int))),(D.v (.int .u32 (2 : Int))),(D.v (.int .u32 (3 : Int))),zU,zU,zU,zU,zU,zU,zU,zU,zU,zU,zU,zU,zU,(D.v (.int .u8 (3 : Int))),(D.v (.int .u32 (1 : Int))),(D.v (.int .u32 (2 : Int))),(D.v (.int .u32 (5 : Int))),zU,zU,zU,zU,zU,zU,zU,zU,zU,zU,zU,zU,zU]),(D.list 3 (some 3) [(D.v (.int .u8 (5 : Int))),(D.v (.int .u32 (2 : Int))),(D.v (.int .u32 (5 : Int))),(D.v (.int .u32 (29 : Int))),(D.v (.int .u32 (32 : Int))),zU,zU,zU,zU,zU,zU,zU,zU,zU,zU,zU,zU,(D.v (.int .u8 (3 : Int))),(D.v (.int .u32 (1 : Int))),(D.v (.int .u32 (2 : Int))),(D.v (.int .u32 (3 : Int))),zU,zU,zU,zU,zU,zU,zU,zU,zU,zU,zU,zU,zU,(D.v (.int .u8 (3 : Int))),(D.v (.int .u32 (1 : Int))),(D.v (.int .u32 (2 : Int))),(D.v (.int .u32 (5 : Int))),zU,zU,zU,zU,zU,zU,zU,zU,zU,zU,zU,zU,zU])]
def Ztb : D := (D.v (.int .i64 (1 : Int)))
theorem Z15g : funD Tg Zlg 100000 60 Z32 Tryz.f21 Zta = some Ztb := by kernel_rfl
def Zo8 (ds : List D) : Option D := if isT Zta ds then some Ztb else (none)
theorem td_ref25_SameIDs : ∀ ds d,Zo8 ds = some d → DataSem Tg 21 ds d := by
 intro ds d h
 unfold Zo8 at h
 split at h
 ·rename_i ha; obtain rfl := isT_eq ha; cases h; exact Z10h Z15g
 cases h
def Z1r : FnH := ⟨[(6,⟨(bm 3670274 36),[(8,1),(19,1)],none⟩)],[]⟩
theorem Z9h : Enters Tg 23 := ⟨Tryz.f23,Tryz.func23,by kernel_rfl,by kernel_rfl⟩
noncomputable def Zbt : Hints := ⟨[(49,Z9f),(50,Z56)],[(23,Tryz.f23,Z1r)],[203,205,206,208,148]⟩
theorem Zgb {m n : Nat} {ds : List D} {d : D} (h : funD Tg Zbt m n Z1r Tryz.f23 ds = some d) : DataSem Tg 23 ds d := Z0 (H := Zbt) (SpOk.cons td_trees_clone_int (SpOk.cons td_trees_examine SpOk.nil)) mixed (InlOk.cons Tryz.func23 Z9h InlOk.nil) Tryz.func23 Z9h h
def Zy7 : List D := [(D.agg [(D.list 5 (some 5) [(D.v (.int .i64 (-1 : Int))),(D.v (.int .u8 (5 : Int))),(D.v (.int .u32 (2 : Int))),(D.v (.int .u32 (5 : Int))),(D.v (.int .u32 (29 : Int))),(D.v (.int .u32 (32 : Int))),zU,zU,zU,zU,zU,zU,zU,zU,zU,zU,zU,zU,(D.list 1 (some 1) [(D.v (.int .u8 (5 : Int))),(D.v (.int .u32 (2 : Int))),(D.v (.int .u32 (5 : Int))),(D.v (.int .u32 (29 : Int))),(D.v (.int .u32 (32 : Int))),zU,zU,zU,zU,zU,zU,zU,zU,zU,zU,zU,zU]),(D.list 0 (some 0) []),zI,(D.v (.int .u8 (3 : Int))),(D.v (.int .u32 (1 : Int))),(D.v (.int .u32 (2 : Int))),(D.v (.int .u32 (3 : Int))),zU,zU,zU,zU,zU,zU,zU,zU,zU,zU,zU,zU,zU,(D.list 2 (some 2) [(D.v (.int .u8 (3 : Int))),(D.v (.int .u32 (1 : Int))),(D.v (.int .u32 (2 : Int))),(D.v (.int .u32 (4 : Int))),zU,zU,zU,zU,zU,zU,zU,zU,zU,zU,zU,zU,zU,(D.v (.int .u8 (3 : Int))),(D.v (.int .u32 (1 : Int))),(D.v (.int .u32 (2 : Int))),(D.v (.int .u32 (5 : Int))),zU,zU,zU,zU,zU,zU,zU,zU,zU,zU,zU,zU,zU]),(D.list 0 (some 0) []),zI,(D.v (.int .u8 (5 : Int))),(D.v (.int .u32 (2 : Int))),(D.v (.int .u32 (5 : Int))),(D.v (.int .u32 (29 : Int))),(D.v (.int .u32 (32 : Int))),zU,zU,zU,zU,zU,zU,zU,zU,zU,zU,zU,zU,(D.list 1 (some 1) [(D.v (.int .u8 (5 : Int))),(D.v (.int .u32 (2 : Int))),(D.v (.int .u32 (5 : Int))),(D.v (.int .u32 (29 : Int))),(D.v (.int .u32 (32 : Int))),zU,zU,zU,zU,zU,zU,zU,zU,zU,zU,zU,zU]),(D.list 0 (some 0) []),(D.v (.int .i64 (1 : Int))),(D.v (.int .u8 (3 : Int))),(D.v (.int .u32 (1 : Int))),(D.v (.int .u32 (2 : Int))),(D.v (.int .u32 (4 : Int))),zU,zU,zU,zU,zU,zU,zU,zU,zU,zU,zU,zU,zU,(D.list 1 (some 1) [(D.v (.int .u8 (3 : Int))),(D.v (.int .u32 (1 : Int))),(D.v (.int .u32 (2 : Int))),(D.v (.int .u32 (4 : Int))),zU,zU,zU,zU,zU,zU,zU,zU,zU,zU,zU,zU,zU]),(D.list 0 (some 0) []),(D.v (.int .i64 (1 : Int))),(D.v (.int .u8 (3 : Int))),(D.v (.int .u32 (1 : Int))),(D.v (.int .u32 (2 : Int))),(D.v (.int .u32 (5 : Int))),zU,zU,zU,zU,zU,zU,zU,zU,zU,zU,zU,zU,zU,(D.list 1 (some 1) [(D.v (.int .u8 (3 : Int))),(D.v (.int .u32 (1 : Int))),(D.v (.int .u32 (2 : Int))),(D.v (.int .u32 (5 : Int))),zU,zU,zU,zU,zU,zU,zU,zU,zU,zU,zU,zU,zU]),(D.list 0 (some 0) [])])]),(D.v (.int .i64 (1 : Int)))]
def Zy8 : D := (D.tup [(D.list 2 (some 2) [(D.v (.int .i64 (1 : Int))),(D.v (.int .i64 (2 : Int)))]),zI])
def Zy9 : List D := [(D.agg [(D.list 5 (some 5) [(D.v (.int .i64 (-1 : Int))),(D.v (.int .u8 (5 : Int))),(D.v (.int .u32 (2 : Int))),(D.v (.int .u32 (5 : Int))),(D.v (.int .u32 (29 : Int))),(D.v (.int .u32 (32 : Int))),zU,zU,zU,zU,zU,zU,zU,zU,zU,zU,zU,zU,(D.list 1 (some 1) [(D.v (.int .u8 (5 : Int))),(D.v (.int .u32 (2 : Int))),(D.v (.int .u32 (5 : Int))),(D.v (.int .u32 (29 : Int))),(D.v (.int .u32 (32 : Int))),zU,zU,zU,zU,zU,zU,zU,zU,zU,zU,zU,zU]),(D.list 0 (some 0) []),zI,(D.v (.int .u8 (3 : Int))),(D.v (.int .u32 (1 : Int))),(D.v (.int .u32 (2 : Int))),(D.v (.int .u32 (3 : Int))),zU,zU,zU,zU,zU,zU,zU,zU,zU,zU,zU,zU,zU,(D.list 2 (some 2) [(D.v (.int .u8 (3 : Int))),(D.v (.int .u32 (1 : Int))),(D.v (.int .u32 (2 : Int))),(D.v (.int .u32 (4 : Int))),zU,zU,zU,zU,zU,zU,zU,zU,zU,zU,zU,zU,zU,(D.v (.int .u8 (3 : Int))),(D.v (.int .u32 (1 : Int))),(D.v (.int .u32 (2 : Int))),(D.v (.int .u32 (5 : Int))),zU,zU,zU,zU,zU,zU,zU,zU,zU,zU,zU,zU,zU]),(D.list 0 (some 0) []),zI,(D.v (.int .u8 (5 : Int))),(D.v (.int .u32 (2 : Int))),(D.v (.int .u32 (5 : Int))),(D.v (.int .u32 (29 : Int))),(D.v (.int .u32 (32 : Int))),zU,zU,zU,zU,zU,zU,zU,zU,zU,zU,zU,zU,(D.list 1 (some 1) [(D.v (.int .u8 (5 : Int))),(D.v (.int .u32 (2 : Int))),(D.v (.int .u32 (5 : Int))),(D.v (.int .u32 (29 : Int))),(D.v (.int .u32 (32 : Int))),zU,zU,zU,zU,zU,zU,zU,zU,zU,zU,zU,zU]),(D.list 0 (some 0) []),(D.v (.int .i64 (1 : Int))),(D.v (.int .u8 (3 : Int))),(D.v (.int .u32 (1 : Int))),(D.v (.int .u32 (2 : Int))),(D.v (.int .u32 (4 : Int))),zU,zU,zU,zU,zU,zU,zU,zU,zU,zU,zU,zU,zU,(D.list 1 (some 1) [(D.v (.int .u8 (3 : Int))),(D.v (.int .u32 (1 : Int))),(D.v (.int .u32 (2 : Int))),(D.v (.int .u32 (4 : Int))),zU,zU,zU,zU,zU,zU,zU,zU,zU,zU,zU,zU,zU]),(D.list 0 (some 0) []),(D.v (.int .i64 (1 : Int))),(D.v (.int .u8 (3 : Int))),(D.v (.int .u32 (1 : Int))),(D.v (.int .u32 (2 : Int))),(D.v (.int .u32 (5 : Int))),zU,zU,zU,zU,zU,zU,zU,zU,zU,zU,zU,zU,zU,(D.list 1 (some 1) [(D.v (.int .u8 (3 : Int))),(D.v (.int .u32 (1 : Int))),(D.v (.int .u32 (2 : Int))),(D.v (.int .u32 (5 : Int))),zU,zU,zU,zU,zU,zU,zU,zU,zU,zU,zU,zU,zU]),(D.list 0 (some 0) [])])]),(D.v (.int .i64 (2 : Int)))]
def Zya : D := (D.tup [(D.list 2 (some 2) [(D.v (.int .i64 (3 : Int))),(D.v (.int .i64 (4 : Int)))]),zI])
def Zyb : List D := [(D.agg [(D.list 5 (some 5) [(D.v (.int .i64 (-1 : Int))),(D.v (.int .u8 (5 : Int))),(D.v (.int .u32 (2 : Int))),(D.v (.int .u32 (5 : Int))),(D.v (.int .u32 (29 : Int))),(D.v (.int .u32 (32 : Int))),zU,zU,zU,zU,zU,zU,zU,zU,zU,zU,zU,zU,(D.list 1 (some 1) [(D.v (.int .u8 (5 : Int))),(D.v (.int .u32 (2 : Int))),(D.v (.int .u32 (5 : Int))),(D.v (.int .u32 (29 : Int))),(D.v (.int .u32 (32 : Int))),zU,zU,zU,zU,zU,zU,zU,zU,zU,zU,zU,zU]),(D.list 0 (some 0) []),zI,(D.v (.int .u8 (3 : Int))),(D.v (.int .u32 (1 : Int))),(D.v (.int .u32 (2 : Int))),(D.v (.int .u32 (3 : Int))),zU,zU,zU,zU,zU,zU,zU,zU,zU,zU,zU,zU,zU,(D.list 2 (some 2) [(D.v (.int .u8 (3 : Int))),(D.v (.int .u32 (1 : Int))),(D.v (.int .u32 (2 : Int))),(D.v (.int .u32 (4 : Int))),zU,zU,zU,zU,zU,zU,zU,zU,zU,zU,zU,zU,zU,(D.v (.int .u8 (3 : Int))),(D.v (.int .u32 (1 : Int))),(D.v (.int .u32 (2 : Int))),(D.v (.int .u32 (5 : Int))),zU,zU,zU,zU,zU,zU,zU,zU,zU,zU,zU,zU,zU]),(D.list 0 (some 0) []),zI,(D.v (.int .u8 (5 : Int))),(D.v (.int .u32 (2 : Int))),(D.v (.int .u32 (5 : Int))),(D.v (.int .u32 (29 : Int))),(D.v (.int .u32 (32 : Int))),zU,zU,zU,zU,zU,zU,zU,zU,zU,zU,zU,zU,(D.list 1 (some 1) [(D.v (.int .u8 (5 : Int))),(D.v (.int .u32 (2 : Int))),(D.v (.int .u32 (5 : Int))),(D.v (.int .u32 (29 : Int))),(D.v (.int .u32 (32 : Int))),zU,zU,zU,zU,zU,zU,zU,zU,zU,zU,zU,zU]),(D.list 0 (some 0) []),(D.v (.int .i64 (1 : Int))),(D.v (.int .u8 (3 : Int))),(D.v (.int .u32 (1 : Int))),(D.v (.int .u32 (2 : Int))),(D.v (.int .u32 (4 : Int))),zU,zU,zU,zU,zU,zU,zU,zU,zU,zU,zU,zU,zU,(D.list 1 (some 1) [(D.v (.int .u8 (3 : Int))),(D.v (.int .u32 (1 : Int))),(D.v (.int .u32 (2 : Int))),(D.v (.int .u32 (4 : Int))),zU,zU,zU,zU,zU,zU,zU,zU,zU,zU,zU,zU,zU]),(D.list 0 (some 0) []),(D.v (.int .i64 (1 : Int))),(D.v (.int .u8 (3 : Int))),(D.v (.int .u32 (1 : Int))),(D.v (.int .u32 (2 : Int))),(D.v (.int .u32 (5 : Int))),zU,zU,zU,zU,zU,zU,zU,zU,zU,zU,zU,zU,zU,(D.list 1 (some 1) [(D.v (.int .u8 (3 : Int))),(D.v (.int .u32 (1 : Int))),(D.v (.int .u32 (2 : Int))),(D.v (.int .u32 (5 : Int))),zU,zU,zU,zU,zU,zU,zU,zU,zU,zU,zU,zU,zU]),(D.list 0 (some 0) [])])]),(D.v (.int .i64 (3 : Int)))]
def Zyc : D := (D.tup [(D.list 0 (some 0) []),zI])
theorem Z194 : funD Tg Zbt 100000 60 Z1r Tryz.f23 Zy7 = some Zy8 := by kernel_rfl
theorem Z195 : funD Tg Zbt 100000 60 Z1r Tryz.f23 Zy9 = some Zya := by kernel_rfl
theorem Z196 : funD Tg Zbt 100000 60 Z1r Tryz.f23 Zyb = some Zyc := by kernel_rfl
def Ztv (ds : List D) : Option D := if isT Zy7 ds then some Zy8 else (if isT Zy9 ds then some Zya else (if isT Zyb ds then some Zyc else (none)))
theorem td_trees_Level : ∀ ds d,Ztv ds = some d → DataSem Tg 23 ds d := by
 intro ds d h
 unfold Ztv at h
 split at h
 ·rename_i ha; obtain rfl := isT_eq ha; cases h; exact Zgb Z194
 split at h
 ·rename_i ha; obtain rfl := isT_eq ha; cases h; exact Zgb Z195
 split at h
 ·rename_i ha; obtain rfl := isT_eq ha; cases h; exact Zgb Z196
 cases h
def Z1g : FnH := ⟨[],[]⟩
theorem Zd6 : Enters Tg 24 := ⟨Tryz.f24,Tryz.func24,by kernel_rfl,by kernel_rfl⟩
noncomputable def Z8n : Hints := ⟨[],[(24,Tryz.f24,Z1g)],[203,205,206,208,148]⟩
theorem Z9i {m n : Nat} {ds : List D} {d : D} (h : funD Tg Z8n m n Z1g Tryz.f24 ds = some d) : DataSem Tg 24 ds d := Z0 (H := Z8n) SpOk.nil mixed (InlOk.cons Tryz.func24 Zd6 InlOk.nil) Tryz.func24 Zd6 h
def Z10i : List D := [(D.agg [(D.list 1 (some 1) [(D.v (.int .i64 (-1 : Int))),(D.v (.int .u8 (5 : Int))),(D.v (.int .u32 (2 : Int))),(D.v (.int .u32 (5 : Int))),(D.v (.int .u32 (29 : Int))),(D.v (.int .u32 (32 : Int))),zU,zU,zU,zU,zU,zU,zU,zU,zU,zU,zU,zU,(D.list 1 (some 1) [(D.v (.int .u8 (5 : Int))),(D.v (.int .u32 (2 : Int))),(D.v (.int .u32 (5 : Int))),(D.v (.int .u32 (29 : Int))),(D.v (.int .u32 (32 : Int))),zU,zU,zU,zU,zU,zU,zU,zU,zU,zU,zU,zU]),(D.list 0 (some 0) [])])])]
def Z10j : D := (D.v (.int .i64 (1 : Int)))
def Z10k : List D := [(D.agg [(D.list 5 (some 5) [(D.v (.int .i64 (-1 : Int))),(D.v (.int .u8 (5 : Int))),(D.v (.int .u32 (2 : Int))),(D.v (.int .u32 (5 : Int))),(D.v (.int .u32 (29 : Int))),(D.v (.int .u32 (32 : Int))),zU,zU,zU,zU,zU,zU,zU,zU,zU,zU,zU,zU,(D.list 1 (some 1) [(D.v (.int .u8 (5 : Int))),(D.v (.int .u32 (2 : Int))),(D.v (.int .u32 (5 : Int))),(D.v (.int .u32 (29 : Int))),(D.v (.int .u32 (32 : Int))),zU,zU,zU,zU,zU,zU,zU,zU,zU,zU,zU,zU]),(D.list 0 (some 0) []),zI,(D.v (.int .u8 (3 : Int))),(D.v (.int .u32 (1 : Int))),(D.v (.int .u32 (2 : Int))),(D.v (.int .u32 (3 : Int))),zU,zU,zU,zU,zU,zU,zU,zU,zU,zU,zU,zU,zU,(D.list 2 (some 2) [(D.v (.int .u8 (3 : Int))),(D.v (.int .u32 (1 : Int))),(D.v (.int .u32 (2 : Int))),(D.v (.int .u32 (4 : Int))),zU,zU,zU,zU,zU,zU,zU,zU,zU,zU,zU,zU,zU,(D.v (.int .u8 (3 : Int))),(D.v (.int .u32 (1 : Int))),(D.v (.int .u32 (2 : Int))),(D.v (.int .u32 (5 : Int))),zU,zU,zU,zU,zU,zU,zU,zU,zU,zU,zU,zU,zU]),(D.list 0 (some 0) []),zI,(D.v (.int .u8 (5 : Int))),(D.v (.int .u32 (2 : Int))),(D.v (.int .u32 (5 : Int))),(D.v (.int .u32 (29 : Int))),(D.v (.int .u32 (32 : Int))),zU,zU,zU,zU,zU,zU,zU,zU,zU,zU,zU,zU,(D.list 1 (some 1) [(D.v (.int .u8 (5 : Int))),(D.v (.int .u32 (2 : Int))),(D.v (.int .u32 (5 : Int))),(D.v (.int .u32 (29 : Int))),(D.v (.int .u32 (32 : Int))),zU,zU,zU,zU,zU,zU,zU,zU,zU,zU,zU,zU]),(D.list 0 (some 0) []),(D.v (.int .i64 (1 : Int))),(D.v (.int .u8 (3 : Int))),(D.v (.int .u32 (1 : Int))),(D.v (.int .u32 (2 : Int))),(D.v (.int .u32 (4 : Int))),zU,zU,zU,zU,zU,zU,zU,zU,zU,zU,zU,zU,zU,(D.list 1 (some 1) [(D.v (.int .u8 (3 : Int))),(D.v (.int .u32 (1 : Int))),(D.v (.int .u32 (2 : Int))),(D.v (.int .u32 (4 : Int))),zU,zU,zU,zU,zU,zU,zU,zU,zU,zU,zU,zU,zU]),(D.list 0 (some 0) []),(D.v (.int .i64 (1 : Int))),(D.v (.int .u8 (3 : Int))),(D.v (.int .u32 (1 : Int))),(D.v (.int .u32 (2 : Int))),(D.v (.int .u32 (5 : Int))),zU,zU,zU,zU,zU,zU,zU,zU,zU,zU,zU,zU,zU,(D.list 1 (some 1) [(D.v (.int .u8 (3 : Int))),(D.v (.int .u32 (1 : Int))),(D.v (.int .u32 (2 : Int))),(D.v (.int .u32 (5 : Int))),zU,zU,zU,zU,zU,zU,zU,zU,zU,zU,zU,zU,zU]),(D.list 0 (some 0) [])])])]
def Z10l : D := (D.v (.int .i64 (5 : Int)))
def Z10m : List D := [(D.agg [(D.list 2 (some 2) [(D.v (.int .i64 (-1 : Int))),(D.v (.int .u8 (5 : Int))),(D.v (.int .u32 (2 : Int))),(D.v (.int .u32 (5 : Int))),(D.v (.int .u32 (29 : Int))),(D.v (.int .u32 (32 : Int))),zU,zU,zU,zU,zU,zU,zU,zU,zU,zU,zU,zU,(D.list 1 (some 1) [(D.v (.int .u8 (5 : Int))),(D.v (.int .u32 (2 : Int))),(D.v (.int .u32 (5 : Int))),(D.v (.int .u32 (29 : Int))),(D.v (.int .u32 (32 : Int))),zU,zU,zU,zU,zU,zU,zU,zU,zU,zU,zU,zU]),(D.list 0 (some 0) []),zI,(D.v (.int .u8 (5 : Int))),(D.v (.int .u32 (2 : Int))),(D.v (.int .u32 (5 : Int))),(D.v (.int .u32 (29 : Int))),(D.v (.int .u32 (32 : Int))),zU,zU,zU,zU,zU,zU,zU,zU,zU,zU,zU,zU,(D.list 1 (some 1) [(D.v (.int .u8 (5 : Int))),(D.v (.int .u32 (2 : Int))),(D.v (.int .u32 (5 : Int))),(D.v (.int .u32 (29 : Int))),(D.v (.int .u32 (32 : Int))),zU,zU,zU,zU,zU,zU,zU,zU,zU,zU,zU,zU]),(D.list 0 (some 0) [])])])]
def Z10n : D := (D.v (.int .i64 (2 : Int)))
def Z10o : List D := [(D.agg [(D.list 0 (some 0) [])])]
def Z10p : D := zI
theorem Z1bn : funD Tg Z8n 100000 60 Z1g Tryz.f24 Z10i = some Z10j := by kernel_rfl
theorem Z1bo : funD Tg Z8n 100000 60 Z1g Tryz.f24 Z10k = some Z10l := by kernel_rfl
theorem Z1bp : funD Tg Z8n 100000 60 Z1g Tryz.f24 Z10m = some Z10n := by kernel_rfl
theorem Z1bq : funD Tg Z8n 100000 60 Z1g Tryz.f24 Z10o = some Z10p := by kernel_rfl
def Zwm (ds : List D) : Option D := if isT Z10i ds then some Z10j else (if isT Z10k ds then some Z10l else (if isT Z10m ds then some Z10n else (if isT Z10o ds then some Z10p else (none))))
theorem td_trees_Size : ∀ ds d,Zwm ds = some d → DataSem Tg 24 ds d := by
 intro ds d h
 unfold Zwm at h
 split at h
 ·rename_i ha; obtain rfl := isT_eq ha; cases h; exact Z9i Z1bn
 split at h
 ·rename_i ha; obtain rfl := isT_eq ha; cases h; exact Z9i Z1bo
 split at h
 ·rename_i ha; obtain rfl := isT_eq ha; cases h; exact Z9i Z1bp
 split at h
 ·rename_i ha; obtain rfl := isT_eq ha; cases h; exact Z9i Z1bq
 cases h
def Z6 : FnH := ⟨[],[]⟩
theorem Z2m : Enters Tg 59 := ⟨Tryz.f59,Tryz.func59,by kernel_rfl,by kernel_rfl⟩
noncomputable def Z28 : Hints := ⟨[],[(59,Tryz.f59,Z6)],[203,205,206,208,148]⟩
theorem Z2u {m n : Nat} {ds : List D} {d : D} (h : funD Tg Z28 m n Z6 Tryz.f59 ds = some d) : DataSem Tg 59 ds d := Z0 (H := Z28) SpOk.nil mixed (InlOk.cons Tryz.func59 Z2m InlOk.nil) Tryz.func59 Z2m h
def Zgn : List D := [(D.list 1 (some 1) [(D.v (.int .u8 (5 : Int))),(D.v (.int .u32 (2 : Int))),(D.v (.int .u32 (5 : Int))),(D.v (.int .u32 (29 : Int))),(D.v (.int .u32 (32 : Int))),zU,zU,zU,zU,zU,zU,zU,zU,zU,zU,zU,zU])]
def Zgo : D := (D.list 1 (some 1) [(D.v (.int .u8 (5 : Int))),(D.v (.int .u32 (2 : Int))),(D.v (.int .u32 (5 : Int))),(D.v (.int .u32 (29 : Int))),(D.v (.int .u32 (32 : Int))),zU,zU,zU,zU,zU,zU,zU,zU,zU,zU,zU,zU])
def Zgp : List D := [(D.list 2 (some 2) [(D.v (.int .u8 (3 : Int))),(D.v (.int .u32 (1 : Int))),(D.v (.int .u32 (2 : Int))),(D.v (.int .u32 (4 : Int))),zU,zU,zU,zU,zU,zU,zU,zU,zU,zU,zU,zU,zU,(D.v (.int .u8 (3 : Int))),(D.v (.int .u32 (1 : Int))),(D.v (.int .u32 (2 : Int))),(D.v (.int .u32 (5 : Int))),zU,zU,zU,zU,zU,zU,zU,zU,zU,zU,zU,zU,zU])]
def Zgq : D := (D.list 2 (some 2) [(D.v (.int .u8 (3 : Int))),(D.v (.int .u32 (1 : Int))),(D.v (.int .u32 (2 : Int))),(D.v (.int .u32 (4 : Int))),zU,zU,zU,zU,zU,zU,zU,zU,zU,zU,zU,zU,zU,(D.v (.int .u8 (3 : Int))),(D.v (.int .u32 (1 : Int))),(D.v (.int .u32 (2 : Int))),(D.v (.int .u32 (5 : Int))),zU,zU,zU,zU,zU,zU,zU,zU,zU,zU,zU,zU,zU])
def Zgr : List D := [(D.list 1 (some 1) [(D.v (.int .u8 (3 : Int))),(D.v (.int .u32 (1 : Int))),(D.v (.int .u32 (2 : Int))),(D.v (.int .u32 (4 : Int))),zU,zU,zU,zU,zU,zU,zU,zU,zU,zU,zU,zU,zU])]
def Zgs : D := (D.list 1 (some 1) [(D.v (.int .u8 (3 : Int))),(D.v (.int .u32 (1 : Int))),(D.v (.int .u32 (2 : Int))),(D.v (.int .u32 (4 : Int))),zU,zU,zU,zU,zU,zU,zU,zU,zU,zU,zU,zU,zU])
def Zgt : List D := [(D.list 1 (some 1) [(D.v (.int .u8 (3 : Int))),(D.v (.int .u32 (1 : Int))),(D.v (.int .u32 (2 : Int))),(D.v (.int .u32 (5 : Int))),zU,zU,zU,zU,zU,zU,zU,zU,zU,zU,zU,zU,zU])]
def Zgu : D := (D.list 1 (some 1) [(D.v (.int .u8 (3 : Int))),(D.v (.int .u32 (1 : Int))),(D.v (.int .u32 (2 : Int))),(D.v (.int .u32 (5 : Int))),zU,zU,zU,zU,zU,zU,zU,zU,zU,zU,zU,zU,zU])
theorem Zv0 : funD Tg Z28 100000 60 Z6 Tryz.f59 Zgn = some Zgo := by kernel_rfl
theorem Zv1 : funD Tg Z28 100000 60 Z6 Tryz.f59 Zgp = some Zgq := by kernel_rfl
theorem Zv2 : funD Tg Z28 100000 60 Z6 Tryz.f59 Zgr = some Zgs := by kernel_rfl
theorem Zv3 : funD Tg Z28 100000 60 Z6 Tryz.f59 Zgt = some Zgu := by kernel_rfl
def Z92 (ds : List D) : Option D := if isT Zgn ds then some Zgo else (if isT Zgp ds then some Zgq else (if isT Zgr ds then some Zgs else (if isT Zgt ds then some Zgu else (none))))
theorem td_trees_clone_api_OID : ∀ ds d,Z92 ds = some d → DataSem Tg 59 ds d := by
 intro ds d h
 unfold Z92 at h
 split at h
 ·rename_i ha; obtain rfl := isT_eq ha; cases h; exact Z2u Zv0
 split at h
 ·rename_i ha; obtain rfl := isT_eq ha; cases h; exact Z2u Zv1
 split at h
 ·rename_i ha; obtain rfl := isT_eq ha; cases h; exact Z2u Zv2
 split at h
 ·rename_i ha; obtain rfl := isT_eq ha; cases h; exact Z2u Zv3
 cases h
def Zk : FnH := ⟨[(4,⟨(bm 114694 39),[(14,27)],none⟩)],[]⟩
def Z7t : FnH := ⟨[],[]⟩
theorem Z73 : Enters Tg 53 := ⟨Tryz.f53,Tryz.func53,by kernel_rfl,by kernel_rfl⟩
theorem Z7u : Enters Tg 81 := ⟨Tryz.f81,Tryz.func81,by kernel_rfl,by kernel_rfl⟩
noncomputable def Z41 : Hints := ⟨[(59,Z92),(82,fun _ => none),(83,fun _ => none)],[(53,Tryz.f53,Zk),(81,Tryz.f81,Z7t)],[203,205,206,208,148]⟩
theorem Z43 {m n : Nat} {ds : List D} {d : D} (h : funD Tg Z41 m n Zk Tryz.f53 ds = some d) : DataSem Tg 53 ds d := Z0 (H := Z41) (SpOk.cons td_trees_clone_api_OID (SpOk.cons (fun _ _ h => by cases h) (SpOk.cons (fun _ _ h => by cases h) SpOk.nil))) mixed (InlOk.cons Tryz.func53 Z73 (InlOk.cons Tryz.func81 Z7u InlOk.nil)) Tryz.func53 Z73 h
def Zv4 : List D := [(D.agg [(D.v (.int .i64 (-1 : Int))),(D.v (.int .u8 (5 : Int))),(D.v (.int .u32 (2 : Int))),(D.v (.int .u32 (5 : Int))),(D.v (.int .u32 (29 : Int))),(D.v (.int .u32 (32 : Int))),zU,zU,zU,zU,zU,zU,zU,zU,zU,zU,zU,zU,(D.list 1 (some 1) [(D.v (.int .u8 (5 : Int))),(D.v (.int .u32 (2 : Int))),(D.v (.int .u32 (5 : Int))),(D.v (.int .u32 (29 : Int))),(D.v (.int .u32 (32 : Int))),zU,zU,zU,zU,zU,zU,zU,zU,zU,zU,zU,zU]),(D.list 0 (some 0) [])])]
def Zv5 : D := (D.agg [(D.v (.int .i64 (-1 : Int))),(D.v (.int .u8 (5 : Int))),(D.v (.int .u32 (2 : Int))),(D.v (.int .u32 (5 : Int))),(D.v (.int .u32 (29 : Int))),(D.v (.int .u32 (32 : Int))),zU,zU,zU,zU,zU,zU,zU,zU,zU,zU,zU,zU,(D.list 1 (some 1) [(D.v (.int .u8 (5 : Int))),(D.v (.int .u32 (2 : Int))),(D.v (.int .u32 (5 : Int))),(D.v (.int .u32 (29 : Int))),(D.v (.int .u32 (32 : Int))),zU,zU,zU,zU,zU,zU,zU,zU,zU,zU,zU,zU]),(D.list 0 (some 0) [])])
def Zv6 : List D := [(D.agg [zI,(D.v (.int .u8 (3 : Int))),(D.v (.int .u32 (1 : Int))),(D.v (.int .u32 (2 : Int))),(D.v (.int .u32 (3 : Int))),zU,zU,zU,zU,zU,zU,zU,zU,zU,zU,zU,zU,zU,(D.list 2 (some 2) [(D.v (.int .u8 (3 : Int))),(D.v (.int .u32 (1 : Int))),(D.v (.int .u32 (2 : Int))),(D.v (.int .u32 (4 : Int))),zU,zU,zU,zU,zU,zU,zU,zU,zU,zU,zU,zU,zU,(D.v (.int .u8 (3 : Int))),(D.v (.int .u32 (1 : Int))),(D.v (.int .u32 (2 : Int))),(D.v (.int .u32 (5 : Int))),zU,zU,zU,zU,zU,zU,zU,zU,zU,zU,zU,zU,zU]),(D.list 0 (some 0) [])])]
def Zv7 : D := (D.agg [zI,(D.v (.int .u8 (3 : Int))),(D.v (.int .u32 (1 : Int))),(D.v (.int .u32 (2 : Int))),(D.v (.int .u32 (3 : Int))),zU,zU,zU,zU,zU,zU,zU,zU,zU,zU,zU,zU,zU,(D.list 2 (some 2) [(D.v (.int .u8 (3 : Int))),(D.v (.int .u32 (1 : Int))),(D.v (.int .u32 (2 : Int))),(D.v (.int .u32 (4 : Int))),zU,zU,zU,zU,zU,zU,zU,zU,zU,zU,zU,zU,zU,(D.v (.int .u8 (3 : Int))),(D.v (.int .u32 (1 : Int))),(D.v (.int .u32 (2 : Int))),(D.v (.int .u32 (5 : Int))),zU,zU,zU,zU,zU,zU,zU,zU,zU,zU,zU,zU,zU]),(D.list 0 (some 0) [])])
def Zv8 : List D := [(D.agg [zI,(D.v (.int .u8 (5 : Int))),(D.v (.int .u32 (2 : Int))),(D.v (.int .u32 (5 : Int))),(D.v (.int .u32 (29 : Int))),(D.v (.int .u32 (32 : Int))),zU,zU,zU,zU,zU,zU,zU,zU,zU,zU,zU,zU,(D.list 1 (some 1) [(D.v (.int .u8 (5 : Int))),(D.v (.int .u32 (2 : Int))),(D.v (.int .u32 (5 : Int))),(D.v (.int .u32 (29 : Int))),(D.v (.int .u32 (32 : Int))),zU,zU,zU,zU,zU,zU,zU,zU,zU,zU,zU,zU]),(D.list 0 (some 0) [])])]
def Zv9 : D := (D.agg [zI,(D.v (.int .u8 (5 : Int))),(D.v (.int .u32 (2 : Int))),(D.v (.int .u32 (5 : Int))),(D.v (.int .u32 (29 : Int))),(D.v (.int .u32 (32 : Int))),zU,zU,zU,zU,zU,zU,zU,zU,zU,zU,zU,zU,(D.list 1 (some 1) [(D.v (.int .u8 (5 : Int))),(D.v (.int .u32 (2 : Int))),(D.v (.int .u32 (5 : Int))),(D.v (.int .u32 (29 : Int))),(D.v (.int .u32 (32 : Int))),zU,zU,zU,zU,zU,zU,zU,zU,zU,zU,zU,zU]),(D.list 0 (some 0) [])])
def Zva : List D := [(D.agg [(D.v (.int .i64 (1 : Int))),(D.v (.int .u8 (3 : Int))),(D.v (.int .u32 (1 : Int))),(D.v (.int .u32 (2 : Int))),(D.v (.int .u32 (4 : Int))),zU,zU,zU,zU,zU,zU,zU,zU,zU,zU,zU,zU,zU,(D.list 1 (some 1) [(D.v (.int .u8 (3 : Int))),(D.v (.int .u32 (1 : Int))),(D.v (.int .u32 (2 : Int))),(D.v (.int .u32 (4 : Int))),zU,zU,zU,zU,zU,zU,zU,zU,zU,zU,zU,zU,zU]),(D.list 0 (some 0) [])])]
def Zvb : D := (D.agg [(D.v (.int .i64 (1 : Int))),(D.v (.int .u8 (3 : Int))),(D.v (.int .u32 (1 : Int))),(D.v (.int .u32 (2 : Int))),(D.v (.int .u32 (4 : Int))),zU,zU,zU,zU,zU,zU,zU,zU,zU,zU,zU,zU,zU,(D.list 1 (some 1) [(D.v (.int .u8 (3 : Int))),(D.v (.int .u32 (1 : Int))),(D.v (.int .u32 (2 : Int))),(D.v (.int .u32 (4 : Int))),zU,zU,zU,zU,zU,zU,zU,zU,zU,zU,zU,zU,zU]),(D.list 0 (some 0) [])])
def Zvc : List D := [(D.agg [(D.v (.int .i64 (1 : Int))),(D.v (.int .u8 (3 : Int))),(D.v (.int .u32 (1 : Int))),(D.v (.int .u32 (2 : Int))),(D.v (.int .u32 (5 : Int))),zU,zU,zU,zU,zU,zU,zU,zU,zU,zU,zU,zU,zU,(D.list 1 (some 1) [(D.v (.int .u8 (3 : Int))),(D.v (.int .u32 (1 : Int))),(D.v (.int .u32 (2 : Int))),(D.v (.int .u32 (5 : Int))),zU,zU,zU,zU,zU,zU,zU,zU,zU,zU,zU,zU,zU]),(D.list 0 (some 0) [])])]
def Zvd : D := (D.agg [(D.v (.int .i64 (1 : Int))),(D.v (.int .u8 (3 : Int))),(D.v (.int .u32 (1 : Int))),(D.v (.int .u32 (2 : Int))),(D.v (.int .u32 (5 : Int))),zU,zU,zU,zU,zU,zU,zU,zU,zU,zU,zU,zU,zU,(D.list 1 (some 1) [(D.v (.int .u8 (3 : Int))),(D.v (.int .u32 (1 : Int))),(D.v (.int .u32 (2 : Int))),(D.v (.int .u32 (5 : Int))),zU,zU,zU,zU,zU,zU,zU,zU,zU,zU,zU,zU,zU]),(D.list 0 (some 0) [])])
theorem Z16t : funD Tg Z41 100000 60 Zk Tryz.f53 Zv4 = some Zv5 := by kernel_rfl
theorem Z16u : funD Tg Z41 100000 60 Zk Tryz.f53 Zv6 = some Zv7 := by kernel_rfl
theorem Z16v : funD Tg Z41 100000 60 Zk Tryz.f53 Zv8 = some Zv9 := by kernel_rfl
theorem Z16w : funD Tg Z41 100000 60 Zk Tryz.f53 Zva = some Zvb := by kernel_rfl
theorem Z16x : funD Tg Z41 100000 60 Zk Tryz.f53 Zvc = some Zvd := by kernel_rfl
def Zjp (ds : List D) : Option D := if isT Zv4 ds then some Zv5 else (if isT Zv6 ds then some Zv7 else (if isT Zv8 ds then some Zv9 else (if isT Zva ds then some Zvb else (if isT Zvc ds then some Zvd else (none)))))
theorem td_trees_copied : ∀ ds d,Zjp ds = some d → DataSem Tg 53 ds d := by
 intro ds d h
 unfold Zjp at h
 split at h
 ·rename_i ha; obtain rfl := isT_eq ha; cases h; exact Z43 Z16t
 split at h
 ·rename_i ha; obtain rfl := isT_eq ha; cases h; exact Z43 Z16u
 split at h
 ·rename_i ha; obtain rfl := isT_eq ha; cases h; exact Z43 Z16v
 split at h
 ·rename_i ha; obtain rfl := isT_eq ha; cases h; exact Z43 Z16w
 split at h
 ·rename_i ha; obtain rfl := isT_eq ha; cases h; exact Z43 Z16x
 cases h
def Zy : FnH := ⟨[(19,⟨(bm 2166395068749415481073475612 171),[(88,20)],none⟩),(26,⟨(bm 2381976568446569244243622252022377553948 171),[(16,20),(128,20)],none⟩)],[]⟩
theorem Zgv : Enters Tg 25 := ⟨Tryz.f25,Tryz.func25,by kernel_rfl,by kernel_rfl⟩
noncomputable def Z5g : Hints := ⟨[(47,Zlz),(50,Z56),(51,Zly),(52,Zbo),(53,Zjp)],[(25,Tryz.f25,Zy)],[203,205,206,208,148]⟩
theorem Z4e {m n : Nat} {ds : List D} {d : D} (h : funD Tg Z5g m n Zy Tryz.f25 ds = some d) : DataSem Tg 25 ds d := Z0 (H := Z5g) (SpOk.cons td_trees_edges (SpOk.cons td_trees_examine (SpOk.cons td_trees_valid (SpOk.cons td_oids_Compare (SpOk.cons td_trees_copied SpOk.nil))))) mixed (InlOk.cons Tryz.func25 Zgv InlOk.nil) Tryz.func25 Zgv h
def Z124 : List D := [(D.agg [(D.list 1 (some 1) [(D.v (.int .i64 (-1 : Int))),(D.v (.int .u8 (5 : Int))),(D.v (.int .u32 (2 : Int))),(D.v (.int .u32 (5 : Int))),(D.v (.int .u32 (29 : Int))),(D.v (.int .u32 (32 : Int))),zU,zU,zU,zU,zU,zU,zU,zU,zU,zU,zU,zU,(D.list 1 (some 1) [(D.v (.int .u8 (5 : Int))),(D.v (.int .u32 (2 : Int))),(D.v (.int .u32 (5 : Int))),(D.v (.int .u32 (29 : Int))),(D.v (.int .u32 (32 : Int))),zU,zU,zU,zU,zU,zU,zU,zU,zU,zU,zU,zU]),(D.list 0 (some 0) [])])]),(D.agg [zI,(D.v (.int .u8 (3 : Int))),(D.v (.int .u32 (1 : Int))),(D.v (.int .u32 (2 : Int))),(D.v (.int .u32 (3 : Int))),zU,zU,zU,zU,zU,zU,zU,zU,zU,zU,zU,zU,zU,(D.list 2 (some 2) [(D.v (.int .u8 (3 : Int))),(D.v (.int .u32 (1 : Int))),(D.v (.int .u32 (2 : Int))),(D.v (.int .u32 (4 : Int))),zU,zU,zU,zU,zU,zU,zU,zU,zU,zU,zU,zU,zU,(D.v (.int .u8 (3 : Int))),(D.v (.int .u32 (1 : Int))),(D.v (.int .u32 (2 : Int))),(D.v (.int .u32 (5 : Int))),zU,zU,zU,zU,zU,zU,zU,zU,zU,zU,zU,zU,zU]),(D.list 0 (some 0) [])])]
def Z125 : D := (D.tup [(D.agg [(D.list 2 (some 2) [(D.v (.int .i64 (-1 : Int))),(D.v (.int .u8 (5 : Int))),(D.v (.int .u32 (2 : Int))),(D.v (.int .u32 (5 : Int))),(D.v (.int .u32 (29 : Int))),(D.v (.int .u32 (32 : Int))),zU,zU,zU,zU,zU,zU,zU,zU,zU,zU,zU,zU,(D.list 1 (some 1) [(D.v (.int .u8 (5 : Int))),(D.v (.int .u32 (2 : Int))),(D.v (.int .u32 (5 : Int))),(D.v (.int .u32 (29 : Int))),(D.v (.int .u32 (32 : Int))),zU,zU,zU,zU,zU,zU,zU,zU,zU,zU,zU,zU]),(D.list 0 (some 0) []),zI,(D.v (.int .u8 (3 : Int))),(D.v (.int .u32 (1 : Int))),(D.v (.int .u32 (2 : Int))),(D.v (.int .u32 (3 : Int))),zU,zU,zU,zU,zU,zU,zU,zU,zU,zU,zU,zU,zU,(D.list 2 (some 2) [(D.v (.int .u8 (3 : Int))),(D.v (.int .u32 (1 : Int))),(D.v (.int .u32 (2 : Int))),(D.v (.int .u32 (4 : Int))),zU,zU,zU,zU,zU,zU,zU,zU,zU,zU,zU,zU,zU,(D.v (.int .u8 (3 : Int))),(D.v (.int .u32 (1 : Int))),(D.v (.int .u32 (2 : Int))),(D.v (.int .u32 (5 : Int))),zU,zU,zU,zU,zU,zU,zU,zU,zU,zU,zU,zU,zU]),(D.list 0 (some 0) [])])]),(D.v (.int .i64 (1 : Int))),zI])
def Z126 : List D := [(D.agg [(D.list 2 (some 2) [(D.v (.int .i64 (-1 : Int))),(D.v (.int .u8 (5 : Int))),(D.v (.int .u32 (2 : Int))),(D.v (.int .u32 (5 : Int))),(D.v (.int .u32 (29 : Int))),(D.v (.int .u32 (32 : Int))),zU,zU,zU,zU,zU,zU,zU,zU,zU,zU,zU,zU,(D.list 1 (some 1) [(D.v (.int .u8 (5 : Int))),(D.v (.int .u32 (2 : Int))),(D.v (.int .u32 (5 : Int))),(D.v (.int .u32 (29 : Int))),(D.v (.int .u32 (32 : Int))),zU,zU,zU,zU,zU,zU,zU,zU,zU,zU,zU,zU]),(D.list 0 (some 0) []),zI,(D.v (.int .u8 (3 : Int))),(D.v (.int .u32 (1 : Int))),(D.v (.int .u32 (2 : Int))),(D.v (.int .u32 (3 : Int))),zU,zU,zU,zU,zU,zU,zU,zU,zU,zU,zU,zU,zU,(D.list 2 (some 2) [(D.v (.int .u8 (3 : Int))),(D.v (.int .u32 (1 : Int))),(D.v (.int .u32 (2 : Int))),(D.v (.int .u32 (4 : Int))),zU,zU,zU,zU,zU,zU,zU,zU,zU,zU,zU,zU,zU,(D.v (.int .u8 (3 : Int))),(D.v (.int .u32 (1 : Int))),(D.v (.int .u32 (2 : Int))),(D.v (.int .u32 (5 : Int))),zU,zU,zU,zU,zU,zU,zU,zU,zU,zU,zU,zU,zU]),(D.list 0 (some 0) [])])]),(D.agg [zI,(D.v (.int .u8 (5 : Int))),(D.v (.int .u32 (2 : Int))),(D.v (.int .u32 (5 : Int))),(D.v (.int .u32 (29 : Int))),(D.v (.int .u32 (32 : Int))),zU,zU,zU,zU,zU,zU,zU,zU,zU,zU,zU,zU,(D.list 1 (some 1) [(D.v (.int .u8 (5 : Int))),(D.v (.int .u32 (2 : Int))),(D.v (.int .u32 (5 : Int))),(D.v (.int .u32 (29 : Int))),(D.v (.int .u32 (32 : Int))),zU,zU,zU,zU,zU,zU,zU,zU,zU,zU,zU,zU]),(D.list 0 (some 0) [])])]
def Z127 : D := (D.tup [(D.agg [(D.list 3 (some 3) [(D.v (.int .i64 (-1 : Int))),(D.v (.int .u8 (5 : Int))),(D.v (.int .u32 (2 : Int))),(D.v (.int .u32 (5 : Int))),(D.v (.int .u32 (29 : Int))),(D.v (.int .u32 (32 : Int))),zU,zU,zU,zU,zU,zU,zU,zU,zU,zU,zU,zU,(D.list 1 (some 1) [(D.v (.int .u8 (5 : Int))),(D.v (.int .u32 (2 : Int))),(D.v (.int .u32 (5 : Int))),(D.v (.int .u32 (29 : Int))),(D.v (.int .u32 (32 : Int))),zU,zU,zU,zU,zU,zU,zU,zU,zU,zU,zU,zU]),(D.list 0 (some 0) []),zI,(D.v (.int .u8 (3 : Int))),(D.v (.int .u32 (1 : Int))),(D.v (.int .u32 (2 : Int))),(D.v (.int .u32 (3 : Int))),zU,zU,zU,zU,zU,zU,zU,zU,zU,zU,zU,zU,zU,(D.list 2 (some 2) [(D.v (.int .u8 (3 : Int))),(D.v (.int .u32 (1 : Int))),(D.v (.int .u32 (2 : Int))),(D.v (.int .u32 (4 : Int))),zU,zU,zU,zU,zU,zU,zU,zU,zU,zU,zU,zU,zU,(D.v (.int .u8 (3 : Int))),(D.v (.int .u32 (1 : Int))),(D.v (.int .u32 (2 : Int))),(D.v (.int .u32 (5 : Int))),zU,zU,zU,zU,zU,zU,zU,zU,zU,zU,zU,zU,zU]),(D.list 0 (some 0) []),zI,(D.v (.int .u8 (5 : Int))),(D.v (.int .u32 (2 : Int))),(D.v (.int .u32 (5 : Int))),(D.v (.int .u32 (29 : Int))),(D.v (.int .u32 (32 : Int))),zU,zU,zU,zU,zU,zU,zU,zU,zU,zU,zU,zU,(D.list 1 (some 1) [(D.v (.int .u8 (5 : Int))),(D.v (.int .u32 (2 : Int))),(D.v (.int .u32 (5 : Int))),(D.v (.int .u32 (29 : Int))),(D.v (.int .u32 (32 : Int))),zU,zU,zU,zU,zU,zU,zU,zU,zU,zU,zU,zU]),(D.list 0 (some 0) [])])]),(D.v (.int .i64 (2 : Int))),zI])
def Z128 : List D := [(D.agg [(D.list 3 (some 3) [(D.v (.int .i64 (-1 : Int))),(D.v (.int .u8 (5 : Int))),(D.v (.int .u32 (2 : Int))),(D.v (.int .u32 (5 : Int))),(D.v (.int .u32 (29 : Int))),(D.v (.int .u32 (32 : Int))),zU,zU,zU,zU,zU,zU,zU,zU,zU,zU,zU,zU,(D.list 1 (some 1) [(D.v (.int .u8 (5 : Int))),(D.v (.int .u32 (2 : Int))),(D.v (.int .u32 (5 : Int))),(D.v (.int .u32 (29 : Int))),(D.v (.int .u32 (32 : Int))),zU,zU,zU,zU,zU,zU,zU,zU,zU,zU,zU,zU]),(D.list 0 (some 0) []),zI,(D.v (.int .u8 (3 : Int))),(D.v (.int .u32 (1 : Int))),(D.v (.int .u32 (2 : Int))),(D.v (.int .u32 (3 : Int))),zU,zU,zU,zU,zU,zU,zU,zU,zU,zU,zU,zU,zU,(D.list 2 (some 2) [(D.v (.int .u8 (3 : Int))),(D.v (.int .u32 (1 : Int))),(D.v (.int .u32 (2 : Int))),(D.v (.int .u32 (4 : Int))),zU,zU,zU,zU,zU,zU,zU,zU,zU,zU,zU,zU,zU,(D.v (.int .u8 (3 : Int))),(D.v (.int .u32 (1 : Int))),(D.v (.int .u32 (2 : Int))),(D.v (.int .u32 (5 : Int))),zU,zU,zU,zU,zU,zU,zU,zU,zU,zU,zU,zU,zU]),(D.list 0 (some 0) []),zI,(D.v (.int .u8 (5 : Int))),(D.v (.int .u32 (2 : Int))),(D.v (.int .u32 (5 : Int))),(D.v (.int .u32 (29 : Int))),(D.v (.int .u32 (32 : Int))),zU,zU,zU,zU,zU,zU,zU,zU,zU,zU,zU,zU,(D.list 1 (some 1) [(D.v (.int .u8 (5 : Int))),(D.v (.int .u32 (2 : Int))),(D.v (.int .u32 (5 : Int))),(D.v (.int .u32 (29 : Int))),(D.v (.int .u32 (32 : Int))),zU,zU,zU,zU,zU,zU,zU,zU,zU,zU,zU,zU]),(D.list 0 (some 0) [])])]),(D.agg [(D.v (.int .i64 (1 : Int))),(D.v (.int .u8 (3 : Int))),(D.v (.int .u32 (1 : Int))),(D.v (.int .u32 (2 : Int))),(D.v (.int .u32 (4 : Int))),zU,zU,zU,zU,zU,zU,zU,zU,zU,zU,zU,zU,zU,(D.list 1 (some 1) [(D.v (.int .u8 (3 : Int))),(D.v (.int .u32 (1 : Int))),(D.v (.int .u32 (2 : Int))),(D.v (.int .u32 (4 : Int))),zU,zU,zU,zU,zU,zU,zU,zU,zU,zU,zU,zU,zU]),(D.list 0 (some 0) [])])]
def Z129 : D := (D.tup [(D.agg [(D.list 4 (some 4) [(D.v (.int .i64 (-1 : Int))),(D.v (.int .u8 (5 : Int))),(D.v (.int .u32 (2 : Int))),(D.v (.int .u32 (5 : Int))),(D.v (.int .u32 (29 : Int))),(D.v (.int .u32 (32 : Int))),zU,zU,zU,zU,zU,zU,zU,zU,zU,zU,zU,zU,(D.list 1 (some 1) [(D.v (.int .u8 (5 : Int))),(D.v (.int .u32 (2 : Int))),(D.v (.int .u32 (5 : Int))),(D.v (.int .u32 (29 : Int))),(D.v (.int .u32 (32 : Int))),zU,zU,zU,zU,zU,zU,zU,zU,zU,zU,zU,zU]),(D.list 0 (some 0) []),zI,(D.v (.int .u8 (3 : Int))),(D.v (.int .u32 (1 : Int))),(D.v (.int .u32 (2 : Int))),(D.v (.int .u32 (3 : Int))),zU,zU,zU,zU,zU,zU,zU,zU,zU,zU,zU,zU,zU,(D.list 2 (some 2) [(D.v (.int .u8 (3 : Int))),(D.v (.int .u32 (1 : Int))),(D.v (.int .u32 (2 : Int))),(D.v (.int .u32 (4 : Int))),zU,zU,zU,zU,zU,zU,zU,zU,zU,zU,zU,zU,zU,(D.v (.int .u8 (3 : Int))),(D.v (.int .u32 (1 : Int))),(D.v (.int .u32 (2 : Int))),(D.v (.int .u32 (5 : Int))),zU,zU,zU,zU,zU,zU,zU,zU,zU,zU,zU,zU,zU]),(D.list 0 (some 0) []),zI,(D.v (.int .u8 (5 : Int))),(D.v (.int .u32 (2 : Int))),(D.v (.int .u32 (5 : Int))),(D.v (.int .u32 (29 : Int))),(D.v (.int .u32 (32 : Int))),zU,zU,zU,zU,zU,zU,zU,zU,zU,zU,zU,zU,(D.list 1 (some 1) [(D.v (.int .u8 (5 : Int))),(D.v (.int .u32 (2 : Int))),(D.v (.int .u32 (5 : Int))),(D.v (.int .u32 (29 : Int))),(D.v (.int .u32 (32 : Int))),zU,zU,zU,zU,zU,zU,zU,zU,zU,zU,zU,zU]),(D.list 0 (some 0) []),(D.v (.int .i64 (1 : Int))),(D.v (.int .u8 (3 : Int))),(D.v (.int .u32 (1 : Int))),(D.v (.int .u32 (2 : Int))),(D.v (.int .u32 (4 : Int))),zU,zU,zU,zU,zU,zU,zU,zU,zU,zU,zU,zU,zU,(D.list 1 (some 1) [(D.v (.int .u8 (3 : Int))),(D.v (.int .u32 (1 : Int))),(D.v (.int .u32 (2 : Int))),(D.v (.int .u32 (4 : Int))),zU,zU,zU,zU,zU,zU,zU,zU,zU,zU,zU,zU,zU]),(D.list 0 (some 0) [])])]),(D.v (.int .i64 (3 : Int))),zI])
def Z12a : List D := [(D.agg [(D.list 4 (some 4) [(D.v (.int .i64 (-1 : Int))),(D.v (.int .u8 (5 : Int))),(D.v (.int .u32 (2 : Int))),(D.v (.int .u32 (5 : Int))),(D.v (.int .u32 (29 : Int))),(D.v (.int .u32 (32 : Int))),zU,zU,zU,zU,zU,zU,zU,zU,zU,zU,zU,zU,(D.list 1 (some 1) [(D.v (.int .u8 (5 : Int))),(D.v (.int .u32 (2 : Int))),(D.v (.int .u32 (5 : Int))),(D.v (.int .u32 (29 : Int))),(D.v (.int .u32 (32 : Int))),zU,zU,zU,zU,zU,zU,zU,zU,zU,zU,zU,zU]),(D.list 0 (some 0) []),zI,(D.v (.int .u8 (3 : Int))),(D.v (.int .u32 (1 : Int))),(D.v (.int .u32 (2 : Int))),(D.v (.int .u32 (3 : Int))),zU,zU,zU,zU,zU,zU,zU,zU,zU,zU,zU,zU,zU,(D.list 2 (some 2) [(D.v (.int .u8 (3 : Int))),(D.v (.int .u32 (1 : Int))),(D.v (.int .u32 (2 : Int))),(D.v (.int .u32 (4 : Int))),zU,zU,zU,zU,zU,zU,zU,zU,zU,zU,zU,zU,zU,(D.v (.int .u8 (3 : Int))),(D.v (.int .u32 (1 : Int))),(D.v (.int .u32 (2 : Int))),(D.v (.int .u32 (5 : Int))),zU,zU,zU,zU,zU,zU,zU,zU,zU,zU,zU,zU,zU]),(D.list 0 (some 0) []),zI,(D.v (.int .u8 (5 : Int))),(D.v (.int .u32 (2 : Int))),(D.v (.int .u32 (5 : Int))),(D.v (.int .u32 (29 : Int))),(D.v (.int .u32 (32 : Int))),zU,zU,zU,zU,zU,zU,zU,zU,zU,zU,zU,zU,(D.list 1 (some 1) [(D.v (.int .u8 (5 : Int))),(D.v (.int .u32 (2 : Int))),(D.v (.int .u32 (5 : Int))),(D.v (.int .u32 (29 : Int))),(D.v (.int .u32 (32 : Int))),zU,zU,zU,zU,zU,zU,zU,zU,zU,zU,zU,zU]),(D.list 0 (some 0) []),(D.v (.int .i64 (1 : Int))),(D.v (.int .u8 (3 : Int))),(D.v (.int .u32 (1 : Int))),(D.v (.int .u32 (2 : Int))),(D.v (.int .u32 (4 : Int))),zU,zU,zU,zU,zU,zU,zU,zU,zU,zU,zU,zU,zU,(D.list 1 (some 1) [(D.v (.int .u8 (3 : Int))),(D.v (.int .u32 (1 : Int))),(D.v (.int .u32 (2 : Int))),(D.v (.int .u32 (4 : Int))),zU,zU,zU,zU,zU,zU,zU,zU,zU,zU,zU,zU,zU]),(D.list 0 (some 0) [])])]),(D.agg [(D.v (.int .i64 (1 : Int))),(D.v (.int .u8 (3 : Int))),(D.v (.int .u32 (1 : Int))),(D.v (.int .u32 (2 : Int))),(D.v (.int .u32 (5 : Int))),zU,zU,zU,zU,zU,zU,zU,zU,zU,zU,zU,zU,zU,(D.list 1 (some 1) [(D.v (.int .u8 (3 : Int))),(D.v (.int .u32 (1 : Int))),(D.v (.int .u32 (2 : Int))),(D.v (.int .u32 (5 : Int))),zU,zU,zU,zU,zU,zU,zU,zU,zU,zU,zU,zU,zU]),(D.list 0 (some 0) [])])]
def Z12b : D := (D.tup [(D.agg [(D.list 5 (some 5) [(D.v (.int .i64 (-1 : Int))),(D.v (.int .u8 (5 : Int))),(D.v (.int .u32 (2 : Int))),(D.v (.int .u32 (5 : Int))),(D.v (.int .u32 (29 : Int))),(D.v (.int .u32 (32 : Int))),zU,zU,zU,zU,zU,zU,zU,zU,zU,zU,zU,zU,(D.list 1 (some 1) [(D.v (.int .u8 (5 : Int))),(D.v (.int .u32 (2 : Int))),(D.v (.int .u32 (5 : Int))),(D.v (.int .u32 (29 : Int))),(D.v (.int .u32 (32 : Int))),zU,zU,zU,zU,zU,zU,zU,zU,zU,zU,zU,zU]),(D.list 0 (some 0) []),zI,(D.v (.int .u8 (3 : Int))),(D.v (.int .u32 (1 : Int))),(D.v (.int .u32 (2 : Int))),(D.v (.int .u32 (3 : Int))),zU,zU,zU,zU,zU,zU,zU,zU,zU,zU,zU,zU,zU,(D.list 2 (some 2) [(D.v (.int .u8 (3 : Int))),(D.v (.int .u32 (1 : Int))),(D.v (.int .u32 (2 : Int))),(D.v (.int .u32 (4 : Int))),zU,zU,zU,zU,zU,zU,zU,zU,zU,zU,zU,zU,zU,(D.v (.int .u8 (3 : Int))),(D.v (.int .u32 (1 : Int))),(D.v (.int .u32 (2 : Int))),(D.v (.int .u32 (5 : Int))),zU,zU,zU,zU,zU,zU,zU,zU,zU,zU,zU,zU,zU]),(D.list 0 (some 0) []),zI,(D.v (.int .u8 (5 : Int))),(D.v (.int .u32 (2 : Int))),(D.v (.int .u32 (5 : Int))),(D.v (.int .u32 (29 : Int))),(D.v (.int .u32 (32 : Int))),zU,zU,zU,zU,zU,zU,zU,zU,zU,zU,zU,zU,(D.list 1 (some 1) [(D.v (.int .u8 (5 : Int))),(D.v (.int .u32 (2 : Int))),(D.v (.int .u32 (5 : Int))),(D.v (.int .u32 (29 : Int))),(D.v (.int .u32 (32 : Int))),zU,zU,zU,zU,zU,zU,zU,zU,zU,zU,zU,zU]),(D.list 0 (some 0) []),(D.v (.int .i64 (1 : Int))),(D.v (.int .u8 (3 : Int))),(D.v (.int .u32 (1 : Int))),(D.v (.int .u32 (2 : Int))),(D.v (.int .u32 (4 : Int))),zU,zU,zU,zU,zU,zU,zU,zU,zU,zU,zU,zU,zU,(D.list 1 (some 1) [(D.v (.int .u8 (3 : Int))),(D.v (.int .u32 (1 : Int))),(D.v (.int .u32 (2 : Int))),(D.v (.int .u32 (4 : Int))),zU,zU,zU,zU,zU,zU,zU,zU,zU,zU,zU,zU,zU]),(D.list 0 (some 0) []),(D.v (.int .i64 (1 : Int))),(D.v (.int .u8 (3 : Int))),(D.v (.int .u32 (1 : Int))),(D.v (.int .u32 (2 : Int))),(D.v (.int .u32 (5 : Int))),zU,zU,zU,zU,zU,zU,zU,zU,zU,zU,zU,zU,zU,(D.list 1 (some 1) [(D.v (.int .u8 (3 : Int))),(D.v (.int .u32 (1 : Int))),(D.v (.int .u32 (2 : Int))),(D.v (.int .u32 (5 : Int))),zU,zU,zU,zU,zU,zU,zU,zU,zU,zU,zU,zU,zU]),(D.list 0 (some 0) [])])]),(D.v (.int .i64 (4 : Int))),zI])
def Z12c : List D := [(D.agg [(D.list 5 (some 5) [(D.v (.int .i64 (-1 : Int))),(D.v (.int .u8 (5 : Int))),(D.v (.int .u32 (2 : Int))),(D.v (.int .u32 (5 : Int))),(D.v (.int .u32 (29 : Int))),(D.v (.int .u32 (32 : Int))),zU,zU,zU,zU,zU,zU,zU,zU,zU,zU,zU,zU,(D.list 1 (some 1) [(D.v (.int .u8 (5 : Int))),(D.v (.int .u32 (2 : Int))),(D.v (.int .u32 (5 : Int))),(D.v (.int .u32 (29 : Int))),(D.v (.int .u32 (32 : Int))),zU,zU,zU,zU,zU,zU,zU,zU,zU,zU,zU,zU]),(D.list 0 (some 0) []),zI,(D.v (.int .u8 (3 : Int))),(D.v (.int .u32 (1 : Int))),(D.v (.int .u32 (2 : Int))),(D.v (.int .u32 (3 : Int))),zU,zU,zU,zU,zU,zU,zU,zU,zU,zU,zU,zU,zU,(D.list 2 (some 2) [(D.v (.int .u8 (3 : Int))),(D.v (.int .u32 (1 : Int))),(D.v (.int .u32 (2 : Int))),(D.v (.int .u32 (4 : Int))),zU,zU,zU,zU,zU,zU,zU,zU,zU,zU,zU,zU,zU,(D.v (.int .u8 (3 : Int))),(D.v (.int .u32 (1 : Int))),(D.v (.int .u32 (2 : Int))),(D.v (.int .u32 (5 : Int))),zU,zU,zU,zU,zU,zU,zU,zU,zU,zU,zU,zU,zU]),(D.list 0 (some 0) []),zI,(D.v (.int .u8 (5 : Int))),(D.v (.int .u32 (2 : Int))),(D.v (.int .u32 (5 : Int))),(D.v (.int .u32 (29 : Int))),(D.v (.int .u32 (32 : Int))),zU,zU,zU,zU,zU,zU,zU,zU,zU,zU,zU,zU,(D.list 1 (some 1) [(D.v (.int .u8 (5 : Int))),(D.v (.int .u32 (2 : Int))),(D.v (.int .u32 (5 : Int))),(D.v (.int .u32 (29 : Int))),(D.v (.int .u32 (32 : Int))),zU,zU,zU,zU,zU,zU,zU,zU,zU,zU,zU,zU]),(D.list 0 (some 0) []),(D.v (.int .i64 (1 : Int))),(D.v (.int .u8 (3 : Int))),(D.v (.int .u32 (1 : Int))),(D.v (.int .u32 (2 : Int))),(D.v (.int .u32 (4 : Int))),zU,zU,zU,zU,zU,zU,zU,zU,zU,zU,zU,zU,zU,(D.list 1 (some 1) [(D.v (.int .u8 (3 : Int))),(D.v (.int .u32 (1 : Int))),(D.v (.int .u32 (2 : Int))),(D.v (.int .u32 (4 : Int))),zU,zU,zU,zU,zU,zU,zU,zU,zU,zU,zU,zU,zU]),(D.list 0 (some 0) []),(D.v (.int .i64 (1 : Int))),(D.v (.int .u8 (3 : Int))),(D.v (.int .u32 (1 : Int))),(D.v (.int .u32 (2 : Int))),(D.v (.int .u32 (5 : Int))),zU,zU,zU,zU,zU,zU,zU,zU,zU,zU,zU,zU,zU,(D.list 1 (some 1) [(D.v (.int .u8 (3 : Int))),(D.v (.int .u32 (1 : Int))),(D.v (.int .u32 (2 : Int))),(D.v (.int .u32 (5 : Int))),zU,zU,zU,zU,zU,zU,zU,zU,zU,zU,zU,zU,zU]),(D.list 0 (some 0) [])])]),(D.agg [(D.v (.int .i64 (1 : Int))),(D.v (.int .u8 (3 : Int))),(D.v (.int .u32 (1 : Int))),(D.v (.int .u32 (2 : Int))),(D.v (.int .u32 (4 : Int))),zU,zU,zU,zU,zU,zU,zU,zU,zU,zU,zU,zU,zU,(D.list 0 (some 0) []),(D.list 0 (some 0) [])])]
def Z12d : D := (D.tup [(D.agg [(D.list 0 (some 0) [])]),zI,(D.v (.int .i64 (20 : Int)))])
def Z12e : List D := [(D.agg [(D.list 5 (some 5) [(D.v (.int .i64 (-1 : Int))),(D.v (.int .u8 (5 : Int))),(D.v (.int .u32 (2 : Int))),(D.v (.int .u32 (5 : Int))),(D.v (.int .u32 (29 : Int))),(D.v (.int .u32 (32 : Int))),zU,zU,zU,zU,zU,zU,zU,zU,zU,zU,zU,zU,(D.list 1 (some 1) [(D.v (.int .u8 (5 : Int))),(D.v (.int .u32 (2 : Int))),(D.v (.int .u32 (5 : Int))),(D.v (.int .u32 (29 : Int))),(D.v (.int .u32 (32 : Int))),zU,zU,zU,zU,zU,zU,zU,zU,zU,zU,zU,zU]),(D.list 0 (some 0) []),zI,(D.v (.int .u8 (3 : Int))),(D.v (.int .u32 (1 : Int))),(D.v (.int .u32 (2 : Int))),(D.v (.int .u32 (3 : Int))),zU,zU,zU,zU,zU,zU,zU,zU,zU,zU,zU,zU,zU,(D.list 2 (some 2) [(D.v (.int .u8 (3 : Int))),(D.v (.int .u32 (1 : Int))),(D.v (.int .u32 (2 : Int))),(D.v (.int .u32 (4 : Int))),zU,zU,zU,zU,zU,zU,zU,zU,zU,zU,zU,zU,zU,(D.v (.int .u8 (3 : Int))),(D.v (.int .u32 (1 : Int))),(D.v (.int .u32 (2 : Int))),(D.v (.int .u32 (5 : Int))),zU,zU,zU,zU,zU,zU,zU,zU,zU,zU,zU,zU,zU]),(D.list 0 (some 0) []),zI,(D.v (.int .u8 (5 : Int))),(D.v (.int .u32 (2 : Int))),(D.v (.int .u32 (5 : Int))),(D.v (.int .u32 (29 : Int))),(D.v (.int .u32 (32 : Int))),zU,zU,zU,zU,zU,zU,zU,zU,zU,zU,zU,zU,(D.list 1 (some 1) [(D.v (.int .u8 (5 : Int))),(D.v (.int .u32 (2 : Int))),(D.v (.int .u32 (5 : Int))),(D.v (.int .u32 (29 : Int))),(D.v (.int .u32 (32 : Int))),zU,zU,zU,zU,zU,zU,zU,zU,zU,zU,zU,zU]),(D.list 0 (some 0) []),(D.v (.int .i64 (1 : Int))),(D.v (.int .u8 (3 : Int))),(D.v (.int .u32 (1 : Int))),(D.v (.int .u32 (2 : Int))),(D.v (.int .u32 (4 : Int))),zU,zU,zU,zU,zU,zU,zU,zU,zU,zU,zU,zU,zU,(D.list 1 (some 1) [(D.v (.int .u8 (3 : Int))),(D.v (.int .u32 (1 : Int))),(D.v (.int .u32 (2 : Int))),(D.v (.int .u32 (4 : Int))),zU,zU,zU,zU,zU,zU,zU,zU,zU,zU,zU,zU,zU]),(D.list 0 (some 0) []),(D.v (.int .i64 (1 : Int))),(D.v (.int .u8 (3 : Int))),(D.v (.int .u32 (1 : Int))),(D.v (.int .u32 (2 : Int))),(D.v (.int .u32 (5 : Int))),zU,zU,zU,zU,zU,zU,zU,zU,zU,zU,zU,zU,zU,(D.list 1 (some 1) [(D.v (.int .u8 (3 : Int))),(D.v (.int .u32 (1 : Int))),(D.v (.int .u32 (2 : Int))),(D.v (.int .u32 (5 : Int))),zU,zU,zU,zU,zU,zU,zU,zU,zU,zU,zU,zU,zU]),(D.list 0 (some 0) [])])]),(D.agg [(D.v (.int .i64 (9 : Int))),(D.v (.int .u8 (3 : Int))),(D.v (.int .u32 (1 : Int))),(D.v (.int .u32 (2 : Int))),(D.v (.int .u32 (4 : Int))),zU,zU,zU,zU,zU,zU,zU,zU,zU,zU,zU,zU,zU,(D.list 0 (some 0) []),(D.list 0 (some 0) [])])]
def Z12f : D := (D.tup [(D.agg [(D.list 0 (some 0) [])]),zI,(D.v (.int .i64 (19 : Int)))])
theorem Z1d8 : funD Tg Z5g 100000 60 Zy Tryz.f25 Z124 = some Z125 := by kernel_rfl
theorem Z1d9 : funD Tg Z5g 100000 60 Zy Tryz.f25 Z126 = some Z127 := by kernel_rfl
theorem Z1da : funD Tg Z5g 100000 60 Zy Tryz.f25 Z128 = some Z129 := by kernel_rfl
theorem Z1db : funD Tg Z5g 100000 60 Zy Tryz.f25 Z12a = some Z12b := by kernel_rfl
theorem Z1dc : funD Tg Z5g 100000 60 Zy Tryz.f25 Z12c = some Z12d := by kernel_rfl
theorem Z1dd : funD Tg Z5g 100000 60 Zy Tryz.f25 Z12e = some Z12f := by kernel_rfl
def Ztc (ds : List D) : Option D := if isT Z124 ds then some Z125 else (if isT Z126 ds then some Z127 else (if isT Z128 ds then some Z129 else (if isT Z12a ds then some Z12b else (if isT Z12c ds then some Z12d else (if isT Z12e ds then some Z12f else (none))))))
theorem td_trees_Add : ∀ ds d,Ztc ds = some d → DataSem Tg 25 ds d := by
 intro ds d h
 unfold Ztc at h
 split at h
 ·rename_i ha; obtain rfl := isT_eq ha; cases h; exact Z4e Z1d8
 split at h
 ·rename_i ha; obtain rfl := isT_eq ha; cases h; exact Z4e Z1d9
 split at h
 ·rename_i ha; obtain rfl := isT_eq ha; cases h; exact Z4e Z1da
 split at h
 ·rename_i ha; obtain rfl := isT_eq ha; cases h; exact Z4e Z1db
 split at h
 ·rename_i ha; obtain rfl := isT_eq ha; cases h; exact Z4e Z1dc
 split at h
 ·rename_i ha; obtain rfl := isT_eq ha; cases h; exact Z4e Z1dd
 cases h
def Zd : FnH := ⟨[],[]⟩
theorem Z20 : Enters Tg 57 := ⟨Tryz.f57,Tryz.func57,by kernel_rfl,by kernel_rfl⟩
noncomputable def Z35 : Hints := ⟨[],[(57,Tryz.f57,Zd)],[203,205,206,208,148]⟩
theorem Z74 {m n : Nat} {ds : List D} {d : D} (h : funD Tg Z35 m n Zd Tryz.f57 ds = some d) : DataSem Tg 57 ds d := Z0 (H := Z35) SpOk.nil mixed (InlOk.cons Tryz.func57 Z20 InlOk.nil) Tryz.func57 Z20 h
def Zbu : List D := [(D.list 2 none [(D.v (.int .i64 (-1 : Int))),(D.v (.int .u8 (5 : Int))),(D.v (.int .u32 (2 : Int))),(D.v (.int .u32 (5 : Int))),(D.v (.int .u32 (29 : Int))),(D.v (.int .u32 (32 : Int))),zU,zU,zU,zU,zU,zU,zU,zU,zU,zU,zU,zU,(D.list 1 (some 1) [(D.v (.int .u8 (5 : Int))),(D.v (.int .u32 (2 : Int))),(D.v (.int .u32 (5 : Int))),(D.v (.int .u32 (29 : Int))),(D.v (.int .u32 (32 : Int))),zU,zU,zU,zU,zU,zU,zU,zU,zU,zU,zU,zU]),(D.list 0 (some 0) []),zI,(D.v (.int .u8 (5 : Int))),(D.v (.int .u32 (2 : Int))),(D.v (.int .u32 (5 : Int))),(D.v (.int .u32 (29 : Int))),(D.v (.int .u32 (32 : Int))),zU,zU,zU,zU,zU,zU,zU,zU,zU,zU,zU,zU,(D.list 1 (some 1) [(D.v (.int .u8 (5 : Int))),(D.v (.int .u32 (2 : Int))),(D.v (.int .u32 (5 : Int))),(D.v (.int .u32 (29 : Int))),(D.v (.int .u32 (32 : Int))),zU,zU,zU,zU,zU,zU,zU,zU,zU,zU,zU,zU]),(D.list 0 (some 0) [])])]
def Zbv : D := (D.list 2 (some 2) [(D.v (.int .i64 (-1 : Int))),(D.v (.int .u8 (5 : Int))),(D.v (.int .u32 (2 : Int))),(D.v (.int .u32 (5 : Int))),(D.v (.int .u32 (29 : Int))),(D.v (.int .u32 (32 : Int))),zU,zU,zU,zU,zU,zU,zU,zU,zU,zU,zU,zU,(D.list 1 (some 1) [(D.v (.int .u8 (5 : Int))),(D.v (.int .u32 (2 : Int))),(D.v (.int .u32 (5 : Int))),(D.v (.int .u32 (29 : Int))),(D.v (.int .u32 (32 : Int))),zU,zU,zU,zU,zU,zU,zU,zU,zU,zU,zU,zU]),(D.list 0 (some 0) []),zI,(D.v (.int .u8 (5 : Int))),(D.v (.int .u32 (2 : Int))),(D.v (.int .u32 (5 : Int))),(D.v (.int .u32 (29 : Int))),(D.v (.int .u32 (32 : Int))),zU,zU,zU,zU,zU,zU,zU,zU,zU,zU,zU,zU,(D.list 1 (some 1) [(D.v (.int .u8 (5 : Int))),(D.v (.int .u32 (2 : Int))),(D.v (.int .u32 (5 : Int))),(D.v (.int .u32 (29 : Int))),(D.v (.int .u32 (32 : Int))),zU,zU,zU,zU,zU,zU,zU,zU,zU,zU,zU,zU]),(D.list 0 (some 0) [])])
def Zbw : List D := [(D.list 0 none [])]
def Zbx : D := (D.list 0 (some 0) [])
theorem Zr4 : funD Tg Z35 100000 60 Zd Tryz.f57 Zbu = some Zbv := by kernel_rfl
theorem Zr5 : funD Tg Z35 100000 60 Zd Tryz.f57 Zbw = some Zbx := by kernel_rfl
def Z5i (ds : List D) : Option D := if isT Zbu ds then some Zbv else (if isT Zbw ds then some Zbx else (none))
theorem td_trees_clone_trees_Node : ∀ ds d,Z5i ds = some d → DataSem Tg 57 ds d := by
 intro ds d h
 unfold Z5i at h
 split at h
 ·rename_i ha; obtain rfl := isT_eq ha; cases h; exact Z74 Zr4
 split at h
 ·rename_i ha; obtain rfl := isT_eq ha; cases h; exact Z74 Zr5
 cases h
def Z2d : FnH := ⟨[(6,⟨(bm 117440660 97),[(7,1),(24,1)],none⟩),(15,⟨(bm 3940649673952400 97),[(7,1),(10,1),(11,20),(49,20)],none⟩)],[]⟩
theorem Z75 : Enters Tg 28 := ⟨Tryz.f28,Tryz.func28,by kernel_rfl,by kernel_rfl⟩
noncomputable def Zf7 : Hints := ⟨[(41,Zen),(53,Zjp),(57,Z5i)],[(28,Tryz.f28,Z2d)],[203,205,206,208,148]⟩
theorem Zok {m n : Nat} {ds : List D} {d : D} (h : funD Tg Zf7 m n Z2d Tryz.f28 ds = some d) : DataSem Tg 28 ds d := Z0 (H := Zf7) (SpOk.cons td_trees_Check (SpOk.cons td_trees_copied (SpOk.cons td_trees_clone_trees_Node SpOk.nil))) mixed (InlOk.cons Tryz.func28 Z75 InlOk.nil) Tryz.func28 Z75 h
def Zve : List D := [(D.agg [(D.list 5 (some 5) [(D.v (.int .i64 (-1 : Int))),(D.v (.int .u8 (5 : Int))),(D.v (.int .u32 (2 : Int))),(D.v (.int .u32 (5 : Int))),(D.v (.int .u32 (29 : Int))),(D.v (.int .u32 (32 : Int))),zU,zU,zU,zU,zU,zU,zU,zU,zU,zU,zU,zU,(D.list 1 (some 1) [(D.v (.int .u8 (5 : Int))),(D.v (.int .u32 (2 : Int))),(D.v (.int .u32 (5 : Int))),(D.v (.int .u32 (29 : Int))),(D.v (.int .u32 (32 : Int))),zU,zU,zU,zU,zU,zU,zU,zU,zU,zU,zU,zU]),(D.list 0 (some 0) []),zI,(D.v (.int .u8 (3 : Int))),(D.v (.int .u32 (1 : Int))),(D.v (.int .u32 (2 : Int))),(D.v (.int .u32 (3 : Int))),zU,zU,zU,zU,zU,zU,zU,zU,zU,zU,zU,zU,zU,(D.list 2 (some 2) [(D.v (.int .u8 (3 : Int))),(D.v (.int .u32 (1 : Int))),(D.v (.int .u32 (2 : Int))),(D.v (.int .u32 (4 : Int))),zU,zU,zU,zU,zU,zU,zU,zU,zU,zU,zU,zU,zU,(D.v (.int .u8 (3 : Int))),(D.v (.int .u32 (1 : Int))),(D.v (.int .u32 (2 : Int))),(D.v (.int .u32 (5 : Int))),zU,zU,zU,zU,zU,zU,zU,zU,zU,zU,zU,zU,zU]),(D.list 0 (some 0) []),zI,(D.v (.int .u8 (5 : Int))),(D.v (.int .u32 (2 : Int))),(D.v (.int .u32 (5 : Int))),(D.v (.int .u32 (29 : Int))),(D.v (.int .u32 (32 : Int))),zU,zU,zU,zU,zU,zU,zU,zU,zU,zU,zU,zU,(D.list 1 (some 1) [(D.v (.int .u8 (5 : Int))),(D.v (.int .u32 (2 : Int))),(D.v (.int .u32 (5 : Int))),(D.v (.int .u32 (29 : Int))),(D.v (.int .u32 (32 : Int))),zU,zU,zU,zU,zU,zU,zU,zU,zU,zU,zU,zU]),(D.list 0 (some 0) []),(D.v (.int .i64 (1 : Int))),(D.v (.int .u8 (3 : Int))),(D.v (.int .u32 (1 : Int))),(D.v (.int .u32 (2 : Int))),(D.v (.int .u32 (4 : Int))),zU,zU,zU,zU,zU,zU,zU,zU,zU,zU,zU,zU,zU,(D.list 1 (some 1) [(D.v (.int .u8 (3 : Int))),(D.v (.int .u32 (1 : Int))),(D.v (.int .u32 (2 : Int))),(D.v (.int .u32 (4 : Int))),zU,zU,zU,zU,zU,zU,zU,zU,zU,zU,zU,zU,zU]),(D.list 0 (some 0) []),(D.v (.int .i64 (1 : Int))),(D.v (.int .u8 (3 : Int))),(D.v (.int .u32 (1 : Int))),(D.v (.int .u32 (2 : Int))),(D.v (.int .u32 (5 : Int))),zU,zU,zU,zU,zU,zU,zU,zU,zU,zU,zU,zU,zU,(D.list 1 (some 1) [(D.v (.int .u8 (3 : Int))),(D.v (.int .u32 (1 : Int))),(D.v (.int .u32 (2 : Int))),(D.v (.int .u32 (5 : Int))),zU,zU,zU,zU,zU,zU,zU,zU,zU,zU,zU,zU,zU]),(D.list 0 (some 0) [])])]),(D.list 1 (some 1) [(D.v (.int .i64 (1 : Int)))])]
def Zvf : D := (D.tup [(D.agg [(D.list 2 (some 2) [(D.v (.int .i64 (-1 : Int))),(D.v (.int .u8 (5 : Int))),(D.v (.int .u32 (2 : Int))),(D.v (.int .u32 (5 : Int))),(D.v (.int .u32 (29 : Int))),(D.v (.int .u32 (32 : Int))),zU,zU,zU,zU,zU,zU,zU,zU,zU,zU,zU,zU,(D.list 1 (some 1) [(D.v (.int .u8 (5 : Int))),(D.v (.int .u32 (2 : Int))),(D.v (.int .u32 (5 : Int))),(D.v (.int .u32 (29 : Int))),(D.v (.int .u32 (32 : Int))),zU,zU,zU,zU,zU,zU,zU,zU,zU,zU,zU,zU]),(D.list 0 (some 0) []),zI,(D.v (.int .u8 (5 : Int))),(D.v (.int .u32 (2 : Int))),(D.v (.int .u32 (5 : Int))),(D.v (.int .u32 (29 : Int))),(D.v (.int .u32 (32 : Int))),zU,zU,zU,zU,zU,zU,zU,zU,zU,zU,zU,zU,(D.list 1 (some 1) [(D.v (.int .u8 (5 : Int))),(D.v (.int .u32 (2 : Int))),(D.v (.int .u32 (5 : Int))),(D.v (.int .u32 (29 : Int))),(D.v (.int .u32 (32 : Int))),zU,zU,zU,zU,zU,zU,zU,zU,zU,zU,zU,zU]),(D.list 0 (some 0) [])])]),zI])
def Zvg : List D := [(D.agg [(D.list 5 (some 5) [(D.v (.int .i64 (-1 : Int))),(D.v (.int .u8 (5 : Int))),(D.v (.int .u32 (2 : Int))),(D.v (.int .u32 (5 : Int))),(D.v (.int .u32 (29 : Int))),(D.v (.int .u32 (32 : Int))),zU,zU,zU,zU,zU,zU,zU,zU,zU,zU,zU,zU,(D.list 1 (some 1) [(D.v (.int .u8 (5 : Int))),(D.v (.int .u32 (2 : Int))),(D.v (.int .u32 (5 : Int))),(D.v (.int .u32 (29 : Int))),(D.v (.int .u32 (32 : Int))),zU,zU,zU,zU,zU,zU,zU,zU,zU,zU,zU,zU]),(D.list 0 (some 0) []),zI,(D.v (.int .u8 (3 : Int))),(D.v (.int .u32 (1 : Int))),(D.v (.int .u32 (2 : Int))),(D.v (.int .u32 (3 : Int))),zU,zU,zU,zU,zU,zU,zU,zU,zU,zU,zU,zU,zU,(D.list 2 (some 2) [(D.v (.int .u8 (3 : Int))),(D.v (.int .u32 (1 : Int))),(D.v (.int .u32 (2 : Int))),(D.v (.int .u32 (4 : Int))),zU,zU,zU,zU,zU,zU,zU,zU,zU,zU,zU,zU,zU,(D.v (.int .u8 (3 : Int))),(D.v (.int .u32 (1 : Int))),(D.v (.int .u32 (2 : Int))),(D.v (.int .u32 (5 : Int))),zU,zU,zU,zU,zU,zU,zU,zU,zU,zU,zU,zU,zU]),(D.list 0 (some 0) []),zI,(D.v (.int .u8 (5 : Int))),(D.v (.int .u32 (2 : Int))),(D.v (.int .u32 (5 : Int))),(D.v (.int .u32 (29 : Int))),(D.v (.int .u32 (32 : Int))),zU,zU,zU,zU,zU,zU,zU,zU,zU,zU,zU,zU,(D.list 1 (some 1) [(D.v (.int .u8 (5 : Int))),(D.v (.int .u32 (2 : Int))),(D.v (.int .u32 (5 : Int))),(D.v (.int .u32 (29 : Int))),(D.v (.int .u32 (32 : Int))),zU,zU,zU,zU,zU,zU,zU,zU,zU,zU,zU,zU]),(D.list 0 (some 0) []),(D.v (.int .i64 (1 : Int))),(D.v (.int .u8 (3 : Int))),(D.v (.int .u32 (1 : Int))),(D.v (.int .u32 (2 : Int))),(D.v (.int .u32 (4 : Int))),zU,zU,zU,zU,zU,zU,zU,zU,zU,zU,zU,zU,zU,(D.list 1 (some 1) [(D.v (.int .u8 (3 : Int))),(D.v (.int .u32 (1 : Int))),(D.v (.int .u32 (2 : Int))),(D.v (.int .u32 (4 : Int))),zU,zU,zU,zU,zU,zU,zU,zU,zU,zU,zU,zU,zU]),(D.list 0 (some 0) []),(D.v (.int .i64 (1 : Int))),(D.v (.int .u8 (3 : Int))),(D.v (.int .u32 (1 : Int))),(D.v (.int .u32 (2 : Int))),(D.v (.int .u32 (5 : Int))),zU,zU,zU,zU,zU,zU,zU,zU,zU,zU,zU,zU,zU,(D.list 1 (some 1) [(D.v (.int .u8 (3 : Int))),(D.v (.int .u32 (1 : Int))),(D.v (.int .u32 (2 : Int))),(D.v (.int .u32 (5 : Int))),zU,zU,zU,zU,zU,zU,zU,zU,zU,zU,zU,zU,zU]),(D.list 0 (some 0) [])])]),(D.list 1 (some 1) [zI])]
def Zvh : D := (D.tup [(D.agg [(D.list 0 (some 0) [])]),zI])
theorem Z16y : funD Tg Zf7 100000 60 Z2d Tryz.f28 Zve = some Zvf := by kernel_rfl
theorem Z16z : funD Tg Zf7 100000 60 Z2d Tryz.f28 Zvg = some Zvh := by kernel_rfl
def Zr6 (ds : List D) : Option D := if isT Zve ds then some Zvf else (if isT Zvg ds then some Zvh else (none))
theorem td_trees_Delete : ∀ ds d,Zr6 ds = some d → DataSem Tg 28 ds d := by
 intro ds d h
 unfold Zr6 at h
 split at h
 ·rename_i ha; obtain rfl := isT_eq ha; cases h; exact Zok Z16y
 split at h
 ·rename_i ha; obtain rfl := isT_eq ha; cases h; exact Zok Z16z
 cases h
def Z53 : FnH := ⟨[(6,⟨(bm 7340066 52),[(20,20)],some 1000000⟩)],[]⟩
def Zpt : FnH := ⟨[(3,⟨(bm 15032385591 58),[(31,17)],some 1000000⟩),(9,⟨(bm 492581209243682 58),[(46,1)],some 1000000⟩)],[]⟩
def Zgc : FnH := ⟨[],[]⟩
def Znk : FnH := ⟨[(38,⟨(bm 896 125),[],some 1000000⟩)],[]⟩
def Zvi : FnH := ⟨[],[]⟩
def Zrg : FnH := ⟨[],[]⟩
def Zrh : FnH := ⟨[],[]⟩
def Zjq : FnH := ⟨[],[]⟩
def Zdu : FnH := ⟨[],[]⟩
def Zep : FnH := ⟨[],[]⟩
def Z93 : FnH := ⟨[],[]⟩
def Zeq : FnH := ⟨[],[]⟩
def Z7v : FnH := ⟨[],[]⟩
def Zcv : FnH := ⟨[],[]⟩
def Ztw : FnH := ⟨[(5,⟨(bm 28680 28),[(3,1),(12,1)],some 1000000⟩)],[]⟩
def Ztx : FnH := ⟨[],[]⟩
def Zhk : FnH := ⟨[],[]⟩
def Zby : FnH := ⟨[],[]⟩
def Zo9 : FnH := ⟨[],[]⟩
def Zjr : FnH := ⟨[],[]⟩
def Zri : FnH := ⟨[],[]⟩
def Zjs : FnH := ⟨[],[]⟩
def Zjt : FnH := ⟨[],[]⟩
def Zer : FnH := ⟨[(1,⟨(bm 19 167),[],some 1000000⟩)],[]⟩
def Zhl : FnH := ⟨[(11,⟨(bm 130075 102),[(10,1)],some 1000000⟩),(18,⟨(bm 146459 102),[(10,1)],some 1000000⟩)],[]⟩
def Zes : FnH := ⟨[],[]⟩
def Zhm : FnH := ⟨[],[]⟩
def Zet : FnH := ⟨[],[]⟩
def Zeu : FnH := ⟨[],[]⟩
theorem Zd7 : Enters Tg 36 := ⟨Tryz.f36,Tryz.func36,by kernel_rfl,by kernel_rfl⟩
theorem Zpu : Enters Tg 67 := ⟨Tryz.f67,Tryz.func67,by kernel_rfl,by kernel_rfl⟩
theorem Zgd : Enters Tg 68 := ⟨Tryz.f68,Tryz.func68,by kernel_rfl,by kernel_rfl⟩
theorem Znl : Enters Tg 70 := ⟨Tryz.f70,Tryz.func70,by kernel_rfl,by kernel_rfl⟩
theorem Zvj : Enters Tg 91 := ⟨Tryz.f91,Tryz.func91,by kernel_rfl,by kernel_rfl⟩
theorem Zrj : Enters Tg 107 := ⟨Tryz.f107,Tryz.func107,by kernel_rfl,by kernel_rfl⟩
theorem Zrk : Enters Tg 108 := ⟨Tryz.f108,Tryz.func108,by kernel_rfl,by kernel_rfl⟩
theorem Zju : Enters Tg 92 := ⟨Tryz.f92,Tryz.func92,by kernel_rfl,by kernel_rfl⟩
theorem Zdv : Enters Tg 109 := ⟨Tryz.f109,Tryz.func109,by kernel_rfl,by kernel_rfl⟩
theorem Zev : Enters Tg 93 := ⟨Tryz.f93,Tryz.func93,by kernel_rfl,by kernel_rfl⟩
theorem Z94 : Enters Tg 90 := ⟨Tryz.f90,Tryz.func90,by kernel_rfl,by kernel_rfl⟩
theorem Zew : Enters Tg 110 := ⟨Tryz.f110,Tryz.func110,by kernel_rfl,by kernel_rfl⟩
theorem Z7w : Enters Tg 69 := ⟨Tryz.f69,Tryz.func69,by kernel_rfl,by kernel_rfl⟩
theorem Zcw : Enters Tg 72 := ⟨Tryz.f72,Tryz.func72,by kernel_rfl,by kernel_rfl⟩
theorem Zty : Enters Tg 71 := ⟨Tryz.f71,Tryz.func71,by kernel_rfl,by kernel_rfl⟩
theorem Ztz : Enters Tg 80 := ⟨Tryz.f80,Tryz.func80,by kernel_rfl,by kernel_rfl⟩
theorem Zhn : Enters Tg 94 := ⟨Tryz.f94,Tryz.func94,by kernel_rfl,by kernel_rfl⟩
theorem Zbz : Enters Tg 111 := ⟨Tryz.f111,Tryz.func111,by kernel_rfl,by kernel_rfl⟩
theorem Zoa : Enters Tg 129 := ⟨Tryz.f129,Tryz.func129,by kernel_rfl,by kernel_rfl⟩
theorem Zjv : Enters Tg 130 := ⟨Tryz.f130,Tryz.func130,by kernel_rfl,by kernel_rfl⟩
theorem Zrl : Enters Tg 155 := ⟨Tryz.f155,Tryz.func155,by kernel_rfl,by kernel_rfl⟩
theorem Zjw : Enters Tg 154 := ⟨Tryz.f154,Tryz.func154,by kernel_rfl,by kernel_rfl⟩
theorem Zjx : Enters Tg 156 := ⟨Tryz.f156,Tryz.func156,by kernel_rfl,by kernel_rfl⟩
theorem Zex : Enters Tg 131 := ⟨Tryz.f131,Tryz.func131,by kernel_rfl,by kernel_rfl⟩
theorem Zho : Enters Tg 132 := ⟨Tryz.f132,Tryz.func132,by kernel_rfl,by kernel_rfl⟩
theorem Zey : Enters Tg 157 := ⟨Tryz.f157,Tryz.func157,by kernel_rfl,by kernel_rfl⟩
theorem Zhp : Enters Tg 158 := ⟨Tryz.f158,Tryz.func158,by kernel_rfl,by kernel_rfl⟩
theorem Zez : Enters Tg 174 := ⟨Tryz.f174,Tryz.func174,by kernel_rfl,by kernel_rfl⟩
theorem Zf0 : Enters Tg 175 := ⟨Tryz.f175,Tryz.func175,by kernel_rfl,by kernel_rfl⟩
noncomputable def Zu0 : Hints := ⟨[(41,Zen),(77,Zcm),(95,tp_strings_Join)],[(36,Tryz.f36,Z53),(67,Tryz.f67,Zpt),(68,Tryz.f68,Zgc),(70,Tryz.f70,Znk),(91,Tryz.f91,Zvi),(107,Tryz.f107,Zrg),(108,Tryz.f108,Zrh),(92,Tryz.f92,Zjq),(109,Tryz.f109,Zdu),(93,Tryz.f93,Zep),(90,Tryz.f90,Z93),(110,Tryz.f110,Zeq),(69,Tryz.f69,Z7v),(72,Tryz.f72,Zcv),(71,Tryz.f71,Ztw),(80,Tryz.f80,Ztx),(94,Tryz.f94,Zhk),(111,Tryz.f111,Zby),(129,Tryz.f129,Zo9),(130,Tryz.f130,Zjr),(155,Tryz.f155,Zri),(154,Tryz.f154,Zjs),(156,Tryz.f156,Zjt),(131,Tryz.f131,Zer),(132,Tryz.f132,Zhl),(157,Tryz.f157,Zes),(158,Tryz.f158,Zhm),(174,Tryz.f174,Zet),(175,Tryz.f175,Zeu)],[203,205,206,208,148]⟩
theorem Z15h {m n : Nat} {ds : List D} {d : D} (h : funD Tg Zu0 m n Z53 Tryz.f36 ds = some d) : DataSem Tg 36 ds d := Z0 (H := Zu0) (SpOk.cons td_trees_Check (SpOk.cons td_oids_Check (SpOk.cons td_strings_Join SpOk.nil))) mixed (InlOk.cons Tryz.func36 Zd7 (InlOk.cons Tryz.func67 Zpu (InlOk.cons Tryz.func68 Zgd (InlOk.cons Tryz.func70 Znl (InlOk.cons Tryz.func91 Zvj (InlOk.cons Tryz.func107 Zrj (InlOk.cons Tryz.func108 Zrk (InlOk.cons Tryz.func92 Zju (InlOk.cons Tryz.func109 Zdv (InlOk.cons Tryz.func93 Zev (InlOk.cons Tryz.func90 Z94 (InlOk.cons Tryz.func110 Zew (InlOk.cons Tryz.func69 Z7w (InlOk.cons Tryz.func72 Zcw (InlOk.cons Tryz.func71 Zty (InlOk.cons Tryz.func80 Ztz (InlOk.cons Tryz.func94 Zhn (InlOk.cons Tryz.func111 Zbz (InlOk.cons Tryz.func129 Zoa (InlOk.cons Tryz.func130 Zjv (InlOk.cons Tryz.func155 Zrl (InlOk.cons Tryz.func154 Zjw (InlOk.cons Tryz.func156 Zjx (InlOk.cons Tryz.func131 Zex (InlOk.cons Tryz.func132 Zho (InlOk.cons Tryz.func157 Zey (InlOk.cons Tryz.func158 Zhp (InlOk.cons Tryz.func174 Zez (InlOk.cons Tryz.func175 Zf0 InlOk.nil))))))))))))))))))))))))))))) Tryz.func36 Zd7 h
def Z10q : List D := [(D.agg [(D.list 5 (some 5) [(D.v (.int .i64 (-1 : Int))),(D.v (.int .u8 (5 : Int))),(D.v (.int .u32 (2 : Int))),(D.v (.int .u32 (5 : Int))),(D.v (.int .u32 (29 : Int))),(D.v (.int .u32 (32 : Int))),zU,zU,zU,zU,zU,zU,zU,zU,zU,zU,zU,zU,(D.list 1 (some 1) [(D.v (.int .u8 (5 : Int))),(D.v (.int .u32 (2 : Int))),(D.v (.int .u32 (5 : Int))),(D.v (.int .u32 (29 : Int))),(D.v (.int .u32 (32 : Int))),zU,zU,zU,zU,zU,zU,zU,zU,zU,zU,zU,zU]),(D.list 0 (some 0) []),zI,(D.v (.int .u8 (3 : Int))),(D.v (.int .u32 (1 : Int))),(D.v (.int .u32 (2 : Int))),(D.v (.int .u32 (3 : Int))),zU,zU,zU,zU,zU,zU,zU,zU,zU,zU,zU,zU,zU,(D.list 2 (some 2) [(D.v (.int .u8 (3 : Int))),(D.v (.int .u32 (1 : Int))),(D.v (.int .u32 (2 : Int))),(D.v (.int .u32 (4 : Int))),zU,zU,zU,zU,zU,zU,zU,zU,zU,zU,zU,zU,zU,(D.v (.int .u8 (3 : Int))),(D.v (.int .u32 (1 : Int))),(D.v (.int .u32 (2 : Int))),(D.v (.int .u32 (5 : Int))),zU,zU,zU,zU,zU,zU,zU,zU,zU,zU,zU,zU,zU]),(D.list 0 (some 0) []),zI,(D.v (.int .u8 (5 : Int))),(D.v (.int .u32 (2 : Int))),(D.v (.int .u32 (5 : Int))),(D.v (.int .u32 (29 : Int))),(D.v (.int .u32 (32 : Int))),zU,zU,zU,zU,zU,zU,zU,zU,zU,zU,zU,zU,(D.list 1 (some 1) [(D.v (.int .u8 (5 : Int))),(D.v (.int .u32 (2 : Int))),(D.v (.int .u32 (5 : Int))),(D.v (.int .u32 (29 : Int))),(D.v (.int .u32 (32 : Int))),zU,zU,zU,zU,zU,zU,zU,zU,zU,zU,zU,zU]),(D.list 0 (some 0) []),(D.v (.int .i64 (1 : Int))),(D.v (.int .u8 (3 : Int))),(D.v (.int .u32 (1 : Int))),(D.v (.int .u32 (2 : Int))),(D.v (.int .u32 (4 : Int))),zU,zU,zU,zU,zU,zU,zU,zU,zU,zU,zU,zU,zU,(D.list 1 (some 1) [(D.v (.int .u8 (3 : Int))),(D.v (.int .u32 (1 : Int))),(D.v (.int .u32 (2 : Int))),(D.v (.int .u32 (4 : Int))),zU,zU,zU,zU,zU,zU,zU,zU,zU,zU,zU,zU,zU]),(D.list 0 (some 0) []),(D.v (.int .i64 (1 : Int))),(D.v (.int .u8 (3 : Int))),(D.v (.int .u32 (1 : Int))),(D.v (.int .u32 (2 : Int))),(D.v (.int .u32 (5 : Int))),zU,zU,zU,zU,zU,zU,zU,zU,zU,zU,zU,zU,zU,(D.list 1 (some 1) [(D.v (.int .u8 (3 : Int))),(D.v (.int .u32 (1 : Int))),(D.v (.int .u32 (2 : Int))),(D.v (.int .u32 (5 : Int))),zU,zU,zU,zU,zU,zU,zU,zU,zU,zU,zU,zU,zU]),(D.list 0 (some 0) [])])])]
def Z10r : D := (D.tup [(D.v (.string (ByteArray.mk #[50,46,53,46,50,57,46,51,50,46,48,32,45,62,32,50,46,53,46,50,57,46,51,50,46,48,10,32,49,46,50,46,51,32,45,62,32,49,46,50,46,52,32,49,46,50,46,53,10,32,32,49,46,50,46,52,32,45,62,32,49,46,50,46,52,10,32,32,49,46,50,46,53,32,45,62,32,49,46,50,46,53,10,32,50,46,53,46,50,57,46,51,50,46,48,32,45,62,32,50,46,53,46,50,57,46,51,50,46,48,10]))),zI])
theorem Z1br : funD Tg Zu0 100000 60 Z53 Tryz.f36 Z10q = some Z10r := by kernel_rfl
def Zwn (ds : List D) : Option D := if isT Z10q ds then some Z10r else (none)
theorem td_trees_Text : ∀ ds d,Zwn ds = some d → DataSem Tg 36 ds d := by
 intro ds d h
 unfold Zwn at h
 split at h
 ·rename_i ha; obtain rfl := isT_eq ha; cases h; exact Z15h Z1br
 cases h
def Z6l : FnH := ⟨[],[]⟩
theorem Zgw : Enters Tg 38 := ⟨Tryz.f38,Tryz.func38,by kernel_rfl,by kernel_rfl⟩
noncomputable def Zwo : Hints := ⟨[],[(38,Tryz.f38,Z6l)],[203,205,206,208,148]⟩
theorem Z170 {m n : Nat} {ds : List D} {d : D} (h : funD Tg Zwo m n Z6l Tryz.f38 ds = some d) : DataSem Tg 38 ds d := Z0 (H := Zwo) SpOk.nil mixed (InlOk.cons Tryz.func38 Zgw InlOk.nil) Tryz.func38 Zgw h
def Z12g : List D := []
def Z12h : D := (D.agg [(D.v (.int .u8 (5 : Int))),(D.v (.int .u32 (2 : Int))),(D.v (.int .u32 (5 : Int))),(D.v (.int .u32 (29 : Int))),(D.v (.int .u32 (32 : Int))),zU,zU,zU,zU,zU,zU,zU,zU,zU,zU,zU,zU])
theorem Z1de : funD Tg Zwo 100000 60 Z6l Tryz.f38 Z12g = some Z12h := by kernel_rfl
def Znm (ds : List D) : Option D := if isT Z12g ds then some Z12h else (none)
theorem td_ref23_Any : ∀ ds d,Znm ds = some d → DataSem Tg 38 ds d := by
 intro ds d h
 unfold Znm at h
 split at h
 ·rename_i ha; obtain rfl := isT_eq ha; cases h; exact Z170 Z1de
 cases h
def Z95 : FnH := ⟨[],[]⟩
def Z10s : FnH := ⟨[],[]⟩
theorem Zks : Enters Tg 74 := ⟨Tryz.f74,Tryz.func74,by kernel_rfl,by kernel_rfl⟩
theorem Z10t : Enters Tg 98 := ⟨Tryz.f98,Tryz.func98,by kernel_rfl,by kernel_rfl⟩
noncomputable def Z10u : Hints := ⟨[(77,Zcm)],[(74,Tryz.f74,Z95),(98,Tryz.f98,Z10s)],[203,205,206,208,148]⟩
theorem Z197 {m n : Nat} {ds : List D} {d : D} (h : funD Tg Z10u m n Z95 Tryz.f74 ds = some d) : DataSem Tg 74 ds d := Z0 (H := Z10u) (SpOk.cons td_oids_Check SpOk.nil) mixed (InlOk.cons Tryz.func74 Zks (InlOk.cons Tryz.func98 Z10t InlOk.nil)) Tryz.func74 Zks h
def Z15i : List D := []
def Z15j : D := (D.agg [(D.v (.int .u8 (5 : Int))),(D.v (.int .u32 (2 : Int))),(D.v (.int .u32 (5 : Int))),(D.v (.int .u32 (29 : Int))),(D.v (.int .u32 (32 : Int))),zU,zU,zU,zU,zU,zU,zU,zU,zU,zU,zU,zU])
theorem Z1g3 : funD Tg Z10u 100000 60 Z95 Tryz.f74 Z15i = some Z15j := by kernel_rfl
def Z139 (ds : List D) : Option D := if isT Z15i ds then some Z15j else (none)
theorem td_oids_Any : ∀ ds d,Z139 ds = some d → DataSem Tg 74 ds d := by
 intro ds d h
 unfold Z139 at h
 split at h
 ·rename_i ha; obtain rfl := isT_eq ha; cases h; exact Z197 Z1g3
 cases h
def Z54 : FnH := ⟨[],[]⟩
theorem Zd8 : Enters Tg 39 := ⟨Tryz.f39,Tryz.func39,by kernel_rfl,by kernel_rfl⟩
noncomputable def Zu1 : Hints := ⟨[(74,Z139)],[(39,Tryz.f39,Z54)],[203,205,206,208,148]⟩
theorem Z15k {m n : Nat} {ds : List D} {d : D} (h : funD Tg Zu1 m n Z54 Tryz.f39 ds = some d) : DataSem Tg 39 ds d := Z0 (H := Zu1) (SpOk.cons td_oids_Any SpOk.nil) mixed (InlOk.cons Tryz.func39 Zd8 InlOk.nil) Tryz.func39 Zd8 h
def Z10v : List D := []
def Z10w : D := (D.agg [(D.list 1 (some 1) [(D.v (.int .i64 (-1 : Int))),(D.v (.int .u8 (5 : Int))),(D.v (.int .u32 (2 : Int))),(D.v (.int .u32 (5 : Int))),(D.v (.int .u32 (29 : Int))),(D.v (.int .u32 (32 : Int))),zU,zU,zU,zU,zU,zU,zU,zU,zU,zU,zU,zU,(D.list 1 (some 1) [(D.v (.int .u8 (5 : Int))),(D.v (.int .u32 (2 : Int))),(D.v (.int .u32 (5 : Int))),(D.v (.int .u32 (29 : Int))),(D.v (.int .u32 (32 : Int))),zU,zU,zU,zU,zU,zU,zU,zU,zU,zU,zU,zU]),(D.list 0 (some 0) [])])])
theorem Z1bs : funD Tg Zu1 100000 60 Z54 Tryz.f39 Z10v = some Z10w := by kernel_rfl
def Zpv (ds : List D) : Option D := if isT Z10v ds then some Z10w else (none)
theorem td_trees_Root : ∀ ds d,Zpv ds = some d → DataSem Tg 39 ds d := by
 intro ds d h
 unfold Zpv at h
 split at h
 ·rename_i ha; obtain rfl := isT_eq ha; cases h; exact Z15k Z1bs
 cases h
def Z1d : FnH := ⟨[],[]⟩
theorem Z76 : Enters Tg 12 := ⟨Tryz.f12,Tryz.func12,by kernel_rfl,by kernel_rfl⟩
noncomputable def Z8h : Hints := ⟨[(38,Znm)],[(12,Tryz.f12,Z1d)],[203,205,206,208,148]⟩
theorem Zdw {m n : Nat} {ds : List D} {d : D} (h : funD Tg Z8h m n Z1d Tryz.f12 ds = some d) : DataSem Tg 12 ds d := Z0 (H := Z8h) (SpOk.cons td_ref23_Any SpOk.nil) mixed (InlOk.cons Tryz.func12 Z76 InlOk.nil) Tryz.func12 Z76 h
def Zvk : List D := [(D.v (.int .u8 (0 : Int)))]
def Zvl : D := (D.agg [(D.v (.int .u8 (3 : Int))),(D.v (.int .u32 (1 : Int))),(D.v (.int .u32 (2 : Int))),(D.v (.int .u32 (3 : Int))),zU,zU,zU,zU,zU,zU,zU,zU,zU,zU,zU,zU,zU])
def Zvm : List D := [(D.v (.int .u8 (1 : Int)))]
def Zvn : D := (D.agg [(D.v (.int .u8 (3 : Int))),(D.v (.int .u32 (1 : Int))),(D.v (.int .u32 (2 : Int))),(D.v (.int .u32 (4 : Int))),zU,zU,zU,zU,zU,zU,zU,zU,zU,zU,zU,zU,zU])
def Zvo : List D := [(D.v (.int .u8 (2 : Int)))]
def Zvp : D := (D.agg [(D.v (.int .u8 (3 : Int))),(D.v (.int .u32 (1 : Int))),(D.v (.int .u32 (2 : Int))),(D.v (.int .u32 (5 : Int))),zU,zU,zU,zU,zU,zU,zU,zU,zU,zU,zU,zU,zU])
theorem Z171 : funD Tg Z8h 100000 60 Z1d Tryz.f12 Zvk = some Zvl := by kernel_rfl
theorem Z172 : funD Tg Z8h 100000 60 Z1d Tryz.f12 Zvm = some Zvn := by kernel_rfl
theorem Z173 : funD Tg Z8h 100000 60 Z1d Tryz.f12 Zvo = some Zvp := by kernel_rfl
def Zc0 (ds : List D) : Option D := if isT Zvk ds then some Zvl else (if isT Zvm ds then some Zvn else (if isT Zvo ds then some Zvp else (none)))
theorem td_law23_Policy : ∀ ds d,Zc0 ds = some d → DataSem Tg 12 ds d := by
 intro ds d h
 unfold Zc0 at h
 split at h
 ·rename_i ha; obtain rfl := isT_eq ha; cases h; exact Zdw Z171
 split at h
 ·rename_i ha; obtain rfl := isT_eq ha; cases h; exact Zdw Z172
 split at h
 ·rename_i ha; obtain rfl := isT_eq ha; cases h; exact Zdw Z173
 cases h
def Zdx : FnH := ⟨[],[]⟩
theorem Zol : Enters Tg 40 := ⟨Tryz.f40,Tryz.func40,by kernel_rfl,by kernel_rfl⟩
noncomputable def Z13a : Hints := ⟨[(12,Zc0)],[(40,Tryz.f40,Zdx)],[203,205,206,208,148]⟩
theorem Z1bt {m n : Nat} {ds : List D} {d : D} (h : funD Tg Z13a m n Zdx Tryz.f40 ds = some d) : DataSem Tg 40 ds d := Z0 (H := Z13a) (SpOk.cons td_law23_Policy SpOk.nil) mixed (InlOk.cons Tryz.func40 Zol InlOk.nil) Tryz.func40 Zol h
def Z17k : List D := []
def Z17l : D := (D.agg [(D.v (.int .u8 (3 : Int))),(D.v (.int .u32 (1 : Int))),(D.v (.int .u32 (2 : Int))),(D.v (.int .u32 (3 : Int))),zU,zU,zU,zU,zU,zU,zU,zU,zU,zU,zU,zU,zU])
theorem Z1hu : funD Tg Z13a 100000 60 Zdx Tryz.f40 Z17k = some Z17l := by kernel_rfl
def Z11a (ds : List D) : Option D := if isT Z17k ds then some Z17l else (none)
theorem td_law26_a : ∀ ds d,Z11a ds = some d → DataSem Tg 40 ds d := by
 intro ds d h
 unfold Z11a at h
 split at h
 ·rename_i ha; obtain rfl := isT_eq ha; cases h; exact Z1bt Z1hu
 cases h
def Zdy : FnH := ⟨[],[]⟩
theorem Zom : Enters Tg 43 := ⟨Tryz.f43,Tryz.func43,by kernel_rfl,by kernel_rfl⟩
noncomputable def Z13b : Hints := ⟨[(12,Zc0)],[(43,Tryz.f43,Zdy)],[203,205,206,208,148]⟩
theorem Z1bu {m n : Nat} {ds : List D} {d : D} (h : funD Tg Z13b m n Zdy Tryz.f43 ds = some d) : DataSem Tg 43 ds d := Z0 (H := Z13b) (SpOk.cons td_law23_Policy SpOk.nil) mixed (InlOk.cons Tryz.func43 Zom InlOk.nil) Tryz.func43 Zom h
def Z17m : List D := []
def Z17n : D := (D.agg [(D.v (.int .u8 (3 : Int))),(D.v (.int .u32 (1 : Int))),(D.v (.int .u32 (2 : Int))),(D.v (.int .u32 (5 : Int))),zU,zU,zU,zU,zU,zU,zU,zU,zU,zU,zU,zU,zU])
theorem Z1hv : funD Tg Z13b 100000 60 Zdy Tryz.f43 Z17m = some Z17n := by kernel_rfl
def Z11b (ds : List D) : Option D := if isT Z17m ds then some Z17n else (none)
theorem td_law26_c : ∀ ds d,Z11b ds = some d → DataSem Tg 43 ds d := by
 intro ds d h
 unfold Z11b at h
 split at h
 ·rename_i ha; obtain rfl := isT_eq ha; cases h; exact Z1bu Z1hv
 cases h
def Zdz : FnH := ⟨[],[]⟩
theorem Zon : Enters Tg 44 := ⟨Tryz.f44,Tryz.func44,by kernel_rfl,by kernel_rfl⟩
noncomputable def Z13c : Hints := ⟨[(12,Zc0)],[(44,Tryz.f44,Zdz)],[203,205,206,208,148]⟩
theorem Z1bv {m n : Nat} {ds : List D} {d : D} (h : funD Tg Z13c m n Zdz Tryz.f44 ds = some d) : DataSem Tg 44 ds d := Z0 (H := Z13c) (SpOk.cons td_law23_Policy SpOk.nil) mixed (InlOk.cons Tryz.func44 Zon InlOk.nil) Tryz.func44 Zon h
def Z17o : List D := []
def Z17p : D := (D.agg [(D.v (.int .u8 (3 : Int))),(D.v (.int .u32 (1 : Int))),(D.v (.int .u32 (2 : Int))),(D.v (.int .u32 (4 : Int))),zU,zU,zU,zU,zU,zU,zU,zU,zU,zU,zU,zU,zU])
theorem Z1hw : funD Tg Z13c 100000 60 Zdz Tryz.f44 Z17o = some Z17p := by kernel_rfl
def Z11c (ds : List D) : Option D := if isT Z17o ds then some Z17p else (none)
theorem td_law26_b : ∀ ds d,Z11c ds = some d → DataSem Tg 44 ds d := by
 intro ds d h
 unfold Z11c at h
 split at h
 ·rename_i ha; obtain rfl := isT_eq ha; cases h; exact Z1bv Z1hw
 cases h
def Z55 : FnH := ⟨[],[]⟩
theorem Zd9 : Enters Tg 42 := ⟨Tryz.f42,Tryz.func42,by kernel_rfl,by kernel_rfl⟩
noncomputable def Zu2 : Hints := ⟨[(25,Ztc),(38,Znm),(39,Zpv),(40,Z11a),(43,Z11b),(44,Z11c)],[(42,Tryz.f42,Z55)],[203,205,206,208,148]⟩
theorem Z15l {m n : Nat} {ds : List D} {d : D} (h : funD Tg Zu2 m n Z55 Tryz.f42 ds = some d) : DataSem Tg 42 ds d := Z0 (H := Zu2) (SpOk.cons td_trees_Add (SpOk.cons td_ref23_Any (SpOk.cons td_trees_Root (SpOk.cons td_law26_a (SpOk.cons td_law26_c (SpOk.cons td_law26_b SpOk.nil)))))) mixed (InlOk.cons Tryz.func42 Zd9 InlOk.nil) Tryz.func42 Zd9 h
def Z10x : List D := []
def Z10y : D := (D.tup [(D.agg [(D.list 5 (some 5) [(D.v (.int .i64 (-1 : Int))),(D.v (.int .u8 (5 : Int))),(D.v (.int .u32 (2 : Int))),(D.v (.int .u32 (5 : Int))),(D.v (.int .u32 (29 : Int))),(D.v (.int .u32 (32 : Int))),zU,zU,zU,zU,zU,zU,zU,zU,zU,zU,zU,zU,(D.list 1 (some 1) [(D.v (.int .u8 (5 : Int))),(D.v (.int .u32 (2 : Int))),(D.v (.int .u32 (5 : Int))),(D.v (.int .u32 (29 : Int))),(D.v (.int .u32 (32 : Int))),zU,zU,zU,zU,zU,zU,zU,zU,zU,zU,zU,zU]),(D.list 0 (some 0) []),zI,(D.v (.int .u8 (3 : Int))),(D.v (.int .u32 (1 : Int))),(D.v (.int .u32 (2 : Int))),(D.v (.int .u32 (3 : Int))),zU,zU,zU,zU,zU,zU,zU,zU,zU,zU,zU,zU,zU,(D.list 2 (some 2) [(D.v (.int .u8 (3 : Int))),(D.v (.int .u32 (1 : Int))),(D.v (.int .u32 (2 : Int))),(D.v (.int .u32 (4 : Int))),zU,zU,zU,zU,zU,zU,zU,zU,zU,zU,zU,zU,zU,(D.v (.int .u8 (3 : Int))),(D.v (.int .u32 (1 : Int))),(D.v (.int .u32 (2 : Int))),(D.v (.int .u32 (5 : Int))),zU,zU,zU,zU,zU,zU,zU,zU,zU,zU,zU,zU,zU]),(D.list 0 (some 0) []),zI,(D.v (.int .u8 (5 : Int))),(D.v (.int .u32 (2 : Int))),(D.v (.int .u32 (5 : Int))),(D.v (.int .u32 (29 : Int))),(D.v (.int .u32 (32 : Int))),zU,zU,zU,zU,zU,zU,zU,zU,zU,zU,zU,zU,(D.list 1 (some 1) [(D.v (.int .u8 (5 : Int))),(D.v (.int .u32 (2 : Int))),(D.v (.int .u32 (5 : Int))),(D.v (.int .u32 (29 : Int))),(D.v (.int .u32 (32 : Int))),zU,zU,zU,zU,zU,zU,zU,zU,zU,zU,zU,zU]),(D.list 0 (some 0) []),(D.v (.int .i64 (1 : Int))),(D.v (.int .u8 (3 : Int))),(D.v (.int .u32 (1 : Int))),(D.v (.int .u32 (2 : Int))),(D.v (.int .u32 (4 : Int))),zU,zU,zU,zU,zU,zU,zU,zU,zU,zU,zU,zU,zU,(D.list 1 (some 1) [(D.v (.int .u8 (3 : Int))),(D.v (.int .u32 (1 : Int))),(D.v (.int .u32 (2 : Int))),(D.v (.int .u32 (4 : Int))),zU,zU,zU,zU,zU,zU,zU,zU,zU,zU,zU,zU,zU]),(D.list 0 (some 0) []),(D.v (.int .i64 (1 : Int))),(D.v (.int .u8 (3 : Int))),(D.v (.int .u32 (1 : Int))),(D.v (.int .u32 (2 : Int))),(D.v (.int .u32 (5 : Int))),zU,zU,zU,zU,zU,zU,zU,zU,zU,zU,zU,zU,zU,(D.list 1 (some 1) [(D.v (.int .u8 (3 : Int))),(D.v (.int .u32 (1 : Int))),(D.v (.int .u32 (2 : Int))),(D.v (.int .u32 (5 : Int))),zU,zU,zU,zU,zU,zU,zU,zU,zU,zU,zU,zU,zU]),(D.list 0 (some 0) [])])]),zI])
theorem Z1bw : funD Tg Zu2 100000 60 Z55 Tryz.f42 Z10x = some Z10y := by kernel_rfl
def Zwp (ds : List D) : Option D := if isT Z10x ds then some Z10y else (none)
theorem td_law26_fork : ∀ ds d,Zwp ds = some d → DataSem Tg 42 ds d := by
 intro ds d h
 unfold Zwp at h
 split at h
 ·rename_i ha; obtain rfl := isT_eq ha; cases h; exact Z15l Z1bw
 cases h
def Z49 : FnH := ⟨[],[]⟩
theorem Z9j : Enters Tg 10 := ⟨Tryz.f10,Tryz.func10,by kernel_rfl,by kernel_rfl⟩
noncomputable def Zr7 : Hints := ⟨[(13,Zwj),(17,Zlf),(18,Zwk),(19,Zwl),(21,Zo8),(23,Ztv),(24,Zwm),(25,Ztc),(28,Zr6),(36,Zwn),(38,Znm),(39,Zpv),(40,Z11a),(42,Zwp),(43,Z11b),(44,Z11c)],[(10,Tryz.f10,Z49)],[203,205,206,208,148]⟩
theorem Z13d {m n : Nat} {ds : List D} {d : D} (h : funD Tg Zr7 m n Z49 Tryz.f10 ds = some d) : DataSem Tg 10 ds d := Z0 (H := Zr7) (SpOk.cons td_trees_Find (SpOk.cons td_trees_Children (SpOk.cons td_trees_Line (SpOk.cons td_law26_ints (SpOk.cons td_ref25_SameIDs (SpOk.cons td_trees_Level (SpOk.cons td_trees_Size (SpOk.cons td_trees_Add (SpOk.cons td_trees_Delete (SpOk.cons td_trees_Text (SpOk.cons td_ref23_Any (SpOk.cons td_trees_Root (SpOk.cons td_law26_a (SpOk.cons td_law26_fork (SpOk.cons td_law26_c (SpOk.cons td_law26_b SpOk.nil)))))))))))))))) mixed (InlOk.cons Tryz.func10 Z9j InlOk.nil) Tryz.func10 Z9j h
def Zyd : List D := []
def Zye : D := (D.v (.bool true))
theorem Z198 : funD Tg Zr7 100000 60 Z49 Tryz.f10 Zyd = some Zye := by kernel_rfl
def Zm1 (ds : List D) : Option D := if isT Zyd ds then some Zye else (none)
theorem td_law26_lives : ∀ ds d,Zm1 ds = some d → DataSem Tg 10 ds d := by
 intro ds d h
 unfold Zm1 at h
 split at h
 ·rename_i ha; obtain rfl := isT_eq ha; cases h; exact Z13d Z198
 cases h
end Go.Ev