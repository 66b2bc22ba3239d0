/- The examples of the chapter on trees,evaluated: each call at the arguments that come up. No conditions. -/
import Derived.Test.YtnghcoghbbapgaaGreatDoorEzI
import Derived.Test.YtnghcoghbbapgaaGreatDoorEzJn
set_option linter.unusedVariables false
set_option maxRecDepth 1000000
namespace Go.Ev
open Go Go.Proofs
def Z4q : FnH := ⟨[],[]⟩
def Zxf : FnH := ⟨[],[]⟩
def Z9t : FnH := ⟨[(2,⟨(bm 3587 36),[(9,1)],none⟩)],[]⟩
def Zjb : FnH := ⟨[],[]⟩
def Zmg : FnH := ⟨[],[]⟩
theorem Zaw : Enters Tg 52 := ⟨Tryz.f52,Tryz.func52,by kernel_rfl,by kernel_rfl⟩
theorem Zxg : Enters Tg 80 := ⟨Tryz.f80,Tryz.func80,by kernel_rfl,by kernel_rfl⟩
theorem Z9u : Enters Tg 79 := ⟨Tryz.f79,Tryz.func79,by kernel_rfl,by kernel_rfl⟩
theorem Zjc : Enters Tg 100 := ⟨Tryz.f100,Tryz.func100,by kernel_rfl,by kernel_rfl⟩
theorem Zmh : Enters Tg 117 := ⟨Tryz.f117,Tryz.func117,by kernel_rfl,by kernel_rfl⟩
noncomputable def Zkb : Hints := ⟨[],[(52,Tryz.f52,Z4q),(80,Tryz.f80,Zxf),(79,Tryz.f79,Z9t),(100,Tryz.f100,Zjb),(117,Tryz.f117,Zmg)],[203,205,206,208,148]⟩
theorem Zui {m n : Nat} {ds : List D} {d : D} (h : funD Tg Zkb m n Z4q Tryz.f52 ds = some d) : DataSem Tg 52 ds d := Z5 (H := Zkb) SpOk.nil mixed (InlOk.cons Tryz.func52 Zaw (InlOk.cons Tryz.func80 Zxg (InlOk.cons Tryz.func79 Z9u (InlOk.cons Tryz.func100 Zjc (InlOk.cons Tryz.func117 Zmh InlOk.nil))))) Tryz.func52 Zaw h
def Z127 : List D := [(D.agg [(D.v (.int .u8 (3 : Int))),(D.v (.int .u32 (1 : Int))),(D.v (.int .u32 (2 : Int))),(D.v (.int .u32 (4 : Int))),zU,zU,zU,zU,zU,zU,zU,zU,zU,zU,zU,zU,zU]),(D.agg [(D.v (.int .u8 (3 : Int))),(D.v (.int .u32 (1 : Int))),(D.v (.int .u32 (2 : Int))),(D.v (.int .u32 (5 : Int))),zU,zU,zU,zU,zU,zU,zU,zU,zU,zU,zU,zU,zU])]
def Z128 : D := (D.v (.int .i64 (-1 : Int)))
def Z129 : List D := [(D.agg [(D.v (.int .u8 (3 : Int))),(D.v (.int .u32 (1 : Int))),(D.v (.int .u32 (2 : Int))),(D.v (.int .u32 (3 : Int))),zU,zU,zU,zU,zU,zU,zU,zU,zU,zU,zU,zU,zU]),(D.agg [(D.v (.int .u8 (5 : Int))),(D.v (.int .u32 (2 : Int))),(D.v (.int .u32 (5 : Int))),(D.v (.int .u32 (29 : Int))),(D.v (.int .u32 (32 : Int))),zU,zU,zU,zU,zU,zU,zU,zU,zU,zU,zU,zU])]
def Z12a : D := (D.v (.int .i64 (-1 : Int)))
theorem Z1ho : funD Tg Zkb 100000 60 Z4q Tryz.f52 Z127 = some Z128 := by kernel_rfl
theorem Z1hp : funD Tg Zkb 100000 60 Z4q Tryz.f52 Z129 = some Z12a := by kernel_rfl
def Zg0 (ds : List D) : Option D := if isT Z127 ds then some Z128 else (if isT Z129 ds then some Z12a else (none))
theorem td_oids_Compare : ∀ ds d,Zg0 ds = some d → DataSem Tg 52 ds d := by
 intro ds d h
 unfold Zg0 at h
 split at h
 ·rename_i ha; obtain rfl := isT_eq ha; cases h; exact Zui Z1ho
 split at h
 ·rename_i ha; obtain rfl := isT_eq ha; cases h; exact Zui Z1hp
 cases h
def Z3c : FnH := ⟨[(6,⟨(bm 1924145348608 47),[(38,1)],none⟩)],[]⟩
theorem Zhp : Enters Tg 77 := ⟨Tryz.f77,Tryz.func77,by kernel_rfl,by kernel_rfl⟩
noncomputable def Zch : Hints := ⟨[],[(77,Tryz.f77,Z3c)],[203,205,206,208,148]⟩
theorem Zdd {m n : Nat} {ds : List D} {d : D} (h : funD Tg Zch m n Z3c Tryz.f77 ds = some d) : DataSem Tg 77 ds d := Z5 (H := Zch) SpOk.nil mixed (InlOk.cons Tryz.func77 Zhp InlOk.nil) Tryz.func77 Zhp h
def Z18i : List D := [(D.agg [(D.v (.int .u8 (5 : Int))),(D.v (.int .u32 (2 : Int))),(D.v (.int .u32 (5 : Int))),(D.v (.int .u32 (29 : Int))),(D.v (.int .u32 (32 : Int))),zU,zU,zU,zU,zU,zU,zU,zU,zU,zU,zU,zU])]
def Z18j : D := zI
def Z18k : List D := [(D.agg [(D.v (.int .u8 (3 : Int))),(D.v (.int .u32 (1 : Int))),(D.v (.int .u32 (2 : Int))),(D.v (.int .u32 (3 : Int))),zU,zU,zU,zU,zU,zU,zU,zU,zU,zU,zU,zU,zU])]
def Z18l : D := zI
def Z18m : List D := [(D.agg [(D.v (.int .u8 (3 : Int))),(D.v (.int .u32 (1 : Int))),(D.v (.int .u32 (2 : Int))),(D.v (.int .u32 (4 : Int))),zU,zU,zU,zU,zU,zU,zU,zU,zU,zU,zU,zU,zU])]
def Z18n : D := zI
def Z18o : List D := [(D.agg [(D.v (.int .u8 (3 : Int))),(D.v (.int .u32 (1 : Int))),(D.v (.int .u32 (2 : Int))),(D.v (.int .u32 (5 : Int))),zU,zU,zU,zU,zU,zU,zU,zU,zU,zU,zU,zU,zU])]
def Z18p : D := zI
theorem Z1nn : funD Tg Zch 100000 60 Z3c Tryz.f77 Z18i = some Z18j := by kernel_rfl
theorem Z1no : funD Tg Zch 100000 60 Z3c Tryz.f77 Z18k = some Z18l := by kernel_rfl
theorem Z1np : funD Tg Zch 100000 60 Z3c Tryz.f77 Z18m = some Z18n := by kernel_rfl
theorem Z1nq : funD Tg Zch 100000 60 Z3c Tryz.f77 Z18o = some Z18p := by kernel_rfl
def Zha (ds : List D) : Option D := if isT Z18i ds then some Z18j else (if isT Z18k ds then some Z18l else (if isT Z18m ds then some Z18n else (if isT Z18o ds then some Z18p else (none))))
theorem td_oids_Check : ∀ ds d,Zha ds = some d → DataSem Tg 77 ds d := by
 intro ds d h
 unfold Zha at h
 split at h
 ·rename_i ha; obtain rfl := isT_eq ha; cases h; exact Zdd Z1nn
 split at h
 ·rename_i ha; obtain rfl := isT_eq ha; cases h; exact Zdd Z1no
 split at h
 ·rename_i ha; obtain rfl := isT_eq ha; cases h; exact Zdd Z1np
 split at h
 ·rename_i ha; obtain rfl := isT_eq ha; cases h; exact Zdd Z1nq
 cases h
def Z2a : FnH := ⟨[(4,⟨(bm 7169 38),[(10,17)],none⟩)],[]⟩
theorem Z9e : Enters Tg 58 := ⟨Tryz.f58,Tryz.func58,by kernel_rfl,by kernel_rfl⟩
noncomputable def Z7k : Hints := ⟨[(52,Zg0),(77,Zha)],[(58,Tryz.f58,Z2a)],[203,205,206,208,148]⟩
theorem Z8x {m n : Nat} {ds : List D} {d : D} (h : funD Tg Z7k m n Z2a Tryz.f58 ds = some d) : DataSem Tg 58 ds d := Z5 (H := Z7k) (SpOk.cons td_oids_Compare (SpOk.cons td_oids_Check SpOk.nil)) mixed (InlOk.cons Tryz.func58 Z9e InlOk.nil) Tryz.func58 Z9e h
def Zzk : List D := [(D.list 1 (some 1) [(D.v (.int .u8 (5 : Int))),(D.v (.int .u32 (2 : Int))),(D.v (.int .u32 (5 : Int))),(D.v (.int .u32 (29 : Int))),(D.v (.int .u32 (32 : Int))),zU,zU,zU,zU,zU,zU,zU,zU,zU,zU,zU,zU])]
def Zzl : D := zI
def Zzm : List D := [(D.list 2 (some 2) [(D.v (.int .u8 (3 : Int))),(D.v (.int .u32 (1 : Int))),(D.v (.int .u32 (2 : Int))),(D.v (.int .u32 (4 : Int))),zU,zU,zU,zU,zU,zU,zU,zU,zU,zU,zU,zU,zU,(D.v (.int .u8 (3 : Int))),(D.v (.int .u32 (1 : Int))),(D.v (.int .u32 (2 : Int))),(D.v (.int .u32 (5 : Int))),zU,zU,zU,zU,zU,zU,zU,zU,zU,zU,zU,zU,zU])]
def Zzn : D := zI
def Zzo : List D := [(D.list 1 (some 1) [(D.v (.int .u8 (3 : Int))),(D.v (.int .u32 (1 : Int))),(D.v (.int .u32 (2 : Int))),(D.v (.int .u32 (4 : Int))),zU,zU,zU,zU,zU,zU,zU,zU,zU,zU,zU,zU,zU])]
def Zzp : D := zI
def Zzq : List D := [(D.list 1 (some 1) [(D.v (.int .u8 (3 : Int))),(D.v (.int .u32 (1 : Int))),(D.v (.int .u32 (2 : Int))),(D.v (.int .u32 (5 : Int))),zU,zU,zU,zU,zU,zU,zU,zU,zU,zU,zU,zU,zU])]
def Zzr : D := zI
theorem Z1fo : funD Tg Z7k 100000 60 Z2a Tryz.f58 Zzk = some Zzl := by kernel_rfl
theorem Z1fp : funD Tg Z7k 100000 60 Z2a Tryz.f58 Zzm = some Zzn := by kernel_rfl
theorem Z1fq : funD Tg Z7k 100000 60 Z2a Tryz.f58 Zzo = some Zzp := by kernel_rfl
theorem Z1fr : funD Tg Z7k 100000 60 Z2a Tryz.f58 Zzq = some Zzr := by kernel_rfl
def Zu2 (ds : List D) : Option D := if isT Zzk ds then some Zzl else (if isT Zzm ds then some Zzn else (if isT Zzo ds then some Zzp else (if isT Zzq ds then some Zzr else (none))))
theorem td_oidsets_Check : ∀ ds d,Zu2 ds = some d → DataSem Tg 58 ds d := by
 intro ds d h
 unfold Zu2 at h
 split at h
 ·rename_i ha; obtain rfl := isT_eq ha; cases h; exact Z8x Z1fo
 split at h
 ·rename_i ha; obtain rfl := isT_eq ha; cases h; exact Z8x Z1fp
 split at h
 ·rename_i ha; obtain rfl := isT_eq ha; cases h; exact Z8x Z1fq
 split at h
 ·rename_i ha; obtain rfl := isT_eq ha; cases h; exact Z8x Z1fr
 cases h
def Z2d : FnH := ⟨[(10,⟨(bm 234881024 37),[(25,27)],none⟩)],[]⟩
def Zol : FnH := ⟨[],[]⟩
def Zqv : FnH := ⟨[],[]⟩
def Zom : FnH := ⟨[],[]⟩
def Zkx : FnH := ⟨[],[]⟩
def Zky : FnH := ⟨[(4,⟨(bm 14336 24),[(11,1)],none⟩)],[]⟩
def Zkz : FnH := ⟨[],[]⟩
def Zhb : FnH := ⟨[],[]⟩
def Zl0 : FnH := ⟨[],[]⟩
def Zmi : FnH := ⟨[],[]⟩
def Zif : FnH := ⟨[],[]⟩
def Z9v : FnH := ⟨[],[]⟩
def Zbk : FnH := ⟨[(2,⟨(bm 387 19),[],none⟩)],[]⟩
def Zmj : FnH := ⟨[],[]⟩
def Zmk : FnH := ⟨[],[]⟩
def Zon : FnH := ⟨[],[]⟩
def Zml : FnH := ⟨[],[]⟩
def Zjd : FnH := ⟨[],[]⟩
def Zhc : FnH := ⟨[],[]⟩
def Zpk : FnH := ⟨[],[]⟩
def Zf1 : FnH := ⟨[],[]⟩
def Zhd : FnH := ⟨[],[]⟩
def Zig : FnH := ⟨[],[]⟩
def Zmm : FnH := ⟨[(38,⟨(bm 47890485652059026823698344598447161988085597568237568 187),[],none⟩),(5,⟨(bm 1923 187),[],none⟩),(12,⟨(bm 6019 187),[],none⟩),(25,⟨(bm 50049 187),[],none⟩),(29,⟨(bm 115585 187),[],none⟩)],[]⟩
def Zmn : FnH := ⟨[],[]⟩
def Zhe : FnH := ⟨[],[]⟩
def Zqw : FnH := ⟨[],[]⟩
def Zpl : FnH := ⟨[],[]⟩
def Zpm : FnH := ⟨[],[]⟩
def Zpn : FnH := ⟨[],[]⟩
def Zl1 : FnH := ⟨[],[]⟩
def Z55 : FnH := ⟨[(2,⟨(bm 387 19),[],none⟩)],[]⟩
def Zih : FnH := ⟨[(4,⟨(bm 2052 20),[],none⟩)],[]⟩
def Zoo : FnH := ⟨[(1,⟨(bm 1 169),[],none⟩),(9,⟨(bm 1 169),[],none⟩)],[]⟩
def Zop : FnH := ⟨[],[]⟩
def Zl2 : FnH := ⟨[],[]⟩
def Zg1 : FnH := ⟨[(2,⟨(bm 20 10),[],none⟩)],[]⟩
def Zg2 : FnH := ⟨[(8,⟨(bm 3758096566 83),[(29,1)],none⟩)],[]⟩
def Zje : FnH := ⟨[],[]⟩
def Zpo : FnH := ⟨[(6,⟨(bm 524368 30),[(6,1)],none⟩)],[]⟩
def Zqx : FnH := ⟨[(3,⟨(bm 73 25),[],none⟩),(8,⟨(bm 32 25),[(5,1)],none⟩)],[]⟩
def Zjf : FnH := ⟨[],[]⟩
def Z7l : FnH := ⟨[],[]⟩
def Zl3 : FnH := ⟨[],[]⟩
def Zl4 : FnH := ⟨[],[]⟩
def Zt1 : FnH := ⟨[],[]⟩
def Z12b : FnH := ⟨[],[]⟩
def Zu3 : FnH := ⟨[],[]⟩
def Zt2 : FnH := ⟨[],[]⟩
def Zpp : FnH := ⟨[],[]⟩
def Zf2 : FnH := ⟨[(25,⟨(bm 16655 151),[],none⟩)],[]⟩
def Z10n : FnH := ⟨[],[]⟩
def Zvr : FnH := ⟨[(3,⟨(bm 13 43),[],none⟩)],[]⟩
def Zxh : FnH := ⟨[],[]⟩
def Zvs : FnH := ⟨[],[]⟩
def Zvt : FnH := ⟨[],[]⟩
def Zl5 : FnH := ⟨[],[]⟩
def Zpq : FnH := ⟨[],[]⟩
def Z10o : FnH := ⟨[(8,⟨(bm 939524140 43),[(2,1),(27,1)],none⟩),(11,⟨(bm 939524140 43),[],none⟩)],[]⟩
def Zxw : FnH := ⟨[],[]⟩
def Zbl : FnH := ⟨[],[]⟩
def Zvu : FnH := ⟨[],[]⟩
def Zt3 : FnH := ⟨[(1,⟨(bm 11 31),[],none⟩),(3,⟨(bm 11 31),[],none⟩)],[]⟩
def Zu4 : FnH := ⟨[],[]⟩
def Zqy : FnH := ⟨[],[]⟩
def Zoq : FnH := ⟨[],[]⟩
def Zl6 : FnH := ⟨[],[]⟩
def Zt4 : FnH := ⟨[],[]⟩
def Zpr : FnH := ⟨[(5,⟨(bm 3670026 34),[(19,5)],none⟩)],[]⟩
def Zt5 : FnH := ⟨[],[]⟩
def Zor : FnH := ⟨[(5,⟨(bm 114696 27),[(14,5)],none⟩)],[]⟩
def Zxx : FnH := ⟨[],[]⟩
def Z10p : FnH := ⟨[(11,⟨(bm 76 42),[],none⟩)],[]⟩
def Zvv : FnH := ⟨[],[]⟩
def Zt6 : FnH := ⟨[(1,⟨(bm 11 29),[],none⟩),(3,⟨(bm 11 29),[],none⟩)],[]⟩
def Zt7 : FnH := ⟨[],[]⟩
def Zu5 : FnH := ⟨[],[]⟩
def Zvw : FnH := ⟨[],[]⟩
def Zu6 : FnH := ⟨[(6,⟨(bm 60129542145 44),[(0,1),(33,5)],none⟩)],[]⟩
theorem Zde : Enters Tg 51 := ⟨Tryz.f51,Tryz.func51,by kernel_rfl,by kernel_rfl⟩
theorem Zos : Enters Tg 78 := ⟨Tryz.f78,Tryz.func78,by kernel_rfl,by kernel_rfl⟩
theorem Zqz : Enters Tg 99 := ⟨Tryz.f99,Tryz.func99,by kernel_rfl,by kernel_rfl⟩
theorem Zot : Enters Tg 112 := ⟨Tryz.f112,Tryz.func112,by kernel_rfl,by kernel_rfl⟩
theorem Zl7 : Enters Tg 133 := ⟨Tryz.f133,Tryz.func133,by kernel_rfl,by kernel_rfl⟩
theorem Zl8 : Enters Tg 134 := ⟨Tryz.f134,Tryz.func134,by kernel_rfl,by kernel_rfl⟩
theorem Zl9 : Enters Tg 135 := ⟨Tryz.f135,Tryz.func135,by kernel_rfl,by kernel_rfl⟩
theorem Zhf : Enters Tg 136 := ⟨Tryz.f136,Tryz.func136,by kernel_rfl,by kernel_rfl⟩
theorem Zla : Enters Tg 137 := ⟨Tryz.f137,Tryz.func137,by kernel_rfl,by kernel_rfl⟩
theorem Zmo : Enters Tg 138 := ⟨Tryz.f138,Tryz.func138,by kernel_rfl,by kernel_rfl⟩
theorem Zii : Enters Tg 159 := ⟨Tryz.f159,Tryz.func159,by kernel_rfl,by kernel_rfl⟩
theorem Z9w : Enters Tg 176 := ⟨Tryz.f176,Tryz.func176,by kernel_rfl,by kernel_rfl⟩
theorem Zbm : Enters Tg 188 := ⟨Tryz.f188,Tryz.func188,by kernel_rfl,by kernel_rfl⟩
theorem Zmp : Enters Tg 177 := ⟨Tryz.f177,Tryz.func177,by kernel_rfl,by kernel_rfl⟩
theorem Zmq : Enters Tg 189 := ⟨Tryz.f189,Tryz.func189,by kernel_rfl,by kernel_rfl⟩
theorem Zou : Enters Tg 196 := ⟨Tryz.f196,Tryz.func196,by kernel_rfl,by kernel_rfl⟩
theorem Zmr : Enters Tg 199 := ⟨Tryz.f199,Tryz.func199,by kernel_rfl,by kernel_rfl⟩
theorem Zjg : Enters Tg 202 := ⟨Tryz.f202,Tryz.func202,by kernel_rfl,by kernel_rfl⟩
theorem Zhg : Enters Tg 207 := ⟨Tryz.f207,Tryz.func207,by kernel_rfl,by kernel_rfl⟩
theorem Zps : Enters Tg 203 := ⟨Tryz.f203,Tryz.func203,by kernel_rfl,by kernel_rfl⟩
theorem Zf3 : Enters Tg 208 := ⟨Tryz.f208,Tryz.func208,by kernel_rfl,by kernel_rfl⟩
theorem Zhh : Enters Tg 204 := ⟨Tryz.f204,Tryz.func204,by kernel_rfl,by kernel_rfl⟩
theorem Zij : Enters Tg 209 := ⟨Tryz.f209,Tryz.func209,by kernel_rfl,by kernel_rfl⟩
theorem Zms : Enters Tg 210 := ⟨Tryz.f210,Tryz.func210,by kernel_rfl,by kernel_rfl⟩
theorem Zmt : Enters Tg 211 := ⟨Tryz.f211,Tryz.func211,by kernel_rfl,by kernel_rfl⟩
theorem Zhi : Enters Tg 215 := ⟨Tryz.f215,Tryz.func215,by kernel_rfl,by kernel_rfl⟩
theorem Zr0 : Enters Tg 212 := ⟨Tryz.f212,Tryz.func212,by kernel_rfl,by kernel_rfl⟩
theorem Zpt : Enters Tg 213 := ⟨Tryz.f213,Tryz.func213,by kernel_rfl,by kernel_rfl⟩
theorem Zpu : Enters Tg 205 := ⟨Tryz.f205,Tryz.func205,by kernel_rfl,by kernel_rfl⟩
theorem Zpv : Enters Tg 206 := ⟨Tryz.f206,Tryz.func206,by kernel_rfl,by kernel_rfl⟩
theorem Zlb : Enters Tg 201 := ⟨Tryz.f201,Tryz.func201,by kernel_rfl,by kernel_rfl⟩
theorem Z56 : Enters Tg 200 := ⟨Tryz.f200,Tryz.func200,by kernel_rfl,by kernel_rfl⟩
theorem Zik : Enters Tg 197 := ⟨Tryz.f197,Tryz.func197,by kernel_rfl,by kernel_rfl⟩
theorem Zov : Enters Tg 149 := ⟨Tryz.f149,Tryz.func149,by kernel_rfl,by kernel_rfl⟩
theorem Zow : Enters Tg 171 := ⟨Tryz.f171,Tryz.func171,by kernel_rfl,by kernel_rfl⟩
theorem Zlc : Enters Tg 178 := ⟨Tryz.f178,Tryz.func178,by kernel_rfl,by kernel_rfl⟩
theorem Zg3 : Enters Tg 190 := ⟨Tryz.f190,Tryz.func190,by kernel_rfl,by kernel_rfl⟩
theorem Zg4 : Enters Tg 139 := ⟨Tryz.f139,Tryz.func139,by kernel_rfl,by kernel_rfl⟩
theorem Zjh : Enters Tg 160 := ⟨Tryz.f160,Tryz.func160,by kernel_rfl,by kernel_rfl⟩
theorem Zpw : Enters Tg 179 := ⟨Tryz.f179,Tryz.func179,by kernel_rfl,by kernel_rfl⟩
theorem Zr1 : Enters Tg 161 := ⟨Tryz.f161,Tryz.func161,by kernel_rfl,by kernel_rfl⟩
theorem Zji : Enters Tg 180 := ⟨Tryz.f180,Tryz.func180,by kernel_rfl,by kernel_rfl⟩
theorem Z7m : Enters Tg 162 := ⟨Tryz.f162,Tryz.func162,by kernel_rfl,by kernel_rfl⟩
theorem Zld : Enters Tg 140 := ⟨Tryz.f140,Tryz.func140,by kernel_rfl,by kernel_rfl⟩
theorem Zle : Enters Tg 141 := ⟨Tryz.f141,Tryz.func141,by kernel_rfl,by kernel_rfl⟩
theorem Zt8 : Enters Tg 114 := ⟨Tryz.f114,Tryz.func114,by kernel_rfl,by kernel_rfl⟩
theorem Z12c : Enters Tg 98 := ⟨Tryz.f98,Tryz.func98,by kernel_rfl,by kernel_rfl⟩
theorem Zu7 : Enters Tg 142 := ⟨Tryz.f142,Tryz.func142,by kernel_rfl,by kernel_rfl⟩
theorem Zt9 : Enters Tg 163 := ⟨Tryz.f163,Tryz.func163,by kernel_rfl,by kernel_rfl⟩
theorem Zpx : Enters Tg 181 := ⟨Tryz.f181,Tryz.func181,by kernel_rfl,by kernel_rfl⟩
theorem Zf4 : Enters Tg 182 := ⟨Tryz.f182,Tryz.func182,by kernel_rfl,by kernel_rfl⟩
theorem Z10q : Enters Tg 191 := ⟨Tryz.f191,Tryz.func191,by kernel_rfl,by kernel_rfl⟩
theorem Zvx : Enters Tg 198 := ⟨Tryz.f198,Tryz.func198,by kernel_rfl,by kernel_rfl⟩
theorem Zxi : Enters Tg 185 := ⟨Tryz.f185,Tryz.func185,by kernel_rfl,by kernel_rfl⟩
theorem Zvy : Enters Tg 192 := ⟨Tryz.f192,Tryz.func192,by kernel_rfl,by kernel_rfl⟩
theorem Zvz : Enters Tg 193 := ⟨Tryz.f193,Tryz.func193,by kernel_rfl,by kernel_rfl⟩
theorem Zlf : Enters Tg 143 := ⟨Tryz.f143,Tryz.func143,by kernel_rfl,by kernel_rfl⟩
theorem Zpy : Enters Tg 113 := ⟨Tryz.f113,Tryz.func113,by kernel_rfl,by kernel_rfl⟩
theorem Z10r : Enters Tg 115 := ⟨Tryz.f115,Tryz.func115,by kernel_rfl,by kernel_rfl⟩
theorem Zxy : Enters Tg 80 := ⟨Tryz.f80,Tryz.func80,by kernel_rfl,by kernel_rfl⟩
theorem Zbn : Enters Tg 144 := ⟨Tryz.f144,Tryz.func144,by kernel_rfl,by kernel_rfl⟩
theorem Zw0 : Enters Tg 145 := ⟨Tryz.f145,Tryz.func145,by kernel_rfl,by kernel_rfl⟩
theorem Zta : Enters Tg 164 := ⟨Tryz.f164,Tryz.func164,by kernel_rfl,by kernel_rfl⟩
theorem Zu8 : Enters Tg 116 := ⟨Tryz.f116,Tryz.func116,by kernel_rfl,by kernel_rfl⟩
theorem Zr2 : Enters Tg 146 := ⟨Tryz.f146,Tryz.func146,by kernel_rfl,by kernel_rfl⟩
theorem Zox : Enters Tg 165 := ⟨Tryz.f165,Tryz.func165,by kernel_rfl,by kernel_rfl⟩
theorem Zlg : Enters Tg 184 := ⟨Tryz.f184,Tryz.func184,by kernel_rfl,by kernel_rfl⟩
theorem Ztb : Enters Tg 183 := ⟨Tryz.f183,Tryz.func183,by kernel_rfl,by kernel_rfl⟩
theorem Zpz : Enters Tg 194 := ⟨Tryz.f194,Tryz.func194,by kernel_rfl,by kernel_rfl⟩
theorem Ztc : Enters Tg 147 := ⟨Tryz.f147,Tryz.func147,by kernel_rfl,by kernel_rfl⟩
theorem Zoy : Enters Tg 166 := ⟨Tryz.f166,Tryz.func166,by kernel_rfl,by kernel_rfl⟩
theorem Zxz : Enters Tg 168 := ⟨Tryz.f168,Tryz.func168,by kernel_rfl,by kernel_rfl⟩
theorem Z10s : Enters Tg 169 := ⟨Tryz.f169,Tryz.func169,by kernel_rfl,by kernel_rfl⟩
theorem Zw1 : Enters Tg 187 := ⟨Tryz.f187,Tryz.func187,by kernel_rfl,by kernel_rfl⟩
theorem Ztd : Enters Tg 195 := ⟨Tryz.f195,Tryz.func195,by kernel_rfl,by kernel_rfl⟩
theorem Zte : Enters Tg 167 := ⟨Tryz.f167,Tryz.func167,by kernel_rfl,by kernel_rfl⟩
theorem Zu9 : Enters Tg 186 := ⟨Tryz.f186,Tryz.func186,by kernel_rfl,by kernel_rfl⟩
theorem Zw2 : Enters Tg 170 := ⟨Tryz.f170,Tryz.func170,by kernel_rfl,by kernel_rfl⟩
theorem Zua : Enters Tg 148 := ⟨Tryz.f148,Tryz.func148,by kernel_rfl,by kernel_rfl⟩
noncomputable def Z82 : Hints := ⟨[(58,Zu2),(77,Zha)],[(51,Tryz.f51,Z2d),(78,Tryz.f78,Zol),(99,Tryz.f99,Zqv),(112,Tryz.f112,Zom),(133,Tryz.f133,Zkx),(134,Tryz.f134,Zky),(135,Tryz.f135,Zkz),(136,Tryz.f136,Zhb),(137,Tryz.f137,Zl0),(138,Tryz.f138,Zmi),(159,Tryz.f159,Zif),(176,Tryz.f176,Z9v),(188,Tryz.f188,Zbk),(177,Tryz.f177,Zmj),(189,Tryz.f189,Zmk),(196,Tryz.f196,Zon),(199,Tryz.f199,Zml),(202,Tryz.f202,Zjd),(207,Tryz.f207,Zhc),(203,Tryz.f203,Zpk),(208,Tryz.f208,Zf1),(204,Tryz.f204,Zhd),(209,Tryz.f209,Zig),(210,Tryz.f210,Zmm),(211,Tryz.f211,Zmn),(215,Tryz.f215,Zhe),(212,Tryz.f212,Zqw),(213,Tryz.f213,Zpl),(205,Tryz.f205,Zpm),(206,Tryz.f206,Zpn),(201,Tryz.f201,Zl1),(200,Tryz.f200,Z55),(197,Tryz.f197,Zih),(149,Tryz.f149,Zoo),(171,Tryz.f171,Zop),(178,Tryz.f178,Zl2),(190,Tryz.f190,Zg1),(139,Tryz.f139,Zg2),(160,Tryz.f160,Zje),(179,Tryz.f179,Zpo),(161,Tryz.f161,Zqx),(180,Tryz.f180,Zjf),(162,Tryz.f162,Z7l),(140,Tryz.f140,Zl3),(141,Tryz.f141,Zl4),(114,Tryz.f114,Zt1),(98,Tryz.f98,Z12b),(142,Tryz.f142,Zu3),(163,Tryz.f163,Zt2),(181,Tryz.f181,Zpp),(182,Tryz.f182,Zf2),(191,Tryz.f191,Z10n),(198,Tryz.f198,Zvr),(185,Tryz.f185,Zxh),(192,Tryz.f192,Zvs),(193,Tryz.f193,Zvt),(143,Tryz.f143,Zl5),(113,Tryz.f113,Zpq),(115,Tryz.f115,Z10o),(80,Tryz.f80,Zxw),(144,Tryz.f144,Zbl),(145,Tryz.f145,Zvu),(164,Tryz.f164,Zt3),(116,Tryz.f116,Zu4),(146,Tryz.f146,Zqy),(165,Tryz.f165,Zoq),(184,Tryz.f184,Zl6),(183,Tryz.f183,Zt4),(194,Tryz.f194,Zpr),(147,Tryz.f147,Zt5),(166,Tryz.f166,Zor),(168,Tryz.f168,Zxx),(169,Tryz.f169,Z10p),(187,Tryz.f187,Zvv),(195,Tryz.f195,Zt6),(167,Tryz.f167,Zt7),(186,Tryz.f186,Zu5),(170,Tryz.f170,Zvw),(148,Tryz.f148,Zu6)],[203,205,206,208,148]⟩
theorem Z83 {m n : Nat} {ds : List D} {d : D} (h : funD Tg Z82 m n Z2d Tryz.f51 ds = some d) : DataSem Tg 51 ds d := Z5 (H := Z82) (SpOk.cons td_oidsets_Check (SpOk.cons td_oids_Check SpOk.nil)) mixed (InlOk.cons Tryz.func51 Zde (InlOk.cons Tryz.func78 Zos (InlOk.cons Tryz.func99 Zqz (InlOk.cons Tryz.func112 Zot (InlOk.cons Tryz.func133 Zl7 (InlOk.cons Tryz.func134 Zl8 (InlOk.cons Tryz.func135 Zl9 (InlOk.cons Tryz.func136 Zhf (InlOk.cons Tryz.func137 Zla (InlOk.cons Tryz.func138 Zmo (InlOk.cons Tryz.func159 Zii (InlOk.cons Tryz.func176 Z9w (InlOk.cons Tryz.func188 Zbm (InlOk.cons Tryz.func177 Zmp (InlOk.cons Tryz.func189 Zmq (InlOk.cons Tryz.func196 Zou (InlOk.cons Tryz.func199 Zmr (InlOk.cons Tryz.func202 Zjg (InlOk.cons Tryz.func207 Zhg (InlOk.cons Tryz.func203 Zps (InlOk.cons Tryz.func208 Zf3 (InlOk.cons Tryz.func204 Zhh (InlOk.cons Tryz.func209 Zij (InlOk.cons Tryz.func210 Zms (InlOk.cons Tryz.func211 Zmt (InlOk.cons Tryz.func215 Zhi (InlOk.cons Tryz.func212 Zr0 (InlOk.cons Tryz.func213 Zpt (InlOk.cons Tryz.func205 Zpu (InlOk.cons Tryz.func206 Zpv (InlOk.cons Tryz.func201 Zlb (InlOk.cons Tryz.func200 Z56 (InlOk.cons Tryz.func197 Zik (InlOk.cons Tryz.func149 Zov (InlOk.cons Tryz.func171 Zow (InlOk.cons Tryz.func178 Zlc (InlOk.cons Tryz.func190 Zg3 (InlOk.cons Tryz.func139 Zg4 (InlOk.cons Tryz.func160 Zjh (InlOk.cons Tryz.func179 Zpw (InlOk.cons Tryz.func161 Zr1 (InlOk.cons Tryz.func180 Zji (InlOk.cons Tryz.func162 Z7m (InlOk.cons Tryz.func140 Zld (InlOk.cons Tryz.func141 Zle (InlOk.cons Tryz.func114 Zt8 (InlOk.cons Tryz.func98 Z12c (InlOk.cons Tryz.func142 Zu7 (InlOk.cons Tryz.func163 Zt9 (InlOk.cons Tryz.func181 Zpx (InlOk.cons Tryz.func182 Zf4 (InlOk.cons Tryz.func191 Z10q (InlOk.cons Tryz.func198 Zvx (InlOk.cons Tryz.func185 Zxi (InlOk.cons Tryz.func192 Zvy (InlOk.cons Tryz.func193 Zvz (InlOk.cons Tryz.func143 Zlf (InlOk.cons Tryz.func113 Zpy (InlOk.cons Tryz.func115 Z10r (InlOk.cons Tryz.func80 Zxy (InlOk.cons Tryz.func144 Zbn (InlOk.cons Tryz.func145 Zw0 (InlOk.cons Tryz.func164 Zta (InlOk.cons Tryz.func116 Zu8 (InlOk.cons Tryz.func146 Zr2 (InlOk.cons Tryz.func165 Zox (InlOk.cons Tryz.func184 Zlg (InlOk.cons Tryz.func183 Ztb (InlOk.cons Tryz.func194 Zpz (InlOk.cons Tryz.func147 Ztc (InlOk.cons Tryz.func166 Zoy (InlOk.cons Tryz.func168 Zxz (InlOk.cons Tryz.func169 Z10s (InlOk.cons Tryz.func187 Zw1 (InlOk.cons Tryz.func195 Ztd (InlOk.cons Tryz.func167 Zte (InlOk.cons Tryz.func186 Zu9 (InlOk.cons Tryz.func170 Zw2 (InlOk.cons Tryz.func148 Zua InlOk.nil))))))))))))))))))))))))))))))))))))))))))))))))))))))))))))))))))))))))))))))) Tryz.func51 Zde h
def Z15h : List D := [(D.agg [(D.v (.int .i64 (-1 : Int))),(D.v (.int .u8 (5 : Int))),(D.v (.int .u32 (2 : Int))),(D.v (.int .u32 (5 : Int))),(D.v (.int .u32 (29 : Int))),(D.v (.int .u32 (32 : Int))),zU,zU,zU,zU,zU,zU,zU,zU,zU,zU,zU,zU,(D.list 1 (some 1) [(D.v (.int .u8 (5 : Int))),(D.v (.int .u32 (2 : Int))),(D.v (.int .u32 (5 : Int))),(D.v (.int .u32 (29 : Int))),(D.v (.int .u32 (32 : Int))),zU,zU,zU,zU,zU,zU,zU,zU,zU,zU,zU,zU]),(D.list 0 (some 0) [])])]
def Z15i : D := zI
def Z15j : List D := [(D.agg [zI,(D.v (.int .u8 (3 : Int))),(D.v (.int .u32 (1 : Int))),(D.v (.int .u32 (2 : Int))),(D.v (.int .u32 (3 : Int))),zU,zU,zU,zU,zU,zU,zU,zU,zU,zU,zU,zU,zU,(D.list 2 (some 2) [(D.v (.int .u8 (3 : Int))),(D.v (.int .u32 (1 : Int))),(D.v (.int .u32 (2 : Int))),(D.v (.int .u32 (4 : Int))),zU,zU,zU,zU,zU,zU,zU,zU,zU,zU,zU,zU,zU,(D.v (.int .u8 (3 : Int))),(D.v (.int .u32 (1 : Int))),(D.v (.int .u32 (2 : Int))),(D.v (.int .u32 (5 : Int))),zU,zU,zU,zU,zU,zU,zU,zU,zU,zU,zU,zU,zU]),(D.list 0 (some 0) [])])]
def Z15k : D := zI
def Z15l : List D := [(D.agg [zI,(D.v (.int .u8 (5 : Int))),(D.v (.int .u32 (2 : Int))),(D.v (.int .u32 (5 : Int))),(D.v (.int .u32 (29 : Int))),(D.v (.int .u32 (32 : Int))),zU,zU,zU,zU,zU,zU,zU,zU,zU,zU,zU,zU,(D.list 1 (some 1) [(D.v (.int .u8 (5 : Int))),(D.v (.int .u32 (2 : Int))),(D.v (.int .u32 (5 : Int))),(D.v (.int .u32 (29 : Int))),(D.v (.int .u32 (32 : Int))),zU,zU,zU,zU,zU,zU,zU,zU,zU,zU,zU,zU]),(D.list 0 (some 0) [])])]
def Z15m : D := zI
def Z15n : List D := [(D.agg [(D.v (.int .i64 (1 : Int))),(D.v (.int .u8 (3 : Int))),(D.v (.int .u32 (1 : Int))),(D.v (.int .u32 (2 : Int))),(D.v (.int .u32 (4 : Int))),zU,zU,zU,zU,zU,zU,zU,zU,zU,zU,zU,zU,zU,(D.list 1 (some 1) [(D.v (.int .u8 (3 : Int))),(D.v (.int .u32 (1 : Int))),(D.v (.int .u32 (2 : Int))),(D.v (.int .u32 (4 : Int))),zU,zU,zU,zU,zU,zU,zU,zU,zU,zU,zU,zU,zU]),(D.list 0 (some 0) [])])]
def Z15o : D := zI
def Z15p : List D := [(D.agg [(D.v (.int .i64 (1 : Int))),(D.v (.int .u8 (3 : Int))),(D.v (.int .u32 (1 : Int))),(D.v (.int .u32 (2 : Int))),(D.v (.int .u32 (5 : Int))),zU,zU,zU,zU,zU,zU,zU,zU,zU,zU,zU,zU,zU,(D.list 1 (some 1) [(D.v (.int .u8 (3 : Int))),(D.v (.int .u32 (1 : Int))),(D.v (.int .u32 (2 : Int))),(D.v (.int .u32 (5 : Int))),zU,zU,zU,zU,zU,zU,zU,zU,zU,zU,zU,zU,zU]),(D.list 0 (some 0) [])])]
def Z15q : D := zI
theorem Z1k6 : funD Tg Z82 100000 60 Z2d Tryz.f51 Z15h = some Z15i := by kernel_rfl
theorem Z1k7 : funD Tg Z82 100000 60 Z2d Tryz.f51 Z15j = some Z15k := by kernel_rfl
theorem Z1k8 : funD Tg Z82 100000 60 Z2d Tryz.f51 Z15l = some Z15m := by kernel_rfl
theorem Z1k9 : funD Tg Z82 100000 60 Z2d Tryz.f51 Z15n = some Z15o := by kernel_rfl
theorem Z1ka : funD Tg Z82 100000 60 Z2d Tryz.f51 Z15p = some Z15q := by kernel_rfl
def Zrv (ds : List D) : Option D := if isT Z15h ds then some Z15i else (if isT Z15j ds then some Z15k else (if isT Z15l ds then some Z15m else (if isT Z15n ds then some Z15o else (if isT Z15p ds then some Z15q else (none)))))
theorem td_trees_valid : ∀ ds d,Zrv ds = some d → DataSem Tg 51 ds d := by
 intro ds d h
 unfold Zrv at h
 split at h
 ·rename_i ha; obtain rfl := isT_eq ha; cases h; exact Z83 Z1k6
 split at h
 ·rename_i ha; obtain rfl := isT_eq ha; cases h; exact Z83 Z1k7
 split at h
 ·rename_i ha; obtain rfl := isT_eq ha; cases h; exact Z83 Z1k8
 split at h
 ·rename_i ha; obtain rfl := isT_eq ha; cases h; exact Z83 Z1k9
 split at h
 ·rename_i ha; obtain rfl := isT_eq ha; cases h; exact Z83 Z1ka
 cases h
def Z1u : FnH := ⟨[(5,⟨(bm 1835026 40),[(4,1),(18,20)],none⟩)],[]⟩
def Ztf : FnH := ⟨[],[]⟩
theorem Z9f : Enters Tg 50 := ⟨Tryz.f50,Tryz.func50,by kernel_rfl,by kernel_rfl⟩
theorem Ztg : Enters Tg 76 := ⟨Tryz.f76,Tryz.func76,by kernel_rfl,by kernel_rfl⟩
noncomputable def Z68 : Hints := ⟨[(51,Zrv),(52,Zg0)],[(50,Tryz.f50,Z1u),(76,Tryz.f76,Ztf)],[203,205,206,208,148]⟩
theorem Z6y {m n : Nat} {ds : List D} {d : D} (h : funD Tg Z68 m n Z1u Tryz.f50 ds = some d) : DataSem Tg 50 ds d := Z5 (H := Z68) (SpOk.cons td_trees_valid (SpOk.cons td_oids_Compare SpOk.nil)) mixed (InlOk.cons Tryz.func50 Z9f (InlOk.cons Tryz.func76 Ztg InlOk.nil)) Tryz.func50 Z9f h
def Zzs : List D := [(D.agg [(D.list 1 (some 1) [(D.v (.int .i64 (-1 : Int))),(D.v (.int .u8 (5 : Int))),(D.v (.int .u32 (2 : Int))),(D.v (.int .u32 (5 : Int))),(D.v (.int .u32 (29 : Int))),(D.v (.int .u32 (32 : Int))),zU,zU,zU,zU,zU,zU,zU,zU,zU,zU,zU,zU,(D.list 1 (some 1) [(D.v (.int .u8 (5 : Int))),(D.v (.int .u32 (2 : Int))),(D.v (.int .u32 (5 : Int))),(D.v (.int .u32 (29 : Int))),(D.v (.int .u32 (32 : Int))),zU,zU,zU,zU,zU,zU,zU,zU,zU,zU,zU,zU]),(D.list 0 (some 0) [])])])]
def Zzt : D := (D.tup [(D.list 1 (some 1) [zI]),zI])
def Zzu : List D := [(D.agg [(D.list 2 (some 2) [(D.v (.int .i64 (-1 : Int))),(D.v (.int .u8 (5 : Int))),(D.v (.int .u32 (2 : Int))),(D.v (.int .u32 (5 : Int))),(D.v (.int .u32 (29 : Int))),(D.v (.int .u32 (32 : Int))),zU,zU,zU,zU,zU,zU,zU,zU,zU,zU,zU,zU,(D.list 1 (some 1) [(D.v (.int .u8 (5 : Int))),(D.v (.int .u32 (2 : Int))),(D.v (.int .u32 (5 : Int))),(D.v (.int .u32 (29 : Int))),(D.v (.int .u32 (32 : Int))),zU,zU,zU,zU,zU,zU,zU,zU,zU,zU,zU,zU]),(D.list 0 (some 0) []),zI,(D.v (.int .u8 (3 : Int))),(D.v (.int .u32 (1 : Int))),(D.v (.int .u32 (2 : Int))),(D.v (.int .u32 (3 : Int))),zU,zU,zU,zU,zU,zU,zU,zU,zU,zU,zU,zU,zU,(D.list 2 (some 2) [(D.v (.int .u8 (3 : Int))),(D.v (.int .u32 (1 : Int))),(D.v (.int .u32 (2 : Int))),(D.v (.int .u32 (4 : Int))),zU,zU,zU,zU,zU,zU,zU,zU,zU,zU,zU,zU,zU,(D.v (.int .u8 (3 : Int))),(D.v (.int .u32 (1 : Int))),(D.v (.int .u32 (2 : Int))),(D.v (.int .u32 (5 : Int))),zU,zU,zU,zU,zU,zU,zU,zU,zU,zU,zU,zU,zU]),(D.list 0 (some 0) [])])])]
def Zzv : D := (D.tup [(D.list 2 (some 2) [zI,(D.v (.int .i64 (1 : Int)))]),zI])
def Zzw : List D := [(D.agg [(D.list 3 (some 3) [(D.v (.int .i64 (-1 : Int))),(D.v (.int .u8 (5 : Int))),(D.v (.int .u32 (2 : Int))),(D.v (.int .u32 (5 : Int))),(D.v (.int .u32 (29 : Int))),(D.v (.int .u32 (32 : Int))),zU,zU,zU,zU,zU,zU,zU,zU,zU,zU,zU,zU,(D.list 1 (some 1) [(D.v (.int .u8 (5 : Int))),(D.v (.int .u32 (2 : Int))),(D.v (.int .u32 (5 : Int))),(D.v (.int .u32 (29 : Int))),(D.v (.int .u32 (32 : Int))),zU,zU,zU,zU,zU,zU,zU,zU,zU,zU,zU,zU]),(D.list 0 (some 0) []),zI,(D.v (.int .u8 (3 : Int))),(D.v (.int .u32 (1 : Int))),(D.v (.int .u32 (2 : Int))),(D.v (.int .u32 (3 : Int))),zU,zU,zU,zU,zU,zU,zU,zU,zU,zU,zU,zU,zU,(D.list 2 (some 2) [(D.v (.int .u8 (3 : Int))),(D.v (.int .u32 (1 : Int))),(D.v (.int .u32 (2 : Int))),(D.v (.int .u32 (4 : Int))),zU,zU,zU,zU,zU,zU,zU,zU,zU,zU,zU,zU,zU,(D.v (.int .u8 (3 : Int))),(D.v (.int .u32 (1 : Int))),(D.v (.int .u32 (2 : Int))),(D.v (.int .u32 (5 : Int))),zU,zU,zU,zU,zU,zU,zU,zU,zU,zU,zU,zU,zU]),(D.list 0 (some 0) []),zI,(D.v (.int .u8 (5 : Int))),(D.v (.int .u32 (2 : Int))),(D.v (.int .u32 (5 : Int))),(D.v (.int .u32 (29 : Int))),(D.v (.int .u32 (32 : Int))),zU,zU,zU,zU,zU,zU,zU,zU,zU,zU,zU,zU,(D.list 1 (some 1) [(D.v (.int .u8 (5 : Int))),(D.v (.int .u32 (2 : Int))),(D.v (.int .u32 (5 : Int))),(D.v (.int .u32 (29 : Int))),(D.v (.int .u32 (32 : Int))),zU,zU,zU,zU,zU,zU,zU,zU,zU,zU,zU,zU]),(D.list 0 (some 0) [])])])]
def Zzx : D := (D.tup [(D.list 3 (some 3) [zI,(D.v (.int .i64 (1 : Int))),(D.v (.int .i64 (1 : Int)))]),zI])
def Zzy : List D := [(D.agg [(D.list 4 (some 4) [(D.v (.int .i64 (-1 : Int))),(D.v (.int .u8 (5 : Int))),(D.v (.int .u32 (2 : Int))),(D.v (.int .u32 (5 : Int))),(D.v (.int .u32 (29 : Int))),(D.v (.int .u32 (32 : Int))),zU,zU,zU,zU,zU,zU,zU,zU,zU,zU,zU,zU,(D.list 1 (some 1) [(D.v (.int .u8 (5 : Int))),(D.v (.int .u32 (2 : Int))),(D.v (.int .u32 (5 : Int))),(D.v (.int .u32 (29 : Int))),(D.v (.int .u32 (32 : Int))),zU,zU,zU,zU,zU,zU,zU,zU,zU,zU,zU,zU]),(D.list 0 (some 0) []),zI,(D.v (.int .u8 (3 : Int))),(D.v (.int .u32 (1 : Int))),(D.v (.int .u32 (2 : Int))),(D.v (.int .u32 (3 : Int))),zU,zU,zU,zU,zU,zU,zU,zU,zU,zU,zU,zU,zU,(D.list 2 (some 2) [(D.v (.int .u8 (3 : Int))),(D.v (.int .u32 (1 : Int))),(D.v (.int .u32 (2 : Int))),(D.v (.int .u32 (4 : Int))),zU,zU,zU,zU,zU,zU,zU,zU,zU,zU,zU,zU,zU,(D.v (.int .u8 (3 : Int))),(D.v (.int .u32 (1 : Int))),(D.v (.int .u32 (2 : Int))),(D.v (.int .u32 (5 : Int))),zU,zU,zU,zU,zU,zU,zU,zU,zU,zU,zU,zU,zU]),(D.list 0 (some 0) []),zI,(D.v (.int .u8 (5 : Int))),(D.v (.int .u32 (2 : Int))),(D.v (.int .u32 (5 : Int))),(D.v (.int .u32 (29 : Int))),(D.v (.int .u32 (32 : Int))),zU,zU,zU,zU,zU,zU,zU,zU,zU,zU,zU,zU,(D.list 1 (some 1) [(D.v (.int .u8 (5 : Int))),(D.v (.int .u32 (2 : Int))),(D.v (.int .u32 (5 : Int))),(D.v (.int .u32 (29 : Int))),(D.v (.int .u32 (32 : Int))),zU,zU,zU,zU,zU,zU,zU,zU,zU,zU,zU,zU]),(D.list 0 (some 0) []),(D.v (.int .i64 (1 : Int))),(D.v (.int .u8 (3 : Int))),(D.v (.int .u32 (1 : Int))),(D.v (.int .u32 (2 : Int))),(D.v (.int .u32 (4 : Int))),zU,zU,zU,zU,zU,zU,zU,zU,zU,zU,zU,zU,zU,(D.list 1 (some 1) [(D.v (.int .u8 (3 : Int))),(D.v (.int .u32 (1 : Int))),(D.v (.int .u32 (2 : Int))),(D.v (.int .u32 (4 : Int))),zU,zU,zU,zU,zU,zU,zU,zU,zU,zU,zU,zU,zU]),(D.list 0 (some 0) [])])])]
def Zzz : D := (D.tup [(D.list 4 (some 4) [zI,(D.v (.int .i64 (1 : Int))),(D.v (.int .i64 (1 : Int))),(D.v (.int .i64 (2 : Int)))]),zI])
def Z100 : List D := [(D.agg [(D.list 5 (some 5) [(D.v (.int .i64 (-1 : Int))),(D.v (.int .u8 (5 : Int))),(D.v (.int .u32 (2 : Int))),(D.v (.int .u32 (5 : Int))),(D.v (.int .u32 (29 : Int))),(D.v (.int .u32 (32 : Int))),zU,zU,zU,zU,zU,zU,zU,zU,zU,zU,zU,zU,(D.list 1 (some 1) [(D.v (.int .u8 (5 : Int))),(D.v (.int .u32 (2 : Int))),(D.v (.int .u32 (5 : Int))),(D.v (.int .u32 (29 : Int))),(D.v (.int .u32 (32 : Int))),zU,zU,zU,zU,zU,zU,zU,zU,zU,zU,zU,zU]),(D.list 0 (some 0) []),zI,(D.v (.int .u8 (3 : Int))),(D.v (.int .u32 (1 : Int))),(D.v (.int .u32 (2 : Int))),(D.v (.int .u32 (3 : Int))),zU,zU,zU,zU,zU,zU,zU,zU,zU,zU,zU,zU,zU,(D.list 2 (some 2) [(D.v (.int .u8 (3 : Int))),(D.v (.int .u32 (1 : Int))),(D.v (.int .u32 (2 : Int))),(D.v (.int .u32 (4 : Int))),zU,zU,zU,zU,zU,zU,zU,zU,zU,zU,zU,zU,zU,(D.v (.int .u8 (3 : Int))),(D.v (.int .u32 (1 : Int))),(D.v (.int .u32 (2 : Int))),(D.v (.int .u32 (5 : Int))),zU,zU,zU,zU,zU,zU,zU,zU,zU,zU,zU,zU,zU]),(D.list 0 (some 0) []),zI,(D.v (.int .u8 (5 : Int))),(D.v (.int .u32 (2 : Int))),(D.v (.int .u32 (5 : Int))),(D.v (.int .u32 (29 : Int))),(D.v (.int .u32 (32 : Int))),zU,zU,zU,zU,zU,zU,zU,zU,zU,zU,zU,zU,(D.list 1 (some 1) [(D.v (.int .u8 (5 : Int))),(D.v (.int .u32 (2 : Int))),(D.v (.int .u32 (5 : Int))),(D.v (.int .u32 (29 : Int))),(D.v (.int .u32 (32 : Int))),zU,zU,zU,zU,zU,zU,zU,zU,zU,zU,zU,zU]),(D.list 0 (some 0) []),(D.v (.int .i64 (1 : Int))),(D.v (.int .u8 (3 : Int))),(D.v (.int .u32 (1 : Int))),(D.v (.int .u32 (2 : Int))),(D.v (.int .u32 (4 : Int))),zU,zU,zU,zU,zU,zU,zU,zU,zU,zU,zU,zU,zU,(D.list 1 (some 1) [(D.v (.int .u8 (3 : Int))),(D.v (.int .u32 (1 : Int))),(D.v (.int .u32 (2 : Int))),(D.v (.int .u32 (4 : Int))),zU,zU,zU,zU,zU,zU,zU,zU,zU,zU,zU,zU,zU]),(D.list 0 (some 0) []),(D.v (.int .i64 (1 : Int))),(D.v (.int .u8 (3 : Int))),(D.v (.int .u32 (1 : Int))),(D.v (.int .u32 (2 : Int))),(D.v (.int .u32 (5 : Int))),zU,zU,zU,zU,zU,zU,zU,zU,zU,zU,zU,zU,zU,(D.list 1 (some 1) [(D.v (.int .u8 (3 : Int))),(D.v (.int .u32 (1 : Int))),(D.v (.int .u32 (2 : Int))),(D.v (.int .u32 (5 : Int))),zU,zU,zU,zU,zU,zU,zU,zU,zU,zU,zU,zU,zU]),(D.list 0 (some 0) [])])])]
def Z101 : D := (D.tup [(D.list 5 (some 5) [zI,(D.v (.int .i64 (1 : Int))),(D.v (.int .i64 (1 : Int))),(D.v (.int .i64 (2 : Int))),(D.v (.int .i64 (2 : Int)))]),zI])
theorem Z1fs : funD Tg Z68 100000 60 Z1u Tryz.f50 Zzs = some Zzt := by kernel_rfl
theorem Z1ft : funD Tg Z68 100000 60 Z1u Tryz.f50 Zzu = some Zzv := by kernel_rfl
theorem Z1fu : funD Tg Z68 100000 60 Z1u Tryz.f50 Zzw = some Zzx := by kernel_rfl
theorem Z1fv : funD Tg Z68 100000 60 Z1u Tryz.f50 Zzy = some Zzz := by kernel_rfl
theorem Z1fw : funD Tg Z68 100000 60 Z1u Tryz.f50 Z100 = some Z101 := by kernel_rfl
def Z8j (ds : List D) : Option D := if isT Zzs ds then some Zzt else (if isT Zzu ds then some Zzv else (if isT Zzw ds then some Zzx else (if isT Zzy ds then some Zzz else (if isT Z100 ds then some Z101 else (none)))))
theorem td_trees_examine : ∀ ds d,Z8j ds = some d → DataSem Tg 50 ds d := by
 intro ds d h
 unfold Z8j at h
 split at h
 ·rename_i ha; obtain rfl := isT_eq ha; cases h; exact Z6y Z1fs
 split at h
 ·rename_i ha; obtain rfl := isT_eq ha; cases h; exact Z6y Z1ft
 split at h
 ·rename_i ha; obtain rfl := isT_eq ha; cases h; exact Z6y Z1fu
 split at h
 ·rename_i ha; obtain rfl := isT_eq ha; cases h; exact Z6y Z1fv
 split at h
 ·rename_i ha; obtain rfl := isT_eq ha; cases h; exact Z6y Z1fw
 cases h
def Z7h : FnH := ⟨[],[]⟩
theorem Zdf : Enters Tg 41 := ⟨Tryz.f41,Tryz.func41,by kernel_rfl,by kernel_rfl⟩
noncomputable def Zxj : Hints := ⟨[(50,Z8j)],[(41,Tryz.f41,Z7h)],[203,205,206,208,148]⟩
theorem Z1cy {m n : Nat} {ds : List D} {d : D} (h : funD Tg Zxj m n Z7h Tryz.f41 ds = some d) : DataSem Tg 41 ds d := Z5 (H := Zxj) (SpOk.cons td_trees_examine SpOk.nil) mixed (InlOk.cons Tryz.func41 Zdf InlOk.nil) Tryz.func41 Zdf h
def Z15r : List D := [(D.agg [(D.list 5 (some 5) [(D.v (.int .i64 (-1 : Int))),(D.v (.int .u8 (5 : Int))),(D.v (.int .u32 (2 : Int))),(D.v (.int .u32 (5 : Int))),(D.v (.int .u32 (29 : Int))),(D.v (.int .u32 (32 : Int))),zU,zU,zU,zU,zU,zU,zU,zU,zU,zU,zU,zU,(D.list 1 (some 1) [(D.v (.int .u8 (5 : Int))),(D.v (.int .u32 (2 : Int))),(D.v (.int .u32 (5 : Int))),(D.v (.int .u32 (29 : Int))),(D.v (.int .u32 (32 : Int))),zU,zU,zU,zU,zU,zU,zU,zU,zU,zU,zU,zU]),(D.list 0 (some 0) []),zI,(D.v (.int .u8 (3 : Int))),(D.v (.int .u32 (1 : Int))),(D.v (.int .u32 (2 : Int))),(D.v (.int .u32 (3 : Int))),zU,zU,zU,zU,zU,zU,zU,zU,zU,zU,zU,zU,zU,(D.list 2 (some 2) [(D.v (.int .u8 (3 : Int))),(D.v (.int .u32 (1 : Int))),(D.v (.int .u32 (2 : Int))),(D.v (.int .u32 (4 : Int))),zU,zU,zU,zU,zU,zU,zU,zU,zU,zU,zU,zU,zU,(D.v (.int .u8 (3 : Int))),(D.v (.int .u32 (1 : Int))),(D.v (.int .u32 (2 : Int))),(D.v (.int .u32 (5 : Int))),zU,zU,zU,zU,zU,zU,zU,zU,zU,zU,zU,zU,zU]),(D.list 0 (some 0) []),zI,(D.v (.int .u8 (5 : Int))),(D.v (.int .u32 (2 : Int))),(D.v (.int .u32 (5 : Int))),(D.v (.int .u32 (29 : Int))),(D.v (.int .u32 (32 : Int))),zU,zU,zU,zU,zU,zU,zU,zU,zU,zU,zU,zU,(D.list 1 (some 1) [(D.v (.int .u8 (5 : Int))),(D.v (.int .u32 (2 : Int))),(D.v (.int .u32 (5 : Int))),(D.v (.int .u32 (29 : Int))),(D.v (.int .u32 (32 : Int))),zU,zU,zU,zU,zU,zU,zU,zU,zU,zU,zU,zU]),(D.list 0 (some 0) []),(D.v (.int .i64 (1 : Int))),(D.v (.int .u8 (3 : Int))),(D.v (.int .u32 (1 : Int))),(D.v (.int .u32 (2 : Int))),(D.v (.int .u32 (4 : Int))),zU,zU,zU,zU,zU,zU,zU,zU,zU,zU,zU,zU,zU,(D.list 1 (some 1) [(D.v (.int .u8 (3 : Int))),(D.v (.int .u32 (1 : Int))),(D.v (.int .u32 (2 : Int))),(D.v (.int .u32 (4 : Int))),zU,zU,zU,zU,zU,zU,zU,zU,zU,zU,zU,zU,zU]),(D.list 0 (some 0) []),(D.v (.int .i64 (1 : Int))),(D.v (.int .u8 (3 : Int))),(D.v (.int .u32 (1 : Int))),(D.v (.int .u32 (2 : Int))),(D.v (.int .u32 (5 : Int))),zU,zU,zU,zU,zU,zU,zU,zU,zU,zU,zU,zU,zU,(D.list 1 (some 1) [(D.v (.int .u8 (3 : Int))),(D.v (.int .u32 (1 : Int))),(D.v (.int .u32 (2 : Int))),(D.v (.int .u32 (5 : Int))),zU,zU,zU,zU,zU,zU,zU,zU,zU,zU,zU,zU,zU]),(D.list 0 (some 0) [])])])]
def Z15s : D := zI
theorem Z1kb : funD Tg Zxj 100000 60 Z7h Tryz.f41 Z15r = some Z15s := by kernel_rfl
def Zjj (ds : List D) : Option D := if isT Z15r ds then some Z15s else (none)
theorem td_trees_Check : ∀ ds d,Zjj ds = some d → DataSem Tg 41 ds d := by
 intro ds d h
 unfold Zjj at h
 split at h
 ·rename_i ha; obtain rfl := isT_eq ha; cases h; exact Z1cy Z1kb
 cases h
def Z2e : FnH := ⟨[(3,⟨(bm 1800 24),[(8,20)],none⟩)],[]⟩
theorem Zdg : Enters Tg 47 := ⟨Tryz.f47,Tryz.func47,by kernel_rfl,by kernel_rfl⟩
noncomputable def Z84 : Hints := ⟨[],[(47,Tryz.f47,Z2e)],[203,205,206,208,148]⟩
theorem Z85 {m n : Nat} {ds : List D} {d : D} (h : funD Tg Z84 m n Z2e Tryz.f47 ds = some d) : DataSem Tg 47 ds d := Z5 (H := Z84) SpOk.nil mixed (InlOk.cons Tryz.func47 Zdg InlOk.nil) Tryz.func47 Zdg h
def Z15t : List D := [(D.agg [(D.list 1 (some 1) [(D.v (.int .i64 (-1 : Int))),(D.v (.int .u8 (5 : Int))),(D.v (.int .u32 (2 : Int))),(D.v (.int .u32 (5 : Int))),(D.v (.int .u32 (29 : Int))),(D.v (.int .u32 (32 : Int))),zU,zU,zU,zU,zU,zU,zU,zU,zU,zU,zU,zU,(D.list 1 (some 1) [(D.v (.int .u8 (5 : Int))),(D.v (.int .u32 (2 : Int))),(D.v (.int .u32 (5 : Int))),(D.v (.int .u32 (29 : Int))),(D.v (.int .u32 (32 : Int))),zU,zU,zU,zU,zU,zU,zU,zU,zU,zU,zU,zU]),(D.list 0 (some 0) [])])])]
def Z15u : D := (D.mp [((D.agg [(D.v (.int .i64 (-1 : Int))),(D.v (.int .u8 (5 : Int))),(D.v (.int .u32 (2 : Int))),(D.v (.int .u32 (5 : Int))),(D.v (.int .u32 (29 : Int))),(D.v (.int .u32 (32 : Int))),zU,zU,zU,zU,zU,zU,zU,zU,zU,zU,zU,zU]),zI)])
def Z15v : List D := [(D.agg [(D.list 2 (some 2) [(D.v (.int .i64 (-1 : Int))),(D.v (.int .u8 (5 : Int))),(D.v (.int .u32 (2 : Int))),(D.v (.int .u32 (5 : Int))),(D.v (.int .u32 (29 : Int))),(D.v (.int .u32 (32 : Int))),zU,zU,zU,zU,zU,zU,zU,zU,zU,zU,zU,zU,(D.list 1 (some 1) [(D.v (.int .u8 (5 : Int))),(D.v (.int .u32 (2 : Int))),(D.v (.int .u32 (5 : Int))),(D.v (.int .u32 (29 : Int))),(D.v (.int .u32 (32 : Int))),zU,zU,zU,zU,zU,zU,zU,zU,zU,zU,zU,zU]),(D.list 0 (some 0) []),zI,(D.v (.int .u8 (3 : Int))),(D.v (.int .u32 (1 : Int))),(D.v (.int .u32 (2 : Int))),(D.v (.int .u32 (3 : Int))),zU,zU,zU,zU,zU,zU,zU,zU,zU,zU,zU,zU,zU,(D.list 2 (some 2) [(D.v (.int .u8 (3 : Int))),(D.v (.int .u32 (1 : Int))),(D.v (.int .u32 (2 : Int))),(D.v (.int .u32 (4 : Int))),zU,zU,zU,zU,zU,zU,zU,zU,zU,zU,zU,zU,zU,(D.v (.int .u8 (3 : Int))),(D.v (.int .u32 (1 : Int))),(D.v (.int .u32 (2 : Int))),(D.v (.int .u32 (5 : Int))),zU,zU,zU,zU,zU,zU,zU,zU,zU,zU,zU,zU,zU]),(D.list 0 (some 0) [])])])]
def Z15w : D := (D.mp [((D.agg [(D.v (.int .i64 (-1 : Int))),(D.v (.int .u8 (5 : Int))),(D.v (.int .u32 (2 : Int))),(D.v (.int .u32 (5 : Int))),(D.v (.int .u32 (29 : Int))),(D.v (.int .u32 (32 : Int))),zU,zU,zU,zU,zU,zU,zU,zU,zU,zU,zU,zU]),zI),((D.agg [zI,(D.v (.int .u8 (3 : Int))),(D.v (.int .u32 (1 : Int))),(D.v (.int .u32 (2 : Int))),(D.v (.int .u32 (3 : Int))),zU,zU,zU,zU,zU,zU,zU,zU,zU,zU,zU,zU,zU]),(D.v (.int .i64 (1 : Int))))])
def Z15x : List D := [(D.agg [(D.list 3 (some 3) [(D.v (.int .i64 (-1 : Int))),(D.v (.int .u8 (5 : Int))),(D.v (.int .u32 (2 : Int))),(D.v (.int .u32 (5 : Int))),(D.v (.int .u32 (29 : Int))),(D.v (.int .u32 (32 : Int))),zU,zU,zU,zU,zU,zU,zU,zU,zU,zU,zU,zU,(D.list 1 (some 1) [(D.v (.int .u8 (5 : Int))),(D.v (.int .u32 (2 : Int))),(D.v (.int .u32 (5 : Int))),(D.v (.int .u32 (29 : Int))),(D.v (.int .u32 (32 : Int))),zU,zU,zU,zU,zU,zU,zU,zU,zU,zU,zU,zU]),(D.list 0 (some 0) []),zI,(D.v (.int .u8 (3 : Int))),(D.v (.int .u32 (1 : Int))),(D.v (.int .u32 (2 : Int))),(D.v (.int .u32 (3 : Int))),zU,zU,zU,zU,zU,zU,zU,zU,zU,zU,zU,zU,zU,(D.list 2 (some 2) [(D.v (.int .u8 (3 : Int))),(D.v (.int .u32 (1 : Int))),(D.v (.int .u32 (2 : Int))),(D.v (.int .u32 (4 : Int))),zU,zU,zU,zU,zU,zU,zU,zU,zU,zU,zU,zU,zU,(D.v (.int .u8 (3 : Int))),(D.v (.int .u32 (1 : Int))),(D.v (.int .u32 (2 : Int))),(D.v (.int .u32 (5 : Int))),zU,zU,zU,zU,zU,zU,zU,zU,zU,zU,zU,zU,zU]),(D.list 0 (some 0) []),zI,(D.v (.int .u8 (5 : Int))),(D.v (.int .u32 (2 : Int))),(D.v (.int .u32 (5 : Int))),(D.v (.int .u32 (29 : Int))),(D.v (.int .u32 (32 : Int))),zU,zU,zU,zU,zU,zU,zU,zU,zU,zU,zU,zU,(D.list 1 (some 1) [(D.v (.int .u8 (5 : Int))),(D.v (.int .u32 (2 : Int))),(D.v (.int .u32 (5 : Int))),(D.v (.int .u32 (29 : Int))),(D.v (.int .u32 (32 : Int))),zU,zU,zU,zU,zU,zU,zU,zU,zU,zU,zU,zU]),(D.list 0 (some 0) [])])])]
def Z15y : D := (D.mp [((D.agg [(D.v (.int .i64 (-1 : Int))),(D.v (.int .u8 (5 : Int))),(D.v (.int .u32 (2 : Int))),(D.v (.int .u32 (5 : Int))),(D.v (.int .u32 (29 : Int))),(D.v (.int .u32 (32 : Int))),zU,zU,zU,zU,zU,zU,zU,zU,zU,zU,zU,zU]),zI),((D.agg [zI,(D.v (.int .u8 (3 : Int))),(D.v (.int .u32 (1 : Int))),(D.v (.int .u32 (2 : Int))),(D.v (.int .u32 (3 : Int))),zU,zU,zU,zU,zU,zU,zU,zU,zU,zU,zU,zU,zU]),(D.v (.int .i64 (1 : Int)))),((D.agg [zI,(D.v (.int .u8 (5 : Int))),(D.v (.int .u32 (2 : Int))),(D.v (.int .u32 (5 : Int))),(D.v (.int .u32 (29 : Int))),(D.v (.int .u32 (32 : Int))),zU,zU,zU,zU,zU,zU,zU,zU,zU,zU,zU,zU]),(D.v (.int .i64 (2 : Int))))])
def Z15z : List D := [(D.agg [(D.list 4 (some 4) [(D.v (.int .i64 (-1 : Int))),(D.v (.int .u8 (5 : Int))),(D.v (.int .u32 (2 : Int))),(D.v (.int .u32 (5 : Int))),(D.v (.int .u32 (29 : Int))),(D.v (.int .u32 (32 : Int))),zU,zU,zU,zU,zU,zU,zU,zU,zU,zU,zU,zU,(D.list 1 (some 1) [(D.v (.int .u8 (5 : Int))),(D.v (.int .u32 (2 : Int))),(D.v (.int .u32 (5 : Int))),(D.v (.int .u32 (29 : Int))),(D.v (.int .u32 (32 : Int))),zU,zU,zU,zU,zU,zU,zU,zU,zU,zU,zU,zU]),(D.list 0 (some 0) []),zI,(D.v (.int .u8 (3 : Int))),(D.v (.int .u32 (1 : Int))),(D.v (.int .u32 (2 : Int))),(D.v (.int .u32 (3 : Int))),zU,zU,zU,zU,zU,zU,zU,zU,zU,zU,zU,zU,zU,(D.list 2 (some 2) [(D.v (.int .u8 (3 : Int))),(D.v (.int .u32 (1 : Int))),(D.v (.int .u32 (2 : Int))),(D.v (.int .u32 (4 : Int))),zU,zU,zU,zU,zU,zU,zU,zU,zU,zU,zU,zU,zU,(D.v (.int .u8 (3 : Int))),(D.v (.int .u32 (1 : Int))),(D.v (.int .u32 (2 : Int))),(D.v (.int .u32 (5 : Int))),zU,zU,zU,zU,zU,zU,zU,zU,zU,zU,zU,zU,zU]),(D.list 0 (some 0) []),zI,(D.v (.int .u8 (5 : Int))),(D.v (.int .u32 (2 : Int))),(D.v (.int .u32 (5 : Int))),(D.v (.int .u32 (29 : Int))),(D.v (.int .u32 (32 : Int))),zU,zU,zU,zU,zU,zU,zU,zU,zU,zU,zU,zU,(D.list 1 (some 1) [(D.v (.int .u8 (5 : Int))),(D.v (.int .u32 (2 : Int))),(D.v (.int .u32 (5 : Int))),(D.v (.int .u32 (29 : Int))),(D.v (.int .u32 (32 : Int))),zU,zU,zU,zU,zU,zU,zU,zU,zU,zU,zU,zU]),(D.list 0 (some 0) []),(D.v (.int .i64 (1 : Int))),(D.v (.int .u8 (3 : Int))),(D.v (.int .u32 (1 : Int))),(D.v (.int .u32 (2 : Int))),(D.v (.int .u32 (4 : Int))),zU,zU,zU,zU,zU,zU,zU,zU,zU,zU,zU,zU,zU,(D.list 1 (some 1) [(D.v (.int .u8 (3 : Int))),(D.v (.int .u32 (1 : Int))),(D.v (.int .u32 (2 : Int))),(D.v (.int .u32 (4 : Int))),zU,zU,zU,zU,zU,zU,zU,zU,zU,zU,zU,zU,zU]),(D.list 0 (some 0) [])])])]
def Z160 : D := (D.mp [((D.agg [(D.v (.int .i64 (-1 : Int))),(D.v (.int .u8 (5 : Int))),(D.v (.int .u32 (2 : Int))),(D.v (.int .u32 (5 : Int))),(D.v (.int .u32 (29 : Int))),(D.v (.int .u32 (32 : Int))),zU,zU,zU,zU,zU,zU,zU,zU,zU,zU,zU,zU]),zI),((D.agg [zI,(D.v (.int .u8 (3 : Int))),(D.v (.int .u32 (1 : Int))),(D.v (.int .u32 (2 : Int))),(D.v (.int .u32 (3 : Int))),zU,zU,zU,zU,zU,zU,zU,zU,zU,zU,zU,zU,zU]),(D.v (.int .i64 (1 : Int)))),((D.agg [zI,(D.v (.int .u8 (5 : Int))),(D.v (.int .u32 (2 : Int))),(D.v (.int .u32 (5 : Int))),(D.v (.int .u32 (29 : Int))),(D.v (.int .u32 (32 : Int))),zU,zU,zU,zU,zU,zU,zU,zU,zU,zU,zU,zU]),(D.v (.int .i64 (2 : Int)))),((D.agg [(D.v (.int .i64 (1 : Int))),(D.v (.int .u8 (3 : Int))),(D.v (.int .u32 (1 : Int))),(D.v (.int .u32 (2 : Int))),(D.v (.int .u32 (4 : Int))),zU,zU,zU,zU,zU,zU,zU,zU,zU,zU,zU,zU,zU]),(D.v (.int .i64 (3 : Int))))])
def Z161 : List D := [(D.agg [(D.list 5 (some 5) [(D.v (.int .i64 (-1 : Int))),(D.v (.int .u8 (5 : Int))),(D.v (.int .u32 (2 : Int))),(D.v (.int .u32 (5 : Int))),(D.v (.int .u32 (29 : Int))),(D.v (.int .u32 (32 : Int))),zU,zU,zU,zU,zU,zU,zU,zU,zU,zU,zU,zU,(D.list 1 (some 1) [(D.v (.int .u8 (5 : Int))),(D.v (.int .u32 (2 : Int))),(D.v (.int .u32 (5 : Int))),(D.v (.int .u32 (29 : Int))),(D.v (.int .u32 (32 : Int))),zU,zU,zU,zU,zU,zU,zU,zU,zU,zU,zU,zU]),(D.list 0 (some 0) []),zI,(D.v (.int .u8 (3 : Int))),(D.v (.int .u32 (1 : Int))),(D.v (.int .u32 (2 : Int))),(D.v (.int .u32 (3 : Int))),zU,zU,zU,zU,zU,zU,zU,zU,zU,zU,zU,zU,zU,(D.list 2 (some 2) [(D.v (.int .u8 (3 : Int))),(D.v (.int .u32 (1 : Int))),(D.v (.int .u32 (2 : Int))),(D.v (.int .u32 (4 : Int))),zU,zU,zU,zU,zU,zU,zU,zU,zU,zU,zU,zU,zU,(D.v (.int .u8 (3 : Int))),(D.v (.int .u32 (1 : Int))),(D.v (.int .u32 (2 : Int))),(D.v (.int .u32 (5 : Int))),zU,zU,zU,zU,zU,zU,zU,zU,zU,zU,zU,zU,zU]),(D.list 0 (some 0) []),zI,(D.v (.int .u8 (5 : Int))),(D.v (.int .u32 (2 : Int))),(D.v (.int .u32 (5 : Int))),(D.v (.int .u32 (29 : Int))),(D.v (.int .u32 (32 : Int))),zU,zU,zU,zU,zU,zU,zU,zU,zU,zU,zU,zU,(D.list 1 (some 1) [(D.v (.int .u8 (5 : Int))),(D.v (.int .u32 (2 : Int))),(D.v (.int .u32 (5 : Int))),(D.v (.int .u32 (29 : Int))),(D.v (.int .u32 (32 : Int))),zU,zU,zU,zU,zU,zU,zU,zU,zU,zU,zU,zU]),(D.list 0 (some 0) []),(D.v (.int .i64 (1 : Int))),(D.v (.int .u8 (3 : Int))),(D.v (.int .u32 (1 : Int))),(D.v (.int .u32 (2 : Int))),(D.v (.int .u32 (4 : Int))),zU,zU,zU,zU,zU,zU,zU,zU,zU,zU,zU,zU,zU,(D.list 1 (some 1) [(D.v (.int .u8 (3 : Int))),(D.v (.int .u32 (1 : Int))),(D.v (.int .u32 (2 : Int))),(D.v (.int .u32 (4 : Int))),zU,zU,zU,zU,zU,zU,zU,zU,zU,zU,zU,zU,zU]),(D.list 0 (some 0) []),(D.v (.int .i64 (1 : Int))),(D.v (.int .u8 (3 : Int))),(D.v (.int .u32 (1 : Int))),(D.v (.int .u32 (2 : Int))),(D.v (.int .u32 (5 : Int))),zU,zU,zU,zU,zU,zU,zU,zU,zU,zU,zU,zU,zU,(D.list 1 (some 1) [(D.v (.int .u8 (3 : Int))),(D.v (.int .u32 (1 : Int))),(D.v (.int .u32 (2 : Int))),(D.v (.int .u32 (5 : Int))),zU,zU,zU,zU,zU,zU,zU,zU,zU,zU,zU,zU,zU]),(D.list 0 (some 0) [])])])]
def Z162 : D := (D.mp [((D.agg [(D.v (.int .i64 (-1 : Int))),(D.v (.int .u8 (5 : Int))),(D.v (.int .u32 (2 : Int))),(D.v (.int .u32 (5 : Int))),(D.v (.int .u32 (29 : Int))),(D.v (.int .u32 (32 : Int))),zU,zU,zU,zU,zU,zU,zU,zU,zU,zU,zU,zU]),zI),((D.agg [zI,(D.v (.int .u8 (3 : Int))),(D.v (.int .u32 (1 : Int))),(D.v (.int .u32 (2 : Int))),(D.v (.int .u32 (3 : Int))),zU,zU,zU,zU,zU,zU,zU,zU,zU,zU,zU,zU,zU]),(D.v (.int .i64 (1 : Int)))),((D.agg [zI,(D.v (.int .u8 (5 : Int))),(D.v (.int .u32 (2 : Int))),(D.v (.int .u32 (5 : Int))),(D.v (.int .u32 (29 : Int))),(D.v (.int .u32 (32 : Int))),zU,zU,zU,zU,zU,zU,zU,zU,zU,zU,zU,zU]),(D.v (.int .i64 (2 : Int)))),((D.agg [(D.v (.int .i64 (1 : Int))),(D.v (.int .u8 (3 : Int))),(D.v (.int .u32 (1 : Int))),(D.v (.int .u32 (2 : Int))),(D.v (.int .u32 (4 : Int))),zU,zU,zU,zU,zU,zU,zU,zU,zU,zU,zU,zU,zU]),(D.v (.int .i64 (3 : Int)))),((D.agg [(D.v (.int .i64 (1 : Int))),(D.v (.int .u8 (3 : Int))),(D.v (.int .u32 (1 : Int))),(D.v (.int .u32 (2 : Int))),(D.v (.int .u32 (5 : Int))),zU,zU,zU,zU,zU,zU,zU,zU,zU,zU,zU,zU,zU]),(D.v (.int .i64 (4 : Int))))])
theorem Z1kc : funD Tg Z84 100000 60 Z2e Tryz.f47 Z15t = some Z15u := by kernel_rfl
theorem Z1kd : funD Tg Z84 100000 60 Z2e Tryz.f47 Z15v = some Z15w := by kernel_rfl
theorem Z1ke : funD Tg Z84 100000 60 Z2e Tryz.f47 Z15x = some Z15y := by kernel_rfl
theorem Z1kf : funD Tg Z84 100000 60 Z2e Tryz.f47 Z15z = some Z160 := by kernel_rfl
theorem Z1kg : funD Tg Z84 100000 60 Z2e Tryz.f47 Z161 = some Z162 := by kernel_rfl
def Zrw (ds : List D) : Option D := if isT Z15t ds then some Z15u else (if isT Z15v ds then some Z15w else (if isT Z15x ds then some Z15y else (if isT Z15z ds then some Z160 else (if isT Z161 ds then some Z162 else (none)))))
theorem td_trees_edges : ∀ ds d,Zrw ds = some d → DataSem Tg 47 ds d := by
 intro ds d h
 unfold Zrw at h
 split at h
 ·rename_i ha; obtain rfl := isT_eq ha; cases h; exact Z85 Z1kc
 split at h
 ·rename_i ha; obtain rfl := isT_eq ha; cases h; exact Z85 Z1kd
 split at h
 ·rename_i ha; obtain rfl := isT_eq ha; cases h; exact Z85 Z1ke
 split at h
 ·rename_i ha; obtain rfl := isT_eq ha; cases h; exact Z85 Z1kf
 split at h
 ·rename_i ha; obtain rfl := isT_eq ha; cases h; exact Z85 Z1kg
 cases h
def Z8d : FnH := ⟨[(7,⟨(bm 3670400 39),[(19,17)],none⟩)],[]⟩
theorem Zhq : Enters Tg 13 := ⟨Tryz.f13,Tryz.func13,by kernel_rfl,by kernel_rfl⟩
noncomputable def Z10t : Hints := ⟨[(41,Zjj),(47,Zrw)],[(13,Tryz.f13,Z8d)],[203,205,206,208,148]⟩
theorem Z1fx {m n : Nat} {ds : List D} {d : D} (h : funD Tg Z10t m n Z8d Tryz.f13 ds = some d) : DataSem Tg 13 ds d := Z5 (H := Z10t) (SpOk.cons td_trees_Check (SpOk.cons td_trees_edges SpOk.nil)) mixed (InlOk.cons Tryz.func13 Zhq InlOk.nil) Tryz.func13 Zhq h
def Z18q : List D := [(D.agg [(D.list 5 (some 5) [(D.v (.int .i64 (-1 : Int))),(D.v (.int .u8 (5 : Int))),(D.v (.int .u32 (2 : Int))),(D.v (.int .u32 (5 : Int))),(D.v (.int .u32 (29 : Int))),(D.v (.int .u32 (32 : Int))),zU,zU,zU,zU,zU,zU,zU,zU,zU,zU,zU,zU,(D.list 1 (some 1) [(D.v (.int .u8 (5 : Int))),(D.v (.int .u32 (2 : Int))),(D.v (.int .u32 (5 : Int))),(D.v (.int .u32 (29 : Int))),(D.v (.int .u32 (32 : Int))),zU,zU,zU,zU,zU,zU,zU,zU,zU,zU,zU,zU]),(D.list 0 (some 0) []),zI,(D.v (.int .u8 (3 : Int))),(D.v (.int .u32 (1 : Int))),(D.v (.int .u32 (2 : Int))),(D.v (.int .u32 (3 : Int))),zU,zU,zU,zU,zU,zU,zU,zU,zU,zU,zU,zU,zU,(D.list 2 (some 2) [(D.v (.int .u8 (3 : Int))),(D.v (.int .u32 (1 : Int))),(D.v (.int .u32 (2 : Int))),(D.v (.int .u32 (4 : Int))),zU,zU,zU,zU,zU,zU,zU,zU,zU,zU,zU,zU,zU,(D.v (.int .u8 (3 : Int))),(D.v (.int .u32 (1 : Int))),(D.v (.int .u32 (2 : Int))),(D.v (.int .u32 (5 : Int))),zU,zU,zU,zU,zU,zU,zU,zU,zU,zU,zU,zU,zU]),(D.list 0 (some 0) []),zI,(D.v (.int .u8 (5 : Int))),(D.v (.int .u32 (2 : Int))),(D.v (.int .u32 (5 : Int))),(D.v (.int .u32 (29 : Int))),(D.v (.int .u32 (32 : Int))),zU,zU,zU,zU,zU,zU,zU,zU,zU,zU,zU,zU,(D.list 1 (some 1) [(D.v (.int .u8 (5 : Int))),(D.v (.int .u32 (2 : Int))),(D.v (.int .u32 (5 : Int))),(D.v (.int .u32 (29 : Int))),(D.v (.int .u32 (32 : Int))),zU,zU,zU,zU,zU,zU,zU,zU,zU,zU,zU,zU]),(D.list 0 (some 0) []),(D.v (.int .i64 (1 : Int))),(D.v (.int .u8 (3 : Int))),(D.v (.int .u32 (1 : Int))),(D.v (.int .u32 (2 : Int))),(D.v (.int .u32 (4 : Int))),zU,zU,zU,zU,zU,zU,zU,zU,zU,zU,zU,zU,zU,(D.list 1 (some 1) [(D.v (.int .u8 (3 : Int))),(D.v (.int .u32 (1 : Int))),(D.v (.int .u32 (2 : Int))),(D.v (.int .u32 (4 : Int))),zU,zU,zU,zU,zU,zU,zU,zU,zU,zU,zU,zU,zU]),(D.list 0 (some 0) []),(D.v (.int .i64 (1 : Int))),(D.v (.int .u8 (3 : Int))),(D.v (.int .u32 (1 : Int))),(D.v (.int .u32 (2 : Int))),(D.v (.int .u32 (5 : Int))),zU,zU,zU,zU,zU,zU,zU,zU,zU,zU,zU,zU,zU,(D.list 1 (some 1) [(D.v (.int .u8 (3 : Int))),(D.v (.int .u32 (1 : Int))),(D.v (.int .u32 (2 : Int))),(D.v (.int .u32 (5 : Int))),zU,zU,zU,zU,zU,zU,zU,zU,zU,zU,zU,zU,zU]),(D.list 0 (some 0) [])])]),(D.list 3 (some 3) [(D.v (.int .u8 (5 : Int))),(D.v (.int .u32 (2 : Int))),(D.v (.int .u32 (5 : Int))),(D.v (.int .u32 (29 : Int))),(D.v (.int .u32 (32 : Int))),zU,zU,zU,zU,zU,zU,zU,zU,zU,zU,zU,zU,(D.v (.int .u8 (3 : Int))),(D.v (.int .u32 (1 : Int))),(D.v (.int .u32 (2 : Int))),(D.v (.int .u32 (3 : Int))),zU,zU,zU,zU,zU,zU,zU,zU,zU,zU,zU,zU,zU,(D.v (.int .u8 (3 : Int))),(D.v (.int .u32 (1 : Int))),(D.v (.int .u32 (2 : Int))),(D.v (.int .u32 (5 : Int))),zU,zU,zU,zU,zU,zU,zU,zU,zU,zU,zU,zU,zU])]
def Z18r : D := (D.tup [(D.v (.int .i64 (4 : Int))),zI])
theorem Z1nr : funD Tg Z10t 100000 60 Z8d Tryz.f13 Z18q = some Z18r := by kernel_rfl
def Z14b (ds : List D) : Option D := if isT Z18q ds then some Z18r else (none)
theorem td_trees_Find : ∀ ds d,Z14b ds = some d → DataSem Tg 13 ds d := by
 intro ds d h
 unfold Z14b at h
 split at h
 ·rename_i ha; obtain rfl := isT_eq ha; cases h; exact Z1fx Z1nr
 cases h
def Z4l : FnH := ⟨[],[]⟩
theorem Zhr : Enters Tg 48 := ⟨Tryz.f48,Tryz.func48,by kernel_rfl,by kernel_rfl⟩
noncomputable def Zjk : Hints := ⟨[(50,Z8j)],[(48,Tryz.f48,Z4l)],[203,205,206,208,148]⟩
theorem Zoz {m n : Nat} {ds : List D} {d : D} (h : funD Tg Zjk m n Z4l Tryz.f48 ds = some d) : DataSem Tg 48 ds d := Z5 (H := Zjk) (SpOk.cons td_trees_examine SpOk.nil) mixed (InlOk.cons Tryz.func48 Zhr InlOk.nil) Tryz.func48 Zhr h
def Z18s : List D := [(D.agg [(D.list 5 (some 5) [(D.v (.int .i64 (-1 : Int))),(D.v (.int .u8 (5 : Int))),(D.v (.int .u32 (2 : Int))),(D.v (.int .u32 (5 : Int))),(D.v (.int .u32 (29 : Int))),(D.v (.int .u32 (32 : Int))),zU,zU,zU,zU,zU,zU,zU,zU,zU,zU,zU,zU,(D.list 1 (some 1) [(D.v (.int .u8 (5 : Int))),(D.v (.int .u32 (2 : Int))),(D.v (.int .u32 (5 : Int))),(D.v (.int .u32 (29 : Int))),(D.v (.int .u32 (32 : Int))),zU,zU,zU,zU,zU,zU,zU,zU,zU,zU,zU,zU]),(D.list 0 (some 0) []),zI,(D.v (.int .u8 (3 : Int))),(D.v (.int .u32 (1 : Int))),(D.v (.int .u32 (2 : Int))),(D.v (.int .u32 (3 : Int))),zU,zU,zU,zU,zU,zU,zU,zU,zU,zU,zU,zU,zU,(D.list 2 (some 2) [(D.v (.int .u8 (3 : Int))),(D.v (.int .u32 (1 : Int))),(D.v (.int .u32 (2 : Int))),(D.v (.int .u32 (4 : Int))),zU,zU,zU,zU,zU,zU,zU,zU,zU,zU,zU,zU,zU,(D.v (.int .u8 (3 : Int))),(D.v (.int .u32 (1 : Int))),(D.v (.int .u32 (2 : Int))),(D.v (.int .u32 (5 : Int))),zU,zU,zU,zU,zU,zU,zU,zU,zU,zU,zU,zU,zU]),(D.list 0 (some 0) []),zI,(D.v (.int .u8 (5 : Int))),(D.v (.int .u32 (2 : Int))),(D.v (.int .u32 (5 : Int))),(D.v (.int .u32 (29 : Int))),(D.v (.int .u32 (32 : Int))),zU,zU,zU,zU,zU,zU,zU,zU,zU,zU,zU,zU,(D.list 1 (some 1) [(D.v (.int .u8 (5 : Int))),(D.v (.int .u32 (2 : Int))),(D.v (.int .u32 (5 : Int))),(D.v (.int .u32 (29 : Int))),(D.v (.int .u32 (32 : Int))),zU,zU,zU,zU,zU,zU,zU,zU,zU,zU,zU,zU]),(D.list 0 (some 0) []),(D.v (.int .i64 (1 : Int))),(D.v (.int .u8 (3 : Int))),(D.v (.int .u32 (1 : Int))),(D.v (.int .u32 (2 : Int))),(D.v (.int .u32 (4 : Int))),zU,zU,zU,zU,zU,zU,zU,zU,zU,zU,zU,zU,zU,(D.list 1 (some 1) [(D.v (.int .u8 (3 : Int))),(D.v (.int .u32 (1 : Int))),(D.v (.int .u32 (2 : Int))),(D.v (.int .u32 (4 : Int))),zU,zU,zU,zU,zU,zU,zU,zU,zU,zU,zU,zU,zU]),(D.list 0 (some 0) []),(D.v (.int .i64 (1 : Int))),(D.v (.int .u8 (3 : Int))),(D.v (.int .u32 (1 : Int))),(D.v (.int .u32 (2 : Int))),(D.v (.int .u32 (5 : Int))),zU,zU,zU,zU,zU,zU,zU,zU,zU,zU,zU,zU,zU,(D.list 1 (some 1) [(D.v (.int .u8 (3 : Int))),(D.v (.int .u32 (1 : Int))),(D.v (.int .u32 (2 : Int))),(D.v (.int .u32 (5 : Int))),zU,zU,zU,zU,zU,zU,zU,zU,zU,zU,zU,zU,zU]),(D.list 0 (some 0) [])])]),(D.v (.int .i64 (4 : Int)))]
def Z18t : D := (D.tup [(D.list 5 (some 5) [zI,(D.v (.int .i64 (1 : Int))),(D.v (.int .i64 (1 : Int))),(D.v (.int .i64 (2 : Int))),(D.v (.int .i64 (2 : Int)))]),zI])
def Z18u : List D := [(D.agg [(D.list 5 (some 5) [(D.v (.int .i64 (-1 : Int))),(D.v (.int .u8 (5 : Int))),(D.v (.int .u32 (2 : Int))),(D.v (.int .u32 (5 : Int))),(D.v (.int .u32 (29 : Int))),(D.v (.int .u32 (32 : Int))),zU,zU,zU,zU,zU,zU,zU,zU,zU,zU,zU,zU,(D.list 1 (some 1) [(D.v (.int .u8 (5 : Int))),(D.v (.int .u32 (2 : Int))),(D.v (.int .u32 (5 : Int))),(D.v (.int .u32 (29 : Int))),(D.v (.int .u32 (32 : Int))),zU,zU,zU,zU,zU,zU,zU,zU,zU,zU,zU,zU]),(D.list 0 (some 0) []),zI,(D.v (.int .u8 (3 : Int))),(D.v (.int .u32 (1 : Int))),(D.v (.int .u32 (2 : Int))),(D.v (.int .u32 (3 : Int))),zU,zU,zU,zU,zU,zU,zU,zU,zU,zU,zU,zU,zU,(D.list 2 (some 2) [(D.v (.int .u8 (3 : Int))),(D.v (.int .u32 (1 : Int))),(D.v (.int .u32 (2 : Int))),(D.v (.int .u32 (4 : Int))),zU,zU,zU,zU,zU,zU,zU,zU,zU,zU,zU,zU,zU,(D.v (.int .u8 (3 : Int))),(D.v (.int .u32 (1 : Int))),(D.v (.int .u32 (2 : Int))),(D.v (.int .u32 (5 : Int))),zU,zU,zU,zU,zU,zU,zU,zU,zU,zU,zU,zU,zU]),(D.list 0 (some 0) []),zI,(D.v (.int .u8 (5 : Int))),(D.v (.int .u32 (2 : Int))),(D.v (.int .u32 (5 : Int))),(D.v (.int .u32 (29 : Int))),(D.v (.int .u32 (32 : Int))),zU,zU,zU,zU,zU,zU,zU,zU,zU,zU,zU,zU,(D.list 1 (some 1) [(D.v (.int .u8 (5 : Int))),(D.v (.int .u32 (2 : Int))),(D.v (.int .u32 (5 : Int))),(D.v (.int .u32 (29 : Int))),(D.v (.int .u32 (32 : Int))),zU,zU,zU,zU,zU,zU,zU,zU,zU,zU,zU,zU]),(D.list 0 (some 0) []),(D.v (.int .i64 (1 : Int))),(D.v (.int .u8 (3 : Int))),(D.v (.int .u32 (1 : Int))),(D.v (.int .u32 (2 : Int))),(D.v (.int .u32 (4 : Int))),zU,zU,zU,zU,zU,zU,zU,zU,zU,zU,zU,zU,zU,(D.list 1 (some 1) [(D.v (.int .u8 (3 : Int))),(D.v (.int .u32 (1 : Int))),(D.v (.int .u32 (2 : Int))),(D.v (.int .u32 (4 : Int))),zU,zU,zU,zU,zU,zU,zU,zU,zU,zU,zU,zU,zU]),(D.list 0 (some 0) []),(D.v (.int .i64 (1 : Int))),(D.v (.int .u8 (3 : Int))),(D.v (.int .u32 (1 : Int))),(D.v (.int .u32 (2 : Int))),(D.v (.int .u32 (5 : Int))),zU,zU,zU,zU,zU,zU,zU,zU,zU,zU,zU,zU,zU,(D.list 1 (some 1) [(D.v (.int .u8 (3 : Int))),(D.v (.int .u32 (1 : Int))),(D.v (.int .u32 (2 : Int))),(D.v (.int .u32 (5 : Int))),zU,zU,zU,zU,zU,zU,zU,zU,zU,zU,zU,zU,zU]),(D.list 0 (some 0) [])])]),(D.v (.int .i64 (1 : Int)))]
def Z18v : D := (D.tup [(D.list 5 (some 5) [zI,(D.v (.int .i64 (1 : Int))),(D.v (.int .i64 (1 : Int))),(D.v (.int .i64 (2 : Int))),(D.v (.int .i64 (2 : Int)))]),zI])
def Z18w : List D := [(D.agg [(D.list 5 (some 5) [(D.v (.int .i64 (-1 : Int))),(D.v (.int .u8 (5 : Int))),(D.v (.int .u32 (2 : Int))),(D.v (.int .u32 (5 : Int))),(D.v (.int .u32 (29 : Int))),(D.v (.int .u32 (32 : Int))),zU,zU,zU,zU,zU,zU,zU,zU,zU,zU,zU,zU,(D.list 1 (some 1) [(D.v (.int .u8 (5 : Int))),(D.v (.int .u32 (2 : Int))),(D.v (.int .u32 (5 : Int))),(D.v (.int .u32 (29 : Int))),(D.v (.int .u32 (32 : Int))),zU,zU,zU,zU,zU,zU,zU,zU,zU,zU,zU,zU]),(D.list 0 (some 0) []),zI,(D.v (.int .u8 (3 : Int))),(D.v (.int .u32 (1 : Int))),(D.v (.int .u32 (2 : Int))),(D.v (.int .u32 (3 : Int))),zU,zU,zU,zU,zU,zU,zU,zU,zU,zU,zU,zU,zU,(D.list 2 (some 2) [(D.v (.int .u8 (3 : Int))),(D.v (.int .u32 (1 : Int))),(D.v (.int .u32 (2 : Int))),(D.v (.int .u32 (4 : Int))),zU,zU,zU,zU,zU,zU,zU,zU,zU,zU,zU,zU,zU,(D.v (.int .u8 (3 : Int))),(D.v (.int .u32 (1 : Int))),(D.v (.int .u32 (2 : Int))),(D.v (.int .u32 (5 : Int))),zU,zU,zU,zU,zU,zU,zU,zU,zU,zU,zU,zU,zU]),(D.list 0 (some 0) []),zI,(D.v (.int .u8 (5 : Int))),(D.v (.int .u32 (2 : Int))),(D.v (.int .u32 (5 : Int))),(D.v (.int .u32 (29 : Int))),(D.v (.int .u32 (32 : Int))),zU,zU,zU,zU,zU,zU,zU,zU,zU,zU,zU,zU,(D.list 1 (some 1) [(D.v (.int .u8 (5 : Int))),(D.v (.int .u32 (2 : Int))),(D.v (.int .u32 (5 : Int))),(D.v (.int .u32 (29 : Int))),(D.v (.int .u32 (32 : Int))),zU,zU,zU,zU,zU,zU,zU,zU,zU,zU,zU,zU]),(D.list 0 (some 0) []),(D.v (.int .i64 (1 : Int))),(D.v (.int .u8 (3 : Int))),(D.v (.int .u32 (1 : Int))),(D.v (.int .u32 (2 : Int))),(D.v (.int .u32 (4 : Int))),zU,zU,zU,zU,zU,zU,zU,zU,zU,zU,zU,zU,zU,(D.list 1 (some 1) [(D.v (.int .u8 (3 : Int))),(D.v (.int .u32 (1 : Int))),(D.v (.int .u32 (2 : Int))),(D.v (.int .u32 (4 : Int))),zU,zU,zU,zU,zU,zU,zU,zU,zU,zU,zU,zU,zU]),(D.list 0 (some 0) []),(D.v (.int .i64 (1 : Int))),(D.v (.int .u8 (3 : Int))),(D.v (.int .u32 (1 : Int))),(D.v (.int .u32 (2 : Int))),(D.v (.int .u32 (5 : Int))),zU,zU,zU,zU,zU,zU,zU,zU,zU,zU,zU,zU,zU,(D.list 1 (some 1) [(D.v (.int .u8 (3 : Int))),(D.v (.int .u32 (1 : Int))),(D.v (.int .u32 (2 : Int))),(D.v (.int .u32 (5 : Int))),zU,zU,zU,zU,zU,zU,zU,zU,zU,zU,zU,zU,zU]),(D.list 0 (some 0) [])])]),(D.v (.int .i64 (2 : Int)))]
def Z18x : D := (D.tup [(D.list 5 (some 5) [zI,(D.v (.int .i64 (1 : Int))),(D.v (.int .i64 (1 : Int))),(D.v (.int .i64 (2 : Int))),(D.v (.int .i64 (2 : Int)))]),zI])
theorem Z1ns : funD Tg Zjk 100000 60 Z4l Tryz.f48 Z18s = some Z18t := by kernel_rfl
theorem Z1nt : funD Tg Zjk 100000 60 Z4l Tryz.f48 Z18u = some Z18v := by kernel_rfl
theorem Z1nu : funD Tg Zjk 100000 60 Z4l Tryz.f48 Z18w = some Z18x := by kernel_rfl
def Zw3 (ds : List D) : Option D := if isT Z18s ds then some Z18t else (if isT Z18u ds then some Z18v else (if isT Z18w ds then some Z18x else (none)))
theorem td_trees_node : ∀ ds d,Zw3 ds = some d → DataSem Tg 48 ds d := by
 intro ds d h
 unfold Zw3 at h
 split at h
 ·rename_i ha; obtain rfl := isT_eq ha; cases h; exact Zoz Z1ns
 split at h
 ·rename_i ha; obtain rfl := isT_eq ha; cases h; exact Zoz Z1nt
 split at h
 ·rename_i ha; obtain rfl := isT_eq ha; cases h; exact Zoz Z1nu
 cases h
def Z2g : FnH := ⟨[],[]⟩
theorem Z7j : Enters Tg 49 := ⟨Tryz.f49,Tryz.func49,by kernel_rfl,by kernel_rfl⟩
noncomputable def Z86 : Hints := ⟨[],[(49,Tryz.f49,Z2g)],[203,205,206,208,148]⟩
theorem Zbo {m n : Nat} {ds : List D} {d : D} (h : funD Tg Z86 m n Z2g Tryz.f49 ds = some d) : DataSem Tg 49 ds d := Z5 (H := Z86) SpOk.nil mixed (InlOk.cons Tryz.func49 Z7j InlOk.nil) Tryz.func49 Z7j h
def Zuj : List D := [(D.list 2 none [(D.v (.int .i64 (1 : Int))),(D.v (.int .i64 (2 : Int)))])]
def Zuk : D := (D.list 2 (some 2) [(D.v (.int .i64 (1 : Int))),(D.v (.int .i64 (2 : Int)))])
def Zul : List D := [(D.list 2 none [(D.v (.int .i64 (3 : Int))),(D.v (.int .i64 (4 : Int)))])]
def Zum : D := (D.list 2 (some 2) [(D.v (.int .i64 (3 : Int))),(D.v (.int .i64 (4 : Int)))])
def Zun : List D := [(D.list 0 none [])]
def Zuo : D := (D.list 0 (some 0) [])
theorem Z1an : funD Tg Z86 100000 60 Z2g Tryz.f49 Zuj = some Zuk := by kernel_rfl
theorem Z1ao : funD Tg Z86 100000 60 Z2g Tryz.f49 Zul = some Zum := by kernel_rfl
theorem Z1ap : funD Tg Z86 100000 60 Z2g Tryz.f49 Zun = some Zuo := by kernel_rfl
def Zdh (ds : List D) : Option D := if isT Zuj ds then some Zuk else (if isT Zul ds then some Zum else (if isT Zun ds then some Zuo else (none)))
theorem td_trees_clone_int : ∀ ds d,Zdh ds = some d → DataSem Tg 49 ds d := by
 intro ds d h
 unfold Zdh at h
 split at h
 ·rename_i ha; obtain rfl := isT_eq ha; cases h; exact Zbo Z1an
 split at h
 ·rename_i ha; obtain rfl := isT_eq ha; cases h; exact Zbo Z1ao
 split at h
 ·rename_i ha; obtain rfl := isT_eq ha; cases h; exact Zbo Z1ap
 cases h
def Z3j : FnH := ⟨[(6,⟨(bm 14680322 39),[(8,1),(21,20)],none⟩)],[]⟩
theorem Z8b : Enters Tg 17 := ⟨Tryz.f17,Tryz.func17,by kernel_rfl,by kernel_rfl⟩
noncomputable def Zdi : Hints := ⟨[(48,Zw3),(49,Zdh)],[(17,Tryz.f17,Z3j)],[203,205,206,208,148]⟩
theorem Zq9 {m n : Nat} {ds : List D} {d : D} (h : funD Tg Zdi m n Z3j Tryz.f17 ds = some d) : DataSem Tg 17 ds d := Z5 (H := Zdi) (SpOk.cons td_trees_node (SpOk.cons td_trees_clone_int SpOk.nil)) mixed (InlOk.cons Tryz.func17 Z8b InlOk.nil) Tryz.func17 Z8b h
def Zxk : List D := [(D.agg [(D.list 5 (some 5) [(D.v (.int .i64 (-1 : Int))),(D.v (.int .u8 (5 : Int))),(D.v (.int .u32 (2 : Int))),(D.v (.int .u32 (5 : Int))),(D.v (.int .u32 (29 : Int))),(D.v (.int .u32 (32 : Int))),zU,zU,zU,zU,zU,zU,zU,zU,zU,zU,zU,zU,(D.list 1 (some 1) [(D.v (.int .u8 (5 : Int))),(D.v (.int .u32 (2 : Int))),(D.v (.int .u32 (5 : Int))),(D.v (.int .u32 (29 : Int))),(D.v (.int .u32 (32 : Int))),zU,zU,zU,zU,zU,zU,zU,zU,zU,zU,zU,zU]),(D.list 0 (some 0) []),zI,(D.v (.int .u8 (3 : Int))),(D.v (.int .u32 (1 : Int))),(D.v (.int .u32 (2 : Int))),(D.v (.int .u32 (3 : Int))),zU,zU,zU,zU,zU,zU,zU,zU,zU,zU,zU,zU,zU,(D.list 2 (some 2) [(D.v (.int .u8 (3 : Int))),(D.v (.int .u32 (1 : Int))),(D.v (.int .u32 (2 : Int))),(D.v (.int .u32 (4 : Int))),zU,zU,zU,zU,zU,zU,zU,zU,zU,zU,zU,zU,zU,(D.v (.int .u8 (3 : Int))),(D.v (.int .u32 (1 : Int))),(D.v (.int .u32 (2 : Int))),(D.v (.int .u32 (5 : Int))),zU,zU,zU,zU,zU,zU,zU,zU,zU,zU,zU,zU,zU]),(D.list 0 (some 0) []),zI,(D.v (.int .u8 (5 : Int))),(D.v (.int .u32 (2 : Int))),(D.v (.int .u32 (5 : Int))),(D.v (.int .u32 (29 : Int))),(D.v (.int .u32 (32 : Int))),zU,zU,zU,zU,zU,zU,zU,zU,zU,zU,zU,zU,(D.list 1 (some 1) [(D.v (.int .u8 (5 : Int))),(D.v (.int .u32 (2 : Int))),(D.v (.int .u32 (5 : Int))),(D.v (.int .u32 (29 : Int))),(D.v (.int .u32 (32 : Int))),zU,zU,zU,zU,zU,zU,zU,zU,zU,zU,zU,zU]),(D.list 0 (some 0) []),(D.v (.int .i64 (1 : Int))),(D.v (.int .u8 (3 : Int))),(D.v (.int .u32 (1 : Int))),(D.v (.int .u32 (2 : Int))),(D.v (.int .u32 (4 : Int))),zU,zU,zU,zU,zU,zU,zU,zU,zU,zU,zU,zU,zU,(D.list 1 (some 1) [(D.v (.int .u8 (3 : Int))),(D.v (.int .u32 (1 : Int))),(D.v (.int .u32 (2 : Int))),(D.v (.int .u32 (4 : Int))),zU,zU,zU,zU,zU,zU,zU,zU,zU,zU,zU,zU,zU]),(D.list 0 (some 0) []),(D.v (.int .i64 (1 : Int))),(D.v (.int .u8 (3 : Int))),(D.v (.int .u32 (1 : Int))),(D.v (.int .u32 (2 : Int))),(D.v (.int .u32 (5 : Int))),zU,zU,zU,zU,zU,zU,zU,zU,zU,zU,zU,zU,zU,(D.list 1 (some 1) [(D.v (.int .u8 (3 : Int))),(D.v (.int .u32 (1 : Int))),(D.v (.int .u32 (2 : Int))),(D.v (.int .u32 (5 : Int))),zU,zU,zU,zU,zU,zU,zU,zU,zU,zU,zU,zU,zU]),(D.list 0 (some 0) [])])]),(D.v (.int .i64 (1 : Int)))]
def Zxl : D := (D.tup [(D.list 2 (some 2) [(D.v (.int .i64 (3 : Int))),(D.v (.int .i64 (4 : Int)))]),zI])
def Zxm : List D := [(D.agg [(D.list 5 (some 5) [(D.v (.int .i64 (-1 : Int))),(D.v (.int .u8 (5 : Int))),(D.v (.int .u32 (2 : Int))),(D.v (.int .u32 (5 : Int))),(D.v (.int .u32 (29 : Int))),(D.v (.int .u32 (32 : Int))),zU,zU,zU,zU,zU,zU,zU,zU,zU,zU,zU,zU,(D.list 1 (some 1) [(D.v (.int .u8 (5 : Int))),(D.v (.int .u32 (2 : Int))),(D.v (.int .u32 (5 : Int))),(D.v (.int .u32 (29 : Int))),(D.v (.int .u32 (32 : Int))),zU,zU,zU,zU,zU,zU,zU,zU,zU,zU,zU,zU]),(D.list 0 (some 0) []),zI,(D.v (.int .u8 (3 : Int))),(D.v (.int .u32 (1 : Int))),(D.v (.int .u32 (2 : Int))),(D.v (.int .u32 (3 : Int))),zU,zU,zU,zU,zU,zU,zU,zU,zU,zU,zU,zU,zU,(D.list 2 (some 2) [(D.v (.int .u8 (3 : Int))),(D.v (.int .u32 (1 : Int))),(D.v (.int .u32 (2 : Int))),(D.v (.int .u32 (4 : Int))),zU,zU,zU,zU,zU,zU,zU,zU,zU,zU,zU,zU,zU,(D.v (.int .u8 (3 : Int))),(D.v (.int .u32 (1 : Int))),(D.v (.int .u32 (2 : Int))),(D.v (.int .u32 (5 : Int))),zU,zU,zU,zU,zU,zU,zU,zU,zU,zU,zU,zU,zU]),(D.list 0 (some 0) []),zI,(D.v (.int .u8 (5 : Int))),(D.v (.int .u32 (2 : Int))),(D.v (.int .u32 (5 : Int))),(D.v (.int .u32 (29 : Int))),(D.v (.int .u32 (32 : Int))),zU,zU,zU,zU,zU,zU,zU,zU,zU,zU,zU,zU,(D.list 1 (some 1) [(D.v (.int .u8 (5 : Int))),(D.v (.int .u32 (2 : Int))),(D.v (.int .u32 (5 : Int))),(D.v (.int .u32 (29 : Int))),(D.v (.int .u32 (32 : Int))),zU,zU,zU,zU,zU,zU,zU,zU,zU,zU,zU,zU]),(D.list 0 (some 0) []),(D.v (.int .i64 (1 : Int))),(D.v (.int .u8 (3 : Int))),(D.v (.int .u32 (1 : Int))),(D.v (.int .u32 (2 : Int))),(D.v (.int .u32 (4 : Int))),zU,zU,zU,zU,zU,zU,zU,zU,zU,zU,zU,zU,zU,(D.list 1 (some 1) [(D.v (.int .u8 (3 : Int))),(D.v (.int .u32 (1 : Int))),(D.v (.int .u32 (2 : Int))),(D.v (.int .u32 (4 : Int))),zU,zU,zU,zU,zU,zU,zU,zU,zU,zU,zU,zU,zU]),(D.list 0 (some 0) []),(D.v (.int .i64 (1 : Int))),(D.v (.int .u8 (3 : Int))),(D.v (.int .u32 (1 : Int))),(D.v (.int .u32 (2 : Int))),(D.v (.int .u32 (5 : Int))),zU,zU,zU,zU,zU,zU,zU,zU,zU,zU,zU,zU,zU,(D.list 1 (some 1) [(D.v (.int .u8 (3 : Int))),(D.v (.int .u32 (1 : Int))),(D.v (.int .u32 (2 : Int))),(D.v (.int .u32 (5 : Int))),zU,zU,zU,zU,zU,zU,zU,zU,zU,zU,zU,zU,zU]),(D.list 0 (some 0) [])])]),(D.v (.int .i64 (2 : Int)))]
def Zxn : D := (D.tup [(D.list 0 (some 0) []),zI])
theorem Z1cz : funD Tg Zdi 100000 60 Z3j Tryz.f17 Zxk = some Zxl := by kernel_rfl
theorem Z1d0 : funD Tg Zdi 100000 60 Z3j Tryz.f17 Zxm = some Zxn := by kernel_rfl
def Zr3 (ds : List D) : Option D := if isT Zxk ds then some Zxl else (if isT Zxm ds then some Zxn else (none))
theorem td_trees_Children : ∀ ds d,Zr3 ds = some d → DataSem Tg 17 ds d := by
 intro ds d h
 unfold Zr3 at h
 split at h
 ·rename_i ha; obtain rfl := isT_eq ha; cases h; exact Zq9 Z1cz
 split at h
 ·rename_i ha; obtain rfl := isT_eq ha; cases h; exact Zq9 Z1d0
 cases h
def Z8e : FnH := ⟨[(6,⟨(bm 774 48),[(8,17)],none⟩)],[]⟩
theorem Zhs : Enters Tg 18 := ⟨Tryz.f18,Tryz.func18,by kernel_rfl,by kernel_rfl⟩
noncomputable def Z10u : Hints := ⟨[(48,Zw3)],[(18,Tryz.f18,Z8e)],[203,205,206,208,148]⟩
theorem Z1fy {m n : Nat} {ds : List D} {d : D} (h : funD Tg Z10u m n Z8e Tryz.f18 ds = some d) : DataSem Tg 18 ds d := Z5 (H := Z10u) (SpOk.cons td_trees_node SpOk.nil) mixed (InlOk.cons Tryz.func18 Zhs InlOk.nil) Tryz.func18 Zhs h
def Z18y : List D := [(D.agg [(D.list 5 (some 5) [(D.v (.int .i64 (-1 : Int))),(D.v (.int .u8 (5 : Int))),(D.v (.int .u32 (2 : Int))),(D.v (.int .u32 (5 : Int))),(D.v (.int .u32 (29 : Int))),(D.v (.int .u32 (32 : Int))),zU,zU,zU,zU,zU,zU,zU,zU,zU,zU,zU,zU,(D.list 1 (some 1) [(D.v (.int .u8 (5 : Int))),(D.v (.int .u32 (2 : Int))),(D.v (.int .u32 (5 : Int))),(D.v (.int .u32 (29 : Int))),(D.v (.int .u32 (32 : Int))),zU,zU,zU,zU,zU,zU,zU,zU,zU,zU,zU,zU]),(D.list 0 (some 0) []),zI,(D.v (.int .u8 (3 : Int))),(D.v (.int .u32 (1 : Int))),(D.v (.int .u32 (2 : Int))),(D.v (.int .u32 (3 : Int))),zU,zU,zU,zU,zU,zU,zU,zU,zU,zU,zU,zU,zU,(D.list 2 (some 2) [(D.v (.int .u8 (3 : Int))),(D.v (.int .u32 (1 : Int))),(D.v (.int .u32 (2 : Int))),(D.v (.int .u32 (4 : Int))),zU,zU,zU,zU,zU,zU,zU,zU,zU,zU,zU,zU,zU,(D.v (.int .u8 (3 : Int))),(D.v (.int .u32 (1 : Int))),(D.v (.int .u32 (2 : Int))),(D.v (.int .u32 (5 : Int))),zU,zU,zU,zU,zU,zU,zU,zU,zU,zU,zU,zU,zU]),(D.list 0 (some 0) []),zI,(D.v (.int .u8 (5 : Int))),(D.v (.int .u32 (2 : Int))),(D.v (.int .u32 (5 : Int))),(D.v (.int .u32 (29 : Int))),(D.v (.int .u32 (32 : Int))),zU,zU,zU,zU,zU,zU,zU,zU,zU,zU,zU,zU,(D.list 1 (some 1) [(D.v (.int .u8 (5 : Int))),(D.v (.int .u32 (2 : Int))),(D.v (.int .u32 (5 : Int))),(D.v (.int .u32 (29 : Int))),(D.v (.int .u32 (32 : Int))),zU,zU,zU,zU,zU,zU,zU,zU,zU,zU,zU,zU]),(D.list 0 (some 0) []),(D.v (.int .i64 (1 : Int))),(D.v (.int .u8 (3 : Int))),(D.v (.int .u32 (1 : Int))),(D.v (.int .u32 (2 : Int))),(D.v (.int .u32 (4 : Int))),zU,zU,zU,zU,zU,zU,zU,zU,zU,zU,zU,zU,zU,(D.list 1 (some 1) [(D.v (.int .u8 (3 : Int))),(D.v (.int .u32 (1 : Int))),(D.v (.int .u32 (2 : Int))),(D.v (.int .u32 (4 : Int))),zU,zU,zU,zU,zU,zU,zU,zU,zU,zU,zU,zU,zU]),(D.list 0 (some 0) []),(D.v (.int .i64 (1 : Int))),(D.v (.int .u8 (3 : Int))),(D.v (.int .u32 (1 : Int))),(D.v (.int .u32 (2 : Int))),(D.v (.int .u32 (5 : Int))),zU,zU,zU,zU,zU,zU,zU,zU,zU,zU,zU,zU,zU,(D.list 1 (some 1) [(D.v (.int .u8 (3 : Int))),(D.v (.int .u32 (1 : Int))),(D.v (.int .u32 (2 : Int))),(D.v (.int .u32 (5 : Int))),zU,zU,zU,zU,zU,zU,zU,zU,zU,zU,zU,zU,zU]),(D.list 0 (some 0) [])])]),(D.v (.int .i64 (4 : Int)))]
def Z18z : D := (D.tup [(D.list 3 (some 3) [(D.v (.int .u8 (5 : Int))),(D.v (.int .u32 (2 : Int))),(D.v (.int .u32 (5 : Int))),(D.v (.int .u32 (29 : Int))),(D.v (.int .u32 (32 : Int))),zU,zU,zU,zU,zU,zU,zU,zU,zU,zU,zU,zU,(D.v (.int .u8 (3 : Int))),(D.v (.int .u32 (1 : Int))),(D.v (.int .u32 (2 : Int))),(D.v (.int .u32 (3 : Int))),zU,zU,zU,zU,zU,zU,zU,zU,zU,zU,zU,zU,zU,(D.v (.int .u8 (3 : Int))),(D.v (.int .u32 (1 : Int))),(D.v (.int .u32 (2 : Int))),(D.v (.int .u32 (5 : Int))),zU,zU,zU,zU,zU,zU,zU,zU,zU,zU,zU,zU,zU]),zI])
theorem Z1nv : funD Tg Z10u 100000 60 Z8e Tryz.f18 Z18y = some Z18z := by kernel_rfl
def Z14c (ds : List D) : Option D := if isT Z18y ds then some Z18z else (none)
theorem td_trees_Line : ∀ ds d,Z14c ds = some d → DataSem Tg 18 ds d := by
 intro ds d h
 unfold Z14c at h
 split at h
 ·rename_i ha; obtain rfl := isT_eq ha; cases h; exact Z1fy Z1nv
 cases h
def Z61 : FnH := ⟨[(4,⟨(bm 35 33),[],none⟩)],[]⟩
theorem Zht : Enters Tg 19 := ⟨Tryz.f19,Tryz.func19,by kernel_rfl,by kernel_rfl⟩
noncomputable def Zrx : Hints := ⟨[],[(19,Tryz.f19,Z61)],[203,205,206,208,148]⟩
theorem Z102 {m n : Nat} {ds : List D} {d : D} (h : funD Tg Zrx m n Z61 Tryz.f19 ds = some d) : DataSem Tg 19 ds d := Z5 (H := Zrx) SpOk.nil mixed (InlOk.cons Tryz.func19 Zht InlOk.nil) Tryz.func19 Zht h
def Z190 : List D := [(D.list 2 (some 2) [(D.v (.int .i64 (1 : Int))),(D.v (.int .i64 (2 : Int)))]),(D.list 2 (some 2) [(D.v (.int .i64 (1 : Int))),(D.v (.int .i64 (2 : Int)))])]
def Z191 : D := (D.v (.bool true))
def Z192 : List D := [(D.list 2 (some 2) [(D.v (.int .i64 (3 : Int))),(D.v (.int .i64 (4 : Int)))]),(D.list 2 (some 2) [(D.v (.int .i64 (3 : Int))),(D.v (.int .i64 (4 : Int)))])]
def Z193 : D := (D.v (.bool true))
theorem Z1nw : funD Tg Zrx 100000 60 Z61 Tryz.f19 Z190 = some Z191 := by kernel_rfl
theorem Z1nx : funD Tg Zrx 100000 60 Z61 Tryz.f19 Z192 = some Z193 := by kernel_rfl
def Z14d (ds : List D) : Option D := if isT Z190 ds then some Z191 else (if isT Z192 ds then some Z193 else (none))
theorem td_law26_ints : ∀ ds d,Z14d ds = some d → DataSem Tg 19 ds d := by
 intro ds d h
 unfold Z14d at h
 split at h
 ·rename_i ha; obtain rfl := isT_eq ha; cases h; exact Z102 Z1nw
 split at h
 ·rename_i ha; obtain rfl := isT_eq ha; cases h; exact Z102 Z1nx
 cases h
def Z5z : FnH := ⟨[(4,⟨(bm 35 26),[],some 1000000⟩)],[]⟩
theorem Z9g : Enters Tg 21 := ⟨Tryz.f21,Tryz.func21,by kernel_rfl,by kernel_rfl⟩
noncomputable def Zr4 : Hints := ⟨[],[(21,Tryz.f21,Z5z)],[203,205,206,208,148]⟩
theorem Z194 {m n : Nat} {ds : List D} {d : D} (h : funD Tg Zr4 m n Z5z Tryz.f21 ds = some d) : DataSem Tg 21 ds d := Z5 (H := Zr4) SpOk.nil mixed (InlOk.cons Tryz.func21 Z9g InlOk.nil) Tryz.func21 Z9g h
def Z103 : List D := [(D.list 3 (some 3) [(D.v (.int .u8 (5 : Int))),(D.v (.int .u32 (2 : Int))),(D.v (.int .u32 (5 : Int))),(D.v (.int .u32 (29 : Int))),(D.v (.int .u32 (32 : Int))),zU,zU,zU,zU,zU,zU,zU,zU,zU,zU,zU,zU,(D.v (.int .u8 (3 : Int))),(D.v (.int .u32 (1 : Int))),(D.v (.int .u32 (2 : Int))),(D.v (.int .u32 (3 : Int))),zU,zU,zU,zU,zU,zU,zU,zU,zU,zU,zU,zU,zU,(D.v (.int .u8 (3 : Int))),(D.v (.int .u32 (1 : Int))),(D.v (.int .u32 (2 : Int))),(D.v (.int .u32 (5 : Int))),zU,zU,zU,zU,zU,zU,zU,zU,zU,zU,zU,zU,zU]),(D.list 3 (some 3) [(D.v (.int .u8 (5 : Int))),(D.v (.int .u32 (2 : Int))),(D.v (.int .u32 (5 : Int))),(D.v (.int .u32 (29 : Int))),(D.v (.int .u32 (32 : Int))),zU,zU,zU,zU,zU,zU,zU,zU,zU,zU,zU,zU,(D.v (.int .u8 (3 : Int))),(D.v (.int .u32 (1 : Int))),(D.v (.int .u32 (2 : Int))),(D.v (.int .u32 (3 : Int))),zU,zU,zU,zU,zU,zU,zU,zU,zU,zU,zU,zU,zU,(D.v (.int .u8 (3 : Int))),(D.v (.int .u32 (1 : Int))),(D.v (.int .u32 (2 : Int))),(D.v (.int .u32 (5 : Int))),zU,zU,zU,zU,zU,zU,zU,zU,zU,zU,zU,zU,zU])]
def Z104 : D := (D.v (.int .i64 (1 : Int)))
theorem Z1fz : funD Tg Zr4 100000 60 Z5z Tryz.f21 Z103 = some Z104 := by kernel_rfl
def Zub (ds : List D) : Option D := if isT Z103 ds then some Z104 else (none)
theorem td_ref25_SameIDs : ∀ ds d,Zub ds = some d → DataSem Tg 21 ds d := by
 intro ds d h
 unfold Zub at h
 split at h
 ·rename_i ha; obtain rfl := isT_eq ha; cases h; exact Z194 Z1fz
 cases h
def Z3s : FnH := ⟨[(6,⟨(bm 3670274 36),[(8,1),(19,1)],none⟩)],[]⟩
theorem Zdj : Enters Tg 23 := ⟨Tryz.f23,Tryz.func23,by kernel_rfl,by kernel_rfl⟩
noncomputable def Zg5 : Hints := ⟨[(49,Zdh),(50,Z8j)],[(23,Tryz.f23,Z3s)],[203,205,206,208,148]⟩
theorem Zlh {m n : Nat} {ds : List D} {d : D} (h : funD Tg Zg5 m n Z3s Tryz.f23 ds = some d) : DataSem Tg 23 ds d := Z5 (H := Zg5) (SpOk.cons td_trees_clone_int (SpOk.cons td_trees_examine SpOk.nil)) mixed (InlOk.cons Tryz.func23 Zdj InlOk.nil) Tryz.func23 Zdj h
def Z163 : List D := [(D.agg [(D.list 5 (some 5) [(D.v (.int .i64 (-1 : Int))),(D.v (.int .u8 (5 : Int))),(D.v (.int .u32 (2 : Int))),(D.v (.int .u32 (5 : Int))),(D.v (.int .u32 (29 : Int))),(D.v (.int .u32 (32 : Int))),zU,zU,zU,zU,zU,zU,zU,zU,zU,zU,zU,zU,(D.list 1 (some 1) [(D.v (.int .u8 (5 : Int))),(D.v (.int .u32 (2 : Int))),(D.v (.int .u32 (5 : Int))),(D.v (.int .u32 (29 : Int))),(D.v (.int .u32 (32 : Int))),zU,zU,zU,zU,zU,zU,zU,zU,zU,zU,zU,zU]),(D.list 0 (some 0) []),zI,(D.v (.int .u8 (3 : Int))),(D.v (.int .u32 (1 : Int))),(D.v (.int .u32 (2 : Int))),(D.v (.int .u32 (3 : Int))),zU,zU,zU,zU,zU,zU,zU,zU,zU,zU,zU,zU,zU,(D.list 2 (some 2) [(D.v (.int .u8 (3 : Int))),(D.v (.int .u32 (1 : Int))),(D.v (.int .u32 (2 : Int))),(D.v (.int .u32 (4 : Int))),zU,zU,zU,zU,zU,zU,zU,zU,zU,zU,zU,zU,zU,(D.v (.int .u8 (3 : Int))),(D.v (.int .u32 (1 : Int))),(D.v (.int .u32 (2 : Int))),(D.v (.int .u32 (5 : Int))),zU,zU,zU,zU,zU,zU,zU,zU,zU,zU,zU,zU,zU]),(D.list 0 (some 0) []),zI,(D.v (.int .u8 (5 : Int))),(D.v (.int .u32 (2 : Int))),(D.v (.int .u32 (5 : Int))),(D.v (.int .u32 (29 : Int))),(D.v (.int .u32 (32 : Int))),zU,zU,zU,zU,zU,zU,zU,zU,zU,zU,zU,zU,(D.list 1 (some 1) [(D.v (.int .u8 (5 : Int))),(D.v (.int .u32 (2 : Int))),(D.v (.int .u32 (5 : Int))),(D.v (.int .u32 (29 : Int))),(D.v (.int .u32 (32 : Int))),zU,zU,zU,zU,zU,zU,zU,zU,zU,zU,zU,zU]),(D.list 0 (some 0) []),(D.v (.int .i64 (1 : Int))),(D.v (.int .u8 (3 : Int))),(D.v (.int .u32 (1 : Int))),(D.v (.int .u32 (2 : Int))),(D.v (.int .u32 (4 : Int))),zU,zU,zU,zU,zU,zU,zU,zU,zU,zU,zU,zU,zU,(D.list 1 (some 1) [(D.v (.int .u8 (3 : Int))),(D.v (.int .u32 (1 : Int))),(D.v (.int .u32 (2 : Int))),(D.v (.int .u32 (4 : Int))),zU,zU,zU,zU,zU,zU,zU,zU,zU,zU,zU,zU,zU]),(D.list 0 (some 0) []),(D.v (.int .i64 (1 : Int))),(D.v (.int .u8 (3 : Int))),(D.v (.int .u32 (1 : Int))),(D.v (.int .u32 (2 : Int))),(D.v (.int .u32 (5 : Int))),zU,zU,zU,zU,zU,zU,zU,zU,zU,zU,zU,zU,zU,(D.list 1 (some 1) [(D.v (.int .u8 (3 : Int))),(D.v (.int .u32 (1 : Int))),(D.v (.int .u32 (2 : Int))),(D.v (.int .u32 (5 : Int))),zU,zU,zU,zU,zU,zU,zU,zU,zU,zU,zU,zU,zU]),(D.list 0 (some 0) [])])]),(D.v (.int .i64 (1 : Int)))]
def Z164 : D := (D.tup [(D.list 2 (some 2) [(D.v (.int .i64 (1 : Int))),(D.v (.int .i64 (2 : Int)))]),zI])
def Z165 : List D := [(D.agg [(D.list 5 (some 5) [(D.v (.int .i64 (-1 : Int))),(D.v (.int .u8 (5 : Int))),(D.v (.int .u32 (2 : Int))),(D.v (.int .u32 (5 : Int))),(D.v (.int .u32 (29 : Int))),(D.v (.int .u32 (32 : Int))),zU,zU,zU,zU,zU,zU,zU,zU,zU,zU,zU,zU,(D.list 1 (some 1) [(D.v (.int .u8 (5 : Int))),(D.v (.int .u32 (2 : Int))),(D.v (.int .u32 (5 : Int))),(D.v (.int .u32 (29 : Int))),(D.v (.int .u32 (32 : Int))),zU,zU,zU,zU,zU,zU,zU,zU,zU,zU,zU,zU]),(D.list 0 (some 0) []),zI,(D.v (.int .u8 (3 : Int))),(D.v (.int .u32 (1 : Int))),(D.v (.int .u32 (2 : Int))),(D.v (.int .u32 (3 : Int))),zU,zU,zU,zU,zU,zU,zU,zU,zU,zU,zU,zU,zU,(D.list 2 (some 2) [(D.v (.int .u8 (3 : Int))),(D.v (.int .u32 (1 : Int))),(D.v (.int .u32 (2 : Int))),(D.v (.int .u32 (4 : Int))),zU,zU,zU,zU,zU,zU,zU,zU,zU,zU,zU,zU,zU,(D.v (.int .u8 (3 : Int))),(D.v (.int .u32 (1 : Int))),(D.v (.int .u32 (2 : Int))),(D.v (.int .u32 (5 : Int))),zU,zU,zU,zU,zU,zU,zU,zU,zU,zU,zU,zU,zU]),(D.list 0 (some 0) []),zI,(D.v (.int .u8 (5 : Int))),(D.v (.int .u32 (2 : Int))),(D.v (.int .u32 (5 : Int))),(D.v (.int .u32 (29 : Int))),(D.v (.int .u32 (32 : Int))),zU,zU,zU,zU,zU,zU,zU,zU,zU,zU,zU,zU,(D.list 1 (some 1) [(D.v (.int .u8 (5 : Int))),(D.v (.int .u32 (2 : Int))),(D.v (.int .u32 (5 : Int))),(D.v (.int .u32 (29 : Int))),(D.v (.int .u32 (32 : Int))),zU,zU,zU,zU,zU,zU,zU,zU,zU,zU,zU,zU]),(D.list 0 (some 0) []),(D.v (.int .i64 (1 : Int))),(D.v (.int .u8 (3 : Int))),(D.v (.int .u32 (1 : Int))),(D.v (.int .u32 (2 : Int))),(D.v (.int .u32 (4 : Int))),zU,zU,zU,zU,zU,zU,zU,zU,zU,zU,zU,zU,zU,(D.list 1 (some 1) [(D.v (.int .u8 (3 : Int))),(D.v (.int .u32 (1 : Int))),(D.v (.int .u32 (2 : Int))),(D.v (.int .u32 (4 : Int))),zU,zU,zU,zU,zU,zU,zU,zU,zU,zU,zU,zU,zU]),(D.list 0 (some 0) []),(D.v (.int .i64 (1 : Int))),(D.v (.int .u8 (3 : Int))),(D.v (.int .u32 (1 : Int))),(D.v (.int .u32 (2 : Int))),(D.v (.int .u32 (5 : Int))),zU,zU,zU,zU,zU,zU,zU,zU,zU,zU,zU,zU,zU,(D.list 1 (some 1) [(D.v (.int .u8 (3 : Int))),(D.v (.int .u32 (1 : Int))),(D.v (.int .u32 (2 : Int))),(D.v (.int .u32 (5 : Int))),zU,zU,zU,zU,zU,zU,zU,zU,zU,zU,zU,zU,zU]),(D.list 0 (some 0) [])])]),(D.v (.int .i64 (2 : Int)))]
def Z166 : D := (D.tup [(D.list 2 (some 2) [(D.v (.int .i64 (3 : Int))),(D.v (.int .i64 (4 : Int)))]),zI])
def Z167 : List D := [(D.agg [(D.list 5 (some 5) [(D.v (.int .i64 (-1 : Int))),(D.v (.int .u8 (5 : Int))),(D.v (.int .u32 (2 : Int))),(D.v (.int .u32 (5 : Int))),(D.v (.int .u32 (29 : Int))),(D.v (.int .u32 (32 : Int))),zU,zU,zU,zU,zU,zU,zU,zU,zU,zU,zU,zU,(D.list 1 (some 1) [(D.v (.int .u8 (5 : Int))),(D.v (.int .u32 (2 : Int))),(D.v (.int .u32 (5 : Int))),(D.v (.int .u32 (29 : Int))),(D.v (.int .u32 (32 : Int))),zU,zU,zU,zU,zU,zU,zU,zU,zU,zU,zU,zU]),(D.list 0 (some 0) []),zI,(D.v (.int .u8 (3 : Int))),(D.v (.int .u32 (1 : Int))),(D.v (.int .u32 (2 : Int))),(D.v (.int .u32 (3 : Int))),zU,zU,zU,zU,zU,zU,zU,zU,zU,zU,zU,zU,zU,(D.list 2 (some 2) [(D.v (.int .u8 (3 : Int))),(D.v (.int .u32 (1 : Int))),(D.v (.int .u32 (2 : Int))),(D.v (.int .u32 (4 : Int))),zU,zU,zU,zU,zU,zU,zU,zU,zU,zU,zU,zU,zU,(D.v (.int .u8 (3 : Int))),(D.v (.int .u32 (1 : Int))),(D.v (.int .u32 (2 : Int))),(D.v (.int .u32 (5 : Int))),zU,zU,zU,zU,zU,zU,zU,zU,zU,zU,zU,zU,zU]),(D.list 0 (some 0) []),zI,(D.v (.int .u8 (5 : Int))),(D.v (.int .u32 (2 : Int))),(D.v (.int .u32 (5 : Int))),(D.v (.int .u32 (29 : Int))),(D.v (.int .u32 (32 : Int))),zU,zU,zU,zU,zU,zU,zU,zU,zU,zU,zU,zU,(D.list 1 (some 1) [(D.v (.int .u8 (5 : Int))),(D.v (.int .u32 (2 : Int))),(D.v (.int .u32 (5 : Int))),(D.v (.int .u32 (29 : Int))),(D.v (.int .u32 (32 : Int))),zU,zU,zU,zU,zU,zU,zU,zU,zU,zU,zU,zU]),(D.list 0 (some 0) []),(D.v (.int .i64 (1 : Int))),(D.v (.int .u8 (3 : Int))),(D.v (.int .u32 (1 : Int))),(D.v (.int .u32 (2 : Int))),(D.v (.int .u32 (4 : Int))),zU,zU,zU,zU,zU,zU,zU,zU,zU,zU,zU,zU,zU,(D.list 1 (some 1) [(D.v (.int .u8 (3 : Int))),(D.v (.int .u32 (1 : Int))),(D.v (.int .u32 (2 : Int))),(D.v (.int .u32 (4 : Int))),zU,zU,zU,zU,zU,zU,zU,zU,zU,zU,zU,zU,zU]),(D.list 0 (some 0) []),(D.v (.int .i64 (1 : Int))),(D.v (.int .u8 (3 : Int))),(D.v (.int .u32 (1 : Int))),(D.v (.int .u32 (2 : Int))),(D.v (.int .u32 (5 : Int))),zU,zU,zU,zU,zU,zU,zU,zU,zU,zU,zU,zU,zU,(D.list 1 (some 1) [(D.v (.int .u8 (3 : Int))),(D.v (.int .u32 (1 : Int))),(D.v (.int .u32 (2 : Int))),(D.v (.int .u32 (5 : Int))),zU,zU,zU,zU,zU,zU,zU,zU,zU,zU,zU,zU,zU]),(D.list 0 (some 0) [])])]),(D.v (.int .i64 (3 : Int)))]
def Z168 : D := (D.tup [(D.list 0 (some 0) []),zI])
theorem Z1kh : funD Tg Zg5 100000 60 Z3s Tryz.f23 Z163 = some Z164 := by kernel_rfl
theorem Z1ki : funD Tg Zg5 100000 60 Z3s Tryz.f23 Z165 = some Z166 := by kernel_rfl
theorem Z1kj : funD Tg Zg5 100000 60 Z3s Tryz.f23 Z167 = some Z168 := by kernel_rfl
def Z10v (ds : List D) : Option D := if isT Z163 ds then some Z164 else (if isT Z165 ds then some Z166 else (if isT Z167 ds then some Z168 else (none)))
theorem td_trees_Level : ∀ ds d,Z10v ds = some d → DataSem Tg 23 ds d := by
 intro ds d h
 unfold Z10v at h
 split at h
 ·rename_i ha; obtain rfl := isT_eq ha; cases h; exact Zlh Z1kh
 split at h
 ·rename_i ha; obtain rfl := isT_eq ha; cases h; exact Zlh Z1ki
 split at h
 ·rename_i ha; obtain rfl := isT_eq ha; cases h; exact Zlh Z1kj
 cases h
def Z3d : FnH := ⟨[],[]⟩
theorem Zhu : Enters Tg 24 := ⟨Tryz.f24,Tryz.func24,by kernel_rfl,by kernel_rfl⟩
noncomputable def Zci : Hints := ⟨[],[(24,Tryz.f24,Z3d)],[203,205,206,208,148]⟩
theorem Zdk {m n : Nat} {ds : List D} {d : D} (h : funD Tg Zci m n Z3d Tryz.f24 ds = some d) : DataSem Tg 24 ds d := Z5 (H := Zci) SpOk.nil mixed (InlOk.cons Tryz.func24 Zhu InlOk.nil) Tryz.func24 Zhu h
def Z195 : List D := [(D.agg [(D.list 1 (some 1) [(D.v (.int .i64 (-1 : Int))),(D.v (.int .u8 (5 : Int))),(D.v (.int .u32 (2 : Int))),(D.v (.int .u32 (5 : Int))),(D.v (.int .u32 (29 : Int))),(D.v (.int .u32 (32 : Int))),zU,zU,zU,zU,zU,zU,zU,zU,zU,zU,zU,zU,(D.list 1 (some 1) [(D.v (.int .u8 (5 : Int))),(D.v (.int .u32 (2 : Int))),(D.v (.int .u32 (5 : Int))),(D.v (.int .u32 (29 : Int))),(D.v (.int .u32 (32 : Int))),zU,zU,zU,zU,zU,zU,zU,zU,zU,zU,zU,zU]),(D.list 0 (some 0) [])])])]
def Z196 : D := (D.v (.int .i64 (1 : Int)))
def Z197 : List D := [(D.agg [(D.list 5 (some 5) [(D.v (.int .i64 (-1 : Int))),(D.v (.int .u8 (5 : Int))),(D.v (.int .u32 (2 : Int))),(D.v (.int .u32 (5 : Int))),(D.v (.int .u32 (29 : Int))),(D.v (.int .u32 (32 : Int))),zU,zU,zU,zU,zU,zU,zU,zU,zU,zU,zU,zU,(D.list 1 (some 1) [(D.v (.int .u8 (5 : Int))),(D.v (.int .u32 (2 : Int))),(D.v (.int .u32 (5 : Int))),(D.v (.int .u32 (29 : Int))),(D.v (.int .u32 (32 : Int))),zU,zU,zU,zU,zU,zU,zU,zU,zU,zU,zU,zU]),(D.list 0 (some 0) []),zI,(D.v (.int .u8 (3 : Int))),(D.v (.int .u32 (1 : Int))),(D.v (.int .u32 (2 : Int))),(D.v (.int .u32 (3 : Int))),zU,zU,zU,zU,zU,zU,zU,zU,zU,zU,zU,zU,zU,(D.list 2 (some 2) [(D.v (.int .u8 (3 : Int))),(D.v (.int .u32 (1 : Int))),(D.v (.int .u32 (2 : Int))),(D.v (.int .u32 (4 : Int))),zU,zU,zU,zU,zU,zU,zU,zU,zU,zU,zU,zU,zU,(D.v (.int .u8 (3 : Int))),(D.v (.int .u32 (1 : Int))),(D.v (.int .u32 (2 : Int))),(D.v (.int .u32 (5 : Int))),zU,zU,zU,zU,zU,zU,zU,zU,zU,zU,zU,zU,zU]),(D.list 0 (some 0) []),zI,(D.v (.int .u8 (5 : Int))),(D.v (.int .u32 (2 : Int))),(D.v (.int .u32 (5 : Int))),(D.v (.int .u32 (29 : Int))),(D.v (.int .u32 (32 : Int))),zU,zU,zU,zU,zU,zU,zU,zU,zU,zU,zU,zU,(D.list 1 (some 1) [(D.v (.int .u8 (5 : Int))),(D.v (.int .u32 (2 : Int))),(D.v (.int .u32 (5 : Int))),(D.v (.int .u32 (29 : Int))),(D.v (.int .u32 (32 : Int))),zU,zU,zU,zU,zU,zU,zU,zU,zU,zU,zU,zU]),(D.list 0 (some 0) []),(D.v (.int .i64 (1 : Int))),(D.v (.int .u8 (3 : Int))),(D.v (.int .u32 (1 : Int))),(D.v (.int .u32 (2 : Int))),(D.v (.int .u32 (4 : Int))),zU,zU,zU,zU,zU,zU,zU,zU,zU,zU,zU,zU,zU,(D.list 1 (some 1) [(D.v (.int .u8 (3 : Int))),(D.v (.int .u32 (1 : Int))),(D.v (.int .u32 (2 : Int))),(D.v (.int .u32 (4 : Int))),zU,zU,zU,zU,zU,zU,zU,zU,zU,zU,zU,zU,zU]),(D.list 0 (some 0) []),(D.v (.int .i64 (1 : Int))),(D.v (.int .u8 (3 : Int))),(D.v (.int .u32 (1 : Int))),(D.v (.int .u32 (2 : Int))),(D.v (.int .u32 (5 : Int))),zU,zU,zU,zU,zU,zU,zU,zU,zU,zU,zU,zU,zU,(D.list 1 (some 1) [(D.v (.int .u8 (3 : Int))),(D.v (.int .u32 (1 : Int))),(D.v (.int .u32 (2 : Int))),(D.v (.int .u32 (5 : Int))),zU,zU,zU,zU,zU,zU,zU,zU,zU,zU,zU,zU,zU]),(D.list 0 (some 0) [])])])]
def Z198 : D := (D.v (.int .i64 (5 : Int)))
def Z199 : List D := [(D.agg [(D.list 2 (some 2) [(D.v (.int .i64 (-1 : Int))),(D.v (.int .u8 (5 : Int))),(D.v (.int .u32 (2 : Int))),(D.v (.int .u32 (5 : Int))),(D.v (.int .u32 (29 : Int))),(D.v (.int .u32 (32 : Int))),zU,zU,zU,zU,zU,zU,zU,zU,zU,zU,zU,zU,(D.list 1 (some 1) [(D.v (.int .u8 (5 : Int))),(D.v (.int .u32 (2 : Int))),(D.v (.int .u32 (5 : Int))),(D.v (.int .u32 (29 : Int))),(D.v (.int .u32 (32 : Int))),zU,zU,zU,zU,zU,zU,zU,zU,zU,zU,zU,zU]),(D.list 0 (some 0) []),zI,(D.v (.int .u8 (5 : Int))),(D.v (.int .u32 (2 : Int))),(D.v (.int .u32 (5 : Int))),(D.v (.int .u32 (29 : Int))),(D.v (.int .u32 (32 : Int))),zU,zU,zU,zU,zU,zU,zU,zU,zU,zU,zU,zU,(D.list 1 (some 1) [(D.v (.int .u8 (5 : Int))),(D.v (.int .u32 (2 : Int))),(D.v (.int .u32 (5 : Int))),(D.v (.int .u32 (29 : Int))),(D.v (.int .u32 (32 : Int))),zU,zU,zU,zU,zU,zU,zU,zU,zU,zU,zU,zU]),(D.list 0 (some 0) [])])])]
def Z19a : D := (D.v (.int .i64 (2 : Int)))
def Z19b : List D := [(D.agg [(D.list 0 (some 0) [])])]
def Z19c : D := zI
theorem Z1ny : funD Tg Zci 100000 60 Z3d Tryz.f24 Z195 = some Z196 := by kernel_rfl
theorem Z1nz : funD Tg Zci 100000 60 Z3d Tryz.f24 Z197 = some Z198 := by kernel_rfl
theorem Z1o0 : funD Tg Zci 100000 60 Z3d Tryz.f24 Z199 = some Z19a := by kernel_rfl
theorem Z1o1 : funD Tg Zci 100000 60 Z3d Tryz.f24 Z19b = some Z19c := by kernel_rfl
def Z14e (ds : List D) : Option D := if isT Z195 ds then some Z196 else (if isT Z197 ds then some Z198 else (if isT Z199 ds then some Z19a else (if isT Z19b ds then some Z19c else (none))))
theorem td_trees_Size : ∀ ds d,Z14e ds = some d → DataSem Tg 24 ds d := by
 intro ds d h
 unfold Z14e at h
 split at h
 ·rename_i ha; obtain rfl := isT_eq ha; cases h; exact Zdk Z1ny
 split at h
 ·rename_i ha; obtain rfl := isT_eq ha; cases h; exact Zdk Z1nz
 split at h
 ·rename_i ha; obtain rfl := isT_eq ha; cases h; exact Zdk Z1o0
 split at h
 ·rename_i ha; obtain rfl := isT_eq ha; cases h; exact Zdk Z1o1
 cases h
def Z1b : FnH := ⟨[],[]⟩
theorem Z5a : Enters Tg 59 := ⟨Tryz.f59,Tryz.func59,by kernel_rfl,by kernel_rfl⟩
noncomputable def Z4i : Hints := ⟨[],[(59,Tryz.f59,Z1b)],[203,205,206,208,148]⟩
theorem Z5r {m n : Nat} {ds : List D} {d : D} (h : funD Tg Z4i m n Z1b Tryz.f59 ds = some d) : DataSem Tg 59 ds d := Z5 (H := Z4i) SpOk.nil mixed (InlOk.cons Tryz.func59 Z5a InlOk.nil) Tryz.func59 Z5a h
def Zlv : List D := [(D.list 1 (some 1) [(D.v (.int .u8 (5 : Int))),(D.v (.int .u32 (2 : Int))),(D.v (.int .u32 (5 : Int))),(D.v (.int .u32 (29 : Int))),(D.v (.int .u32 (32 : Int))),zU,zU,zU,zU,zU,zU,zU,zU,zU,zU,zU,zU])]
def Zlw : D := (D.list 1 (some 1) [(D.v (.int .u8 (5 : Int))),(D.v (.int .u32 (2 : Int))),(D.v (.int .u32 (5 : Int))),(D.v (.int .u32 (29 : Int))),(D.v (.int .u32 (32 : Int))),zU,zU,zU,zU,zU,zU,zU,zU,zU,zU,zU,zU])
def Zlx : List D := [(D.list 2 (some 2) [(D.v (.int .u8 (3 : Int))),(D.v (.int .u32 (1 : Int))),(D.v (.int .u32 (2 : Int))),(D.v (.int .u32 (4 : Int))),zU,zU,zU,zU,zU,zU,zU,zU,zU,zU,zU,zU,zU,(D.v (.int .u8 (3 : Int))),(D.v (.int .u32 (1 : Int))),(D.v (.int .u32 (2 : Int))),(D.v (.int .u32 (5 : Int))),zU,zU,zU,zU,zU,zU,zU,zU,zU,zU,zU,zU,zU])]
def Zly : D := (D.list 2 (some 2) [(D.v (.int .u8 (3 : Int))),(D.v (.int .u32 (1 : Int))),(D.v (.int .u32 (2 : Int))),(D.v (.int .u32 (4 : Int))),zU,zU,zU,zU,zU,zU,zU,zU,zU,zU,zU,zU,zU,(D.v (.int .u8 (3 : Int))),(D.v (.int .u32 (1 : Int))),(D.v (.int .u32 (2 : Int))),(D.v (.int .u32 (5 : Int))),zU,zU,zU,zU,zU,zU,zU,zU,zU,zU,zU,zU,zU])
def Zlz : List D := [(D.list 1 (some 1) [(D.v (.int .u8 (3 : Int))),(D.v (.int .u32 (1 : Int))),(D.v (.int .u32 (2 : Int))),(D.v (.int .u32 (4 : Int))),zU,zU,zU,zU,zU,zU,zU,zU,zU,zU,zU,zU,zU])]
def Zm0 : D := (D.list 1 (some 1) [(D.v (.int .u8 (3 : Int))),(D.v (.int .u32 (1 : Int))),(D.v (.int .u32 (2 : Int))),(D.v (.int .u32 (4 : Int))),zU,zU,zU,zU,zU,zU,zU,zU,zU,zU,zU,zU,zU])
def Zm1 : List D := [(D.list 1 (some 1) [(D.v (.int .u8 (3 : Int))),(D.v (.int .u32 (1 : Int))),(D.v (.int .u32 (2 : Int))),(D.v (.int .u32 (5 : Int))),zU,zU,zU,zU,zU,zU,zU,zU,zU,zU,zU,zU,zU])]
def Zm2 : D := (D.list 1 (some 1) [(D.v (.int .u8 (3 : Int))),(D.v (.int .u32 (1 : Int))),(D.v (.int .u32 (2 : Int))),(D.v (.int .u32 (5 : Int))),zU,zU,zU,zU,zU,zU,zU,zU,zU,zU,zU,zU,zU])
theorem Z12d : funD Tg Z4i 100000 60 Z1b Tryz.f59 Zlv = some Zlw := by kernel_rfl
theorem Z12e : funD Tg Z4i 100000 60 Z1b Tryz.f59 Zlx = some Zly := by kernel_rfl
theorem Z12f : funD Tg Z4i 100000 60 Z1b Tryz.f59 Zlz = some Zm0 := by kernel_rfl
theorem Z12g : funD Tg Z4i 100000 60 Z1b Tryz.f59 Zm1 = some Zm2 := by kernel_rfl
def Zcy (ds : List D) : Option D := if isT Zlv ds then some Zlw else (if isT Zlx ds then some Zly else (if isT Zlz ds then some Zm0 else (if isT Zm1 ds then some Zm2 else (none))))
theorem td_trees_clone_api_OID : ∀ ds d,Zcy ds = some d → DataSem Tg 59 ds d := by
 intro ds d h
 unfold Zcy at h
 split at h
 ·rename_i ha; obtain rfl := isT_eq ha; cases h; exact Z5r Z12d
 split at h
 ·rename_i ha; obtain rfl := isT_eq ha; cases h; exact Z5r Z12e
 split at h
 ·rename_i ha; obtain rfl := isT_eq ha; cases h; exact Z5r Z12f
 split at h
 ·rename_i ha; obtain rfl := isT_eq ha; cases h; exact Z5r Z12g
 cases h
def Z23 : FnH := ⟨[(4,⟨(bm 114694 39),[(14,27)],none⟩)],[]⟩
def Zbp : FnH := ⟨[],[]⟩
theorem Zax : Enters Tg 53 := ⟨Tryz.f53,Tryz.func53,by kernel_rfl,by kernel_rfl⟩
theorem Zbq : Enters Tg 81 := ⟨Tryz.f81,Tryz.func81,by kernel_rfl,by kernel_rfl⟩
noncomputable def Z7c : Hints := ⟨[(59,Zcy),(82,fun _ => none),(83,fun _ => none)],[(53,Tryz.f53,Z23),(81,Tryz.f81,Zbp)],[203,205,206,208,148]⟩
theorem Z7f {m n : Nat} {ds : List D} {d : D} (h : funD Tg Z7c m n Z23 Tryz.f53 ds = some d) : DataSem Tg 53 ds d := Z5 (H := Z7c) (SpOk.cons td_trees_clone_api_OID (SpOk.cons (fun _ _ h => by cases h) (SpOk.cons (fun _ _ h => by cases h) SpOk.nil))) mixed (InlOk.cons Tryz.func53 Zax (InlOk.cons Tryz.func81 Zbq InlOk.nil)) Tryz.func53 Zax h
def Z12h : List D := [(D.agg [(D.v (.int .i64 (-1 : Int))),(D.v (.int .u8 (5 : Int))),(D.v (.int .u32 (2 : Int))),(D.v (.int .u32 (5 : Int))),(D.v (.int .u32 (29 : Int))),(D.v (.int .u32 (32 : Int))),zU,zU,zU,zU,zU,zU,zU,zU,zU,zU,zU,zU,(D.list 1 (some 1) [(D.v (.int .u8 (5 : Int))),(D.v (.int .u32 (2 : Int))),(D.v (.int .u32 (5 : Int))),(D.v (.int .u32 (29 : Int))),(D.v (.int .u32 (32 : Int))),zU,zU,zU,zU,zU,zU,zU,zU,zU,zU,zU,zU]),(D.list 0 (some 0) [])])]
def Z12i : D := (D.agg [(D.v (.int .i64 (-1 : Int))),(D.v (.int .u8 (5 : Int))),(D.v (.int .u32 (2 : Int))),(D.v (.int .u32 (5 : Int))),(D.v (.int .u32 (29 : Int))),(D.v (.int .u32 (32 : Int))),zU,zU,zU,zU,zU,zU,zU,zU,zU,zU,zU,zU,(D.list 1 (some 1) [(D.v (.int .u8 (5 : Int))),(D.v (.int .u32 (2 : Int))),(D.v (.int .u32 (5 : Int))),(D.v (.int .u32 (29 : Int))),(D.v (.int .u32 (32 : Int))),zU,zU,zU,zU,zU,zU,zU,zU,zU,zU,zU,zU]),(D.list 0 (some 0) [])])
def Z12j : List D := [(D.agg [zI,(D.v (.int .u8 (3 : Int))),(D.v (.int .u32 (1 : Int))),(D.v (.int .u32 (2 : Int))),(D.v (.int .u32 (3 : Int))),zU,zU,zU,zU,zU,zU,zU,zU,zU,zU,zU,zU,zU,(D.list 2 (some 2) [(D.v (.int .u8 (3 : Int))),(D.v (.int .u32 (1 : Int))),(D.v (.int .u32 (2 : Int))),(D.v (.int .u32 (4 : Int))),zU,zU,zU,zU,zU,zU,zU,zU,zU,zU,zU,zU,zU,(D.v (.int .u8 (3 : Int))),(D.v (.int .u32 (1 : Int))),(D.v (.int .u32 (2 : Int))),(D.v (.int .u32 (5 : Int))),zU,zU,zU,zU,zU,zU,zU,zU,zU,zU,zU,zU,zU]),(D.list 0 (some 0) [])])]
def Z12k : D := (D.agg [zI,(D.v (.int .u8 (3 : Int))),(D.v (.int .u32 (1 : Int))),(D.v (.int .u32 (2 : Int))),(D.v (.int .u32 (3 : Int))),zU,zU,zU,zU,zU,zU,zU,zU,zU,zU,zU,zU,zU,(D.list 2 (some 2) [(D.v (.int .u8 (3 : Int))),(D.v (.int .u32 (1 : Int))),(D.v (.int .u32 (2 : Int))),(D.v (.int .u32 (4 : Int))),zU,zU,zU,zU,zU,zU,zU,zU,zU,zU,zU,zU,zU,(D.v (.int .u8 (3 : Int))),(D.v (.int .u32 (1 : Int))),(D.v (.int .u32 (2 : Int))),(D.v (.int .u32 (5 : Int))),zU,zU,zU,zU,zU,zU,zU,zU,zU,zU,zU,zU,zU]),(D.list 0 (some 0) [])])
def Z12l : List D := [(D.agg [zI,(D.v (.int .u8 (5 : Int))),(D.v (.int .u32 (2 : Int))),(D.v (.int .u32 (5 : Int))),(D.v (.int .u32 (29 : Int))),(D.v (.int .u32 (32 : Int))),zU,zU,zU,zU,zU,zU,zU,zU,zU,zU,zU,zU,(D.list 1 (some 1) [(D.v (.int .u8 (5 : Int))),(D.v (.int .u32 (2 : Int))),(D.v (.int .u32 (5 : Int))),(D.v (.int .u32 (29 : Int))),(D.v (.int .u32 (32 : Int))),zU,zU,zU,zU,zU,zU,zU,zU,zU,zU,zU,zU]),(D.list 0 (some 0) [])])]
def Z12m : D := (D.agg [zI,(D.v (.int .u8 (5 : Int))),(D.v (.int .u32 (2 : Int))),(D.v (.int .u32 (5 : Int))),(D.v (.int .u32 (29 : Int))),(D.v (.int .u32 (32 : Int))),zU,zU,zU,zU,zU,zU,zU,zU,zU,zU,zU,zU,(D.list 1 (some 1) [(D.v (.int .u8 (5 : Int))),(D.v (.int .u32 (2 : Int))),(D.v (.int .u32 (5 : Int))),(D.v (.int .u32 (29 : Int))),(D.v (.int .u32 (32 : Int))),zU,zU,zU,zU,zU,zU,zU,zU,zU,zU,zU,zU]),(D.list 0 (some 0) [])])
def Z12n : List D := [(D.agg [(D.v (.int .i64 (1 : Int))),(D.v (.int .u8 (3 : Int))),(D.v (.int .u32 (1 : Int))),(D.v (.int .u32 (2 : Int))),(D.v (.int .u32 (4 : Int))),zU,zU,zU,zU,zU,zU,zU,zU,zU,zU,zU,zU,zU,(D.list 1 (some 1) [(D.v (.int .u8 (3 : Int))),(D.v (.int .u32 (1 : Int))),(D.v (.int .u32 (2 : Int))),(D.v (.int .u32 (4 : Int))),zU,zU,zU,zU,zU,zU,zU,zU,zU,zU,zU,zU,zU]),(D.list 0 (some 0) [])])]
def Z12o : D := (D.agg [(D.v (.int .i64 (1 : Int))),(D.v (.int .u8 (3 : Int))),(D.v (.int .u32 (1 : Int))),(D.v (.int .u32 (2 : Int))),(D.v (.int .u32 (4 : Int))),zU,zU,zU,zU,zU,zU,zU,zU,zU,zU,zU,zU,zU,(D.list 1 (some 1) [(D.v (.int .u8 (3 : Int))),(D.v (.int .u32 (1 : Int))),(D.v (.int .u32 (2 : Int))),(D.v (.int .u32 (4 : Int))),zU,zU,zU,zU,zU,zU,zU,zU,zU,zU,zU,zU,zU]),(D.list 0 (some 0) [])])
def Z12p : List D := [(D.agg [(D.v (.int .i64 (1 : Int))),(D.v (.int .u8 (3 : Int))),(D.v (.int .u32 (1 : Int))),(D.v (.int .u32 (2 : Int))),(D.v (.int .u32 (5 : Int))),zU,zU,zU,zU,zU,zU,zU,zU,zU,zU,zU,zU,zU,(D.list 1 (some 1) [(D.v (.int .u8 (3 : Int))),(D.v (.int .u32 (1 : Int))),(D.v (.int .u32 (2 : Int))),(D.v (.int .u32 (5 : Int))),zU,zU,zU,zU,zU,zU,zU,zU,zU,zU,zU,zU,zU]),(D.list 0 (some 0) [])])]
def Z12q : D := (D.agg [(D.v (.int .i64 (1 : Int))),(D.v (.int .u8 (3 : Int))),(D.v (.int .u32 (1 : Int))),(D.v (.int .u32 (2 : Int))),(D.v (.int .u32 (5 : Int))),zU,zU,zU,zU,zU,zU,zU,zU,zU,zU,zU,zU,zU,(D.list 1 (some 1) [(D.v (.int .u8 (3 : Int))),(D.v (.int .u32 (1 : Int))),(D.v (.int .u32 (2 : Int))),(D.v (.int .u32 (5 : Int))),zU,zU,zU,zU,zU,zU,zU,zU,zU,zU,zU,zU,zU]),(D.list 0 (some 0) [])])
theorem Z1hq : funD Tg Z7c 100000 60 Z23 Tryz.f53 Z12h = some Z12i := by kernel_rfl
theorem Z1hr : funD Tg Z7c 100000 60 Z23 Tryz.f53 Z12j = some Z12k := by kernel_rfl
theorem Z1hs : funD Tg Z7c 100000 60 Z23 Tryz.f53 Z12l = some Z12m := by kernel_rfl
theorem Z1ht : funD Tg Z7c 100000 60 Z23 Tryz.f53 Z12n = some Z12o := by kernel_rfl
theorem Z1hu : funD Tg Z7c 100000 60 Z23 Tryz.f53 Z12p = some Z12q := by kernel_rfl
def Zp0 (ds : List D) : Option D := if isT Z12h ds then some Z12i else (if isT Z12j ds then some Z12k else (if isT Z12l ds then some Z12m else (if isT Z12n ds then some Z12o else (if isT Z12p ds then some Z12q else (none)))))
theorem td_trees_copied : ∀ ds d,Zp0 ds = some d → DataSem Tg 53 ds d := by
 intro ds d h
 unfold Zp0 at h
 split at h
 ·rename_i ha; obtain rfl := isT_eq ha; cases h; exact Z7f Z1hq
 split at h
 ·rename_i ha; obtain rfl := isT_eq ha; cases h; exact Z7f Z1hr
 split at h
 ·rename_i ha; obtain rfl := isT_eq ha; cases h; exact Z7f Z1hs
 split at h
 ·rename_i ha; obtain rfl := isT_eq ha; cases h; exact Z7f Z1ht
 split at h
 ·rename_i ha; obtain rfl := isT_eq ha; cases h; exact Z7f Z1hu
 cases h
def Z2m : FnH := ⟨[(19,⟨(bm 2166395068749415481073475612 171),[(88,20)],none⟩),(26,⟨(bm 2381976568446569244243622252022377553948 171),[(16,20),(128,20)],none⟩)],[]⟩
theorem Zm3 : Enters Tg 25 := ⟨Tryz.f25,Tryz.func25,by kernel_rfl,by kernel_rfl⟩
noncomputable def Z8y : Hints := ⟨[(47,Zrw),(50,Z8j),(51,Zrv),(52,Zg0),(53,Zp0)],[(25,Tryz.f25,Z2m)],[203,205,206,208,148]⟩
theorem Z7n {m n : Nat} {ds : List D} {d : D} (h : funD Tg Z8y m n Z2m Tryz.f25 ds = some d) : DataSem Tg 25 ds d := Z5 (H := Z8y) (SpOk.cons td_trees_edges (SpOk.cons td_trees_examine (SpOk.cons td_trees_valid (SpOk.cons td_oids_Compare (SpOk.cons td_trees_copied SpOk.nil))))) mixed (InlOk.cons Tryz.func25 Zm3 InlOk.nil) Tryz.func25 Zm3 h
def Z1bl : List D := [(D.agg [(D.list 1 (some 1) [(D.v (.int .i64 (-1 : Int))),(D.v (.int .u8 (5 : Int))),(D.v (.int .u32 (2 : Int))),(D.v (.int .u32 (5 : Int))),(D.v (.int .u32 (29 : Int))),(D.v (.int .u32 (32 : Int))),zU,zU,zU,zU,zU,zU,zU,zU,zU,zU,zU,zU,(D.list 1 (some 1) [(D.v (.int .u8 (5 : Int))),(D.v (.int .u32 (2 : Int))),(D.v (.int .u32 (5 : Int))),(D.v (.int .u32 (29 : Int))),(D.v (.int .u32 (32 : Int))),zU,zU,zU,zU,zU,zU,zU,zU,zU,zU,zU,zU]),(D.list 0 (some 0) [])])]),(D.agg [zI,(D.v (.int .u8 (3 : Int))),(D.v (.int .u32 (1 : Int))),(D.v (.int .u32 (2 : Int))),(D.v (.int .u32 (3 : Int))),zU,zU,zU,zU,zU,zU,zU,zU,zU,zU,zU,zU,zU,(D.list 2 (some 2) [(D.v (.int .u8 (3 : Int))),(D.v (.int .u32 (1 : Int))),(D.v (.int .u32 (2 : Int))),(D.v (.int .u32 (4 : Int))),zU,zU,zU,zU,zU,zU,zU,zU,zU,zU,zU,zU,zU,(D.v (.int .u8 (3 : Int))),(D.v (.int .u32 (1 : Int))),(D.v (.int .u32 (2 : Int))),(D.v (.int .u32 (5 : Int))),zU,zU,zU,zU,zU,zU,zU,zU,zU,zU,zU,zU,zU]),(D.list 0 (some 0) [])])]
def Z1bm : D := (D.tup [(D.agg [(D.list 2 (some 2) [(D.v (.int .i64 (-1 : Int))),(D.v (.int .u8 (5 : Int))),(D.v (.int .u32 (2 : Int))),(D.v (.int .u32 (5 : Int))),(D.v (.int .u32 (29 : Int))),(D.v (.int .u32 (32 : Int))),zU,zU,zU,zU,zU,zU,zU,zU,zU,zU,zU,zU,(D.list 1 (some 1) [(D.v (.int .u8 (5 : Int))),(D.v (.int .u32 (2 : Int))),(D.v (.int .u32 (5 : Int))),(D.v (.int .u32 (29 : Int))),(D.v (.int .u32 (32 : Int))),zU,zU,zU,zU,zU,zU,zU,zU,zU,zU,zU,zU]),(D.list 0 (some 0) []),zI,(D.v (.int .u8 (3 : Int))),(D.v (.int .u32 (1 : Int))),(D.v (.int .u32 (2 : Int))),(D.v (.int .u32 (3 : Int))),zU,zU,zU,zU,zU,zU,zU,zU,zU,zU,zU,zU,zU,(D.list 2 (some 2) [(D.v (.int .u8 (3 : Int))),(D.v (.int .u32 (1 : Int))),(D.v (.int .u32 (2 : Int))),(D.v (.int .u32 (4 : Int))),zU,zU,zU,zU,zU,zU,zU,zU,zU,zU,zU,zU,zU,(D.v (.int .u8 (3 : Int))),(D.v (.int .u32 (1 : Int))),(D.v (.int .u32 (2 : Int))),(D.v (.int .u32 (5 : Int))),zU,zU,zU,zU,zU,zU,zU,zU,zU,zU,zU,zU,zU]),(D.list 0 (some 0) [])])]),(D.v (.int .i64 (1 : Int))),zI])
def Z1bn : List D := [(D.agg [(D.list 2 (some 2) [(D.v (.int .i64 (-1 : Int))),(D.v (.int .u8 (5 : Int))),(D.v (.int .u32 (2 : Int))),(D.v (.int .u32 (5 : Int))),(D.v (.int .u32 (29 : Int))),(D.v (.int .u32 (32 : Int))),zU,zU,zU,zU,zU,zU,zU,zU,zU,zU,zU,zU,(D.list 1 (some 1) [(D.v (.int .u8 (5 : Int))),(D.v (.int .u32 (2 : Int))),(D.v (.int .u32 (5 : Int))),(D.v (.int .u32 (29 : Int))),(D.v (.int .u32 (32 : Int))),zU,zU,zU,zU,zU,zU,zU,zU,zU,zU,zU,zU]),(D.list 0 (some 0) []),zI,(D.v (.int .u8 (3 : Int))),(D.v (.int .u32 (1 : Int))),(D.v (.int .u32 (2 : Int))),(D.v (.int .u32 (3 : Int))),zU,zU,zU,zU,zU,zU,zU,zU,zU,zU,zU,zU,zU,(D.list 2 (some 2) [(D.v (.int .u8 (3 : Int))),(D.v (.int .u32 (1 : Int))),(D.v (.int .u32 (2 : Int))),(D.v (.int .u32 (4 : Int))),zU,zU,zU,zU,zU,zU,zU,zU,zU,zU,zU,zU,zU,(D.v (.int .u8 (3 : Int))),(D.v (.int .u32 (1 : Int))),(D.v (.int .u32 (2 : Int))),(D.v (.int .u32 (5 : Int))),zU,zU,zU,zU,zU,zU,zU,zU,zU,zU,zU,zU,zU]),(D.list 0 (some 0) [])])]),(D.agg [zI,(D.v (.int .u8 (5 : Int))),(D.v (.int .u32 (2 : Int))),(D.v (.int .u32 (5 : Int))),(D.v (.int .u32 (29 : Int))),(D.v (.int .u32 (32 : Int))),zU,zU,zU,zU,zU,zU,zU,zU,zU,zU,zU,zU,(D.list 1 (some 1) [(D.v (.int .u8 (5 : Int))),(D.v (.int .u32 (2 : Int))),(D.v (.int .u32 (5 : Int))),(D.v (.int .u32 (29 : Int))),(D.v (.int .u32 (32 : Int))),zU,zU,zU,zU,zU,zU,zU,zU,zU,zU,zU,zU]),(D.list 0 (some 0) [])])]
def Z1bo : D := (D.tup [(D.agg [(D.list 3 (some 3) [(D.v (.int .i64 (-1 : Int))),(D.v (.int .u8 (5 : Int))),(D.v (.int .u32 (2 : Int))),(D.v (.int .u32 (5 : Int))),(D.v (.int .u32 (29 : Int))),(D.v (.int .u32 (32 : Int))),zU,zU,zU,zU,zU,zU,zU,zU,zU,zU,zU,zU,(D.list 1 (some 1) [(D.v (.int .u8 (5 : Int))),(D.v (.int .u32 (2 : Int))),(D.v (.int .u32 (5 : Int))),(D.v (.int .u32 (29 : Int))),(D.v (.int .u32 (32 : Int))),zU,zU,zU,zU,zU,zU,zU,zU,zU,zU,zU,zU]),(D.list 0 (some 0) []),zI,(D.v (.int .u8 (3 : Int))),(D.v (.int .u32 (1 : Int))),(D.v (.int .u32 (2 : Int))),(D.v (.int .u32 (3 : Int))),zU,zU,zU,zU,zU,zU,zU,zU,zU,zU,zU,zU,zU,(D.list 2 (some 2) [(D.v (.int .u8 (3 : Int))),(D.v (.int .u32 (1 : Int))),(D.v (.int .u32 (2 : Int))),(D.v (.int .u32 (4 : Int))),zU,zU,zU,zU,zU,zU,zU,zU,zU,zU,zU,zU,zU,(D.v (.int .u8 (3 : Int))),(D.v (.int .u32 (1 : Int))),(D.v (.int .u32 (2 : Int))),(D.v (.int .u32 (5 : Int))),zU,zU,zU,zU,zU,zU,zU,zU,zU,zU,zU,zU,zU]),(D.list 0 (some 0) []),zI,(D.v (.int .u8 (5 : Int))),(D.v (.int .u32 (2 : Int))),(D.v (.int .u32 (5 : Int))),(D.v (.int .u32 (29 : Int))),(D.v (.int .u32 (32 : Int))),zU,zU,zU,zU,zU,zU,zU,zU,zU,zU,zU,zU,(D.list 1 (some 1) [(D.v (.int .u8 (5 : Int))),(D.v (.int .u32 (2 : Int))),(D.v (.int .u32 (5 : Int))),(D.v (.int .u32 (29 : Int))),(D.v (.int .u32 (32 : Int))),zU,zU,zU,zU,zU,zU,zU,zU,zU,zU,zU,zU]),(D.list 0 (some 0) [])])]),(D.v (.int .i64 (2 : Int))),zI])
def Z1bp : List D := [(D.agg [(D.list 3 (some 3) [(D.v (.int .i64 (-1 : Int))),(D.v (.int .u8 (5 : Int))),(D.v (.int .u32 (2 : Int))),(D.v (.int .u32 (5 : Int))),(D.v (.int .u32 (29 : Int))),(D.v (.int .u32 (32 : Int))),zU,zU,zU,zU,zU,zU,zU,zU,zU,zU,zU,zU,(D.list 1 (some 1) [(D.v (.int .u8 (5 : Int))),(D.v (.int .u32 (2 : Int))),(D.v (.int .u32 (5 : Int))),(D.v (.int .u32 (29 : Int))),(D.v (.int .u32 (32 : Int))),zU,zU,zU,zU,zU,zU,zU,zU,zU,zU,zU,zU]),(D.list 0 (some 0) []),zI,(D.v (.int .u8 (3 : Int))),(D.v (.int .u32 (1 : Int))),(D.v (.int .u32 (2 : Int))),(D.v (.int .u32 (3 : Int))),zU,zU,zU,zU,zU,zU,zU,zU,zU,zU,zU,zU,zU,(D.list 2 (some 2) [(D.v (.int .u8 (3 : Int))),(D.v (.int .u32 (1 : Int))),(D.v (.int .u32 (2 : Int))),(D.v (.int .u32 (4 : Int))),zU,zU,zU,zU,zU,zU,zU,zU,zU,zU,zU,zU,zU,(D.v (.int .u8 (3 : Int))),(D.v (.int .u32 (1 : Int))),(D.v (.int .u32 (2 : Int))),(D.v (.int .u32 (5 : Int))),zU,zU,zU,zU,zU,zU,zU,zU,zU,zU,zU,zU,zU]),(D.list 0 (some 0) []),zI,(D.v (.int .u8 (5 : Int))),(D.v (.int .u32 (2 : Int))),(D.v (.int .u32 (5 : Int))),(D.v (.int .u32 (29 : Int))),(D.v (.int .u32 (32 : Int))),zU,zU,zU,zU,zU,zU,zU,zU,zU,zU,zU,zU,(D.list 1 (some 1) [(D.v (.int .u8 (5 : Int))),(D.v (.int .u32 (2 : Int))),(D.v (.int .u32 (5 : Int))),(D.v (.int .u32 (29 : Int))),(D.v (.int .u32 (32 : Int))),zU,zU,zU,zU,zU,zU,zU,zU,zU,zU,zU,zU]),(D.list 0 (some 0) [])])]),(D.agg [(D.v (.int .i64 (1 : Int))),(D.v (.int .u8 (3 : Int))),(D.v (.int .u32 (1 : Int))),(D.v (.int .u32 (2 : Int))),(D.v (.int .u32 (4 : Int))),zU,zU,zU,zU,zU,zU,zU,zU,zU,zU,zU,zU,zU,(D.list 1 (some 1) [(D.v (.int .u8 (3 : Int))),(D.v (.int .u32 (1 : Int))),(D.v (.int .u32 (2 : Int))),(D.v (.int .u32 (4 : Int))),zU,zU,zU,zU,zU,zU,zU,zU,zU,zU,zU,zU,zU]),(D.list 0 (some 0) [])])]
def Z1bq : D := (D.tup [(D.agg [(D.list 4 (some 4) [(D.v (.int .i64 (-1 : Int))),(D.v (.int .u8 (5 : Int))),(D.v (.int .u32 (2 : Int))),(D.v (.int .u32 (5 : Int))),(D.v (.int .u32 (29 : Int))),(D.v (.int .u32 (32 : Int))),zU,zU,zU,zU,zU,zU,zU,zU,zU,zU,zU,zU,(D.list 1 (some 1) [(D.v (.int .u8 (5 : Int))),(D.v (.int .u32 (2 : Int))),(D.v (.int .u32 (5 : Int))),(D.v (.int .u32 (29 : Int))),(D.v (.int .u32 (32 : Int))),zU,zU,zU,zU,zU,zU,zU,zU,zU,zU,zU,zU]),(D.list 0 (some 0) []),zI,(D.v (.int .u8 (3 : Int))),(D.v (.int .u32 (1 : Int))),(D.v (.int .u32 (2 : Int))),(D.v (.int .u32 (3 : Int))),zU,zU,zU,zU,zU,zU,zU,zU,zU,zU,zU,zU,zU,(D.list 2 (some 2) [(D.v (.int .u8 (3 : Int))),(D.v (.int .u32 (1 : Int))),(D.v (.int .u32 (2 : Int))),(D.v (.int .u32 (4 : Int))),zU,zU,zU,zU,zU,zU,zU,zU,zU,zU,zU,zU,zU,(D.v (.int .u8 (3 : Int))),(D.v (.int .u32 (1 : Int))),(D.v (.int .u32 (2 : Int))),(D.v (.int .u32 (5 : Int))),zU,zU,zU,zU,zU,zU,zU,zU,zU,zU,zU,zU,zU]),(D.list 0 (some 0) []),zI,(D.v (.int .u8 (5 : Int))),(D.v (.int .u32 (2 : Int))),(D.v (.int .u32 (5 : Int))),(D.v (.int .u32 (29 : Int))),(D.v (.int .u32 (32 : Int))),zU,zU,zU,zU,zU,zU,zU,zU,zU,zU,zU,zU,(D.list 1 (some 1) [(D.v (.int .u8 (5 : Int))),(D.v (.int .u32 (2 : Int))),(D.v (.int .u32 (5 : Int))),(D.v (.int .u32 (29 : Int))),(D.v (.int .u32 (32 : Int))),zU,zU,zU,zU,zU,zU,zU,zU,zU,zU,zU,zU]),(D.list 0 (some 0) []),(D.v (.int .i64 (1 : Int))),(D.v (.int .u8 (3 : Int))),(D.v (.int .u32 (1 : Int))),(D.v (.int .u32 (2 : Int))),(D.v (.int .u32 (4 : Int))),zU,zU,zU,zU,zU,zU,zU,zU,zU,zU,zU,zU,zU,(D.list 1 (some 1) [(D.v (.int .u8 (3 : Int))),(D.v (.int .u32 (1 : Int))),(D.v (.int .u32 (2 : Int))),(D.v (.int .u32 (4 : Int))),zU,zU,zU,zU,zU,zU,zU,zU,zU,zU,zU,zU,zU]),(D.list 0 (some 0) [])])]),(D.v (.int .i64 (3 : Int))),zI])
def Z1br : List D := [(D.agg [(D.list 4 (some 4) [(D.v (.int .i64 (-1 : Int))),(D.v (.int .u8 (5 : Int))),(D.v (.int .u32 (2 : Int))),(D.v (.int .u32 (5 : Int))),(D.v (.int .u32 (29 : Int))),(D.v (.int .u32 (32 : Int))),zU,zU,zU,zU,zU,zU,zU,zU,zU,zU,zU,zU,(D.list 1 (some 1) [(D.v (.int .u8 (5 : Int))),(D.v (.int .u32 (2 : Int))),(D.v (.int .u32 (5 : Int))),(D.v (.int .u32 (29 : Int))),(D.v (.int .u32 (32 : Int))),zU,zU,zU,zU,zU,zU,zU,zU,zU,zU,zU,zU]),(D.list 0 (some 0) []),zI,(D.v (.int .u8 (3 : Int))),(D.v (.int .u32 (1 : Int))),(D.v (.int .u32 (2 : Int))),(D.v (.int .u32 (3 : Int))),zU,zU,zU,zU,zU,zU,zU,zU,zU,zU,zU,zU,zU,(D.list 2 (some 2) [(D.v (.int .u8 (3 : Int))),(D.v (.int .u32 (1 : Int))),(D.v (.int .u32 (2 : Int))),(D.v (.int .u32 (4 : Int))),zU,zU,zU,zU,zU,zU,zU,zU,zU,zU,zU,zU,zU,(D.v (.int .u8 (3 : Int))),(D.v (.int .u32 (1 : Int))),(D.v (.int .u32 (2 : Int))),(D.v (.int .u32 (5 : Int))),zU,zU,zU,zU,zU,zU,zU,zU,zU,zU,zU,zU,zU]),(D.list 0 (some 0) []),zI,(D.v (.int .u8 (5 : Int))),(D.v (.int .u32 (2 : Int))),(D.v (.int .u32 (5 : Int))),(D.v (.int .u32 (29 : Int))),(D.v (.int .u32 (32 : Int))),zU,zU,zU,zU,zU,zU,zU,zU,zU,zU,zU,zU,(D.list 1 (some 1) [(D.v (.int .u8 (5 : Int))),(D.v (.int .u32 (2 : Int))),(D.v (.int .u32 (5 : Int))),(D.v (.int .u32 (29 : Int))),(D.v (.int .u32 (32 : Int))),zU,zU,zU,zU,zU,zU,zU,zU,zU,zU,zU,zU]),(D.list 0 (some 0) []),(D.v (.int .i64 (1 : Int))),(D.v (.int .u8 (3 : Int))),(D.v (.int .u32 (1 : Int))),(D.v (.int .u32 (2 : Int))),(D.v (.int .u32 (4 : Int))),zU,zU,zU,zU,zU,zU,zU,zU,zU,zU,zU,zU,zU,(D.list 1 (some 1) [(D.v (.int .u8 (3 : Int))),(D.v (.int .u32 (1 : Int))),(D.v (.int .u32 (2 : Int))),(D.v (.int .u32 (4 : Int))),zU,zU,zU,zU,zU,zU,zU,zU,zU,zU,zU,zU,zU]),(D.list 0 (some 0) [])])]),(D.agg [(D.v (.int .i64 (1 : Int))),(D.v (.int .u8 (3 : Int))),(D.v (.int .u32 (1 : Int))),(D.v (.int .u32 (2 : Int))),(D.v (.int .u32 (5 : Int))),zU,zU,zU,zU,zU,zU,zU,zU,zU,zU,zU,zU,zU,(D.list 1 (some 1) [(D.v (.int .u8 (3 : Int))),(D.v (.int .u32 (1 : Int))),(D.v (.int .u32 (2 : Int))),(D.v (.int .u32 (5 : Int))),zU,zU,zU,zU,zU,zU,zU,zU,zU,zU,zU,zU,zU]),(D.list 0 (some 0) [])])]
def Z1bs : D := (D.tup [(D.agg [(D.list 5 (some 5) [(D.v (.int .i64 (-1 : Int))),(D.v (.int .u8 (5 : Int))),(D.v (.int .u32 (2 : Int))),(D.v (.int .u32 (5 : Int))),(D.v (.int .u32 (29 : Int))),(D.v (.int .u32 (32 : Int))),zU,zU,zU,zU,zU,zU,zU,zU,zU,zU,zU,zU,(D.list 1 (some 1) [(D.v (.int .u8 (5 : Int))),(D.v (.int .u32 (2 : Int))),(D.v (.int .u32 (5 : Int))),(D.v (.int .u32 (29 : Int))),(D.v (.int .u32 (32 : Int))),zU,zU,zU,zU,zU,zU,zU,zU,zU,zU,zU,zU]),(D.list 0 (some 0) []),zI,(D.v (.int .u8 (3 : Int))),(D.v (.int .u32 (1 : Int))),(D.v (.int .u32 (2 : Int))),(D.v (.int .u32 (3 : Int))),zU,zU,zU,zU,zU,zU,zU,zU,zU,zU,zU,zU,zU,(D.list 2 (some 2) [(D.v (.int .u8 (3 : Int))),(D.v (.int .u32 (1 : Int))),(D.v (.int .u32 (2 : Int))),(D.v (.int .u32 (4 : Int))),zU,zU,zU,zU,zU,zU,zU,zU,zU,zU,zU,zU,zU,(D.v (.int .u8 (3 : Int))),(D.v (.int .u32 (1 : Int))),(D.v (.int .u32 (2 : Int))),(D.v (.int .u32 (5 : Int))),zU,zU,zU,zU,zU,zU,zU,zU,zU,zU,zU,zU,zU]),(D.list 0 (some 0) []),zI,(D.v (.int .u8 (5 : Int))),(D.v (.int .u32 (2 : Int))),(D.v (.int .u32 (5 : Int))),(D.v (.int .u32 (29 : Int))),(D.v (.int .u32 (32 : Int))),zU,zU,zU,zU,zU,zU,zU,zU,zU,zU,zU,zU,(D.list 1 (some 1) [(D.v (.int .u8 (5 : Int))),(D.v (.int .u32 (2 : Int))),(D.v (.int .u32 (5 : Int))),(D.v (.int .u32 (29 : Int))),(D.v (.int .u32 (32 : Int))),zU,zU,zU,zU,zU,zU,zU,zU,zU,zU,zU,zU]),(D.list 0 (some 0) []),(D.v (.int .i64 (1 : Int))),(D.v (.int .u8 (3 : Int))),(D.v (.int .u32 (1 : Int))),(D.v (.int .u32 (2 : Int))),(D.v (.int .u32 (4 : Int))),zU,zU,zU,zU,zU,zU,zU,zU,zU,zU,zU,zU,zU,(D.list 1 (some 1) [(D.v (.int .u8 (3 : Int))),(D.v (.int .u32 (1 : Int))),(D.v (.int .u32 (2 : Int))),(D.v (.int .u32 (4 : Int))),zU,zU,zU,zU,zU,zU,zU,zU,zU,zU,zU,zU,zU]),(D.list 0 (some 0) []),(D.v (.int .i64 (1 : Int))),(D.v (.int .u8 (3 : Int))),(D.v (.int .u32 (1 : Int))),(D.v (.int .u32 (2 : Int))),(D.v (.int .u32 (5 : Int))),zU,zU,zU,zU,zU,zU,zU,zU,zU,zU,zU,zU,zU,(D.list 1 (some 1) [(D.v (.int .u8 (3 : Int))),(D.v (.int .u32 (1 : Int))),(D.v (.int .u32 (2 : Int))),(D.v (.int .u32 (5 : Int))),zU,zU,zU,zU,zU,zU,zU,zU,zU,zU,zU,zU,zU]),(D.list 0 (some 0) [])])]),(D.v (.int .i64 (4 : Int))),zI])
def Z1bt : List D := [(D.agg [(D.list 5 (some 5) [(D.v (.int .i64 (-1 : Int))),(D.v (.int .u8 (5 : Int))),(D.v (.int .u32 (2 : Int))),(D.v (.int .u32 (5 : Int))),(D.v (.int .u32 (29 : Int))),(D.v (.int .u32 (32 : Int))),zU,zU,zU,zU,zU,zU,zU,zU,zU,zU,zU,zU,(D.list 1 (some 1) [(D.v (.int .u8 (5 : Int))),(D.v (.int .u32 (2 : Int))),(D.v (.int .u32 (5 : Int))),(D.v (.int .u32 (29 : Int))),(D.v (.int .u32 (32 : Int))),zU,zU,zU,zU,zU,zU,zU,zU,zU,zU,zU,zU]),(D.list 0 (some 0) []),zI,(D.v (.int .u8 (3 : Int))),(D.v (.int .u32 (1 : Int))),(D.v (.int .u32 (2 : Int))),(D.v (.int .u32 (3 : Int))),zU,zU,zU,zU,zU,zU,zU,zU,zU,zU,zU,zU,zU,(D.list 2 (some 2) [(D.v (.int .u8 (3 : Int))),(D.v (.int .u32 (1 : Int))),(D.v (.int .u32 (2 : Int))),(D.v (.int .u32 (4 : Int))),zU,zU,zU,zU,zU,zU,zU,zU,zU,zU,zU,zU,zU,(D.v (.int .u8 (3 : Int))),(D.v (.int .u32 (1 : Int))),(D.v (.int .u32 (2 : Int))),(D.v (.int .u32 (5 : Int))),zU,zU,zU,zU,zU,zU,zU,zU,zU,zU,zU,zU,zU]),(D.list 0 (some 0) []),zI,(D.v (.int .u8 (5 : Int))),(D.v (.int .u32 (2 : Int))),(D.v (.int .u32 (5 : Int))),(D.v (.int .u32 (29 : Int))),(D.v (.int .u32 (32 : Int))),zU,zU,zU,zU,zU,zU,zU,zU,zU,zU,zU,zU,(D.list 1 (some 1) [(D.v (.int .u8 (5 : Int))),(D.v (.int .u32 (2 : Int))),(D.v (.int .u32 (5 : Int))),(D.v (.int .u32 (29 : Int))),(D.v (.int .u32 (32 : Int))),zU,zU,zU,zU,zU,zU,zU,zU,zU,zU,zU,zU]),(D.list 0 (some 0) []),(D.v (.int .i64 (1 : Int))),(D.v (.int .u8 (3 : Int))),(D.v (.int .u32 (1 : Int))),(D.v (.int .u32 (2 : Int))),(D.v (.int .u32 (4 : Int))),zU,zU,zU,zU,zU,zU,zU,zU,zU,zU,zU,zU,zU,(D.list 1 (some 1) [(D.v (.int .u8 (3 : Int))),(D.v (.int .u32 (1 : Int))),(D.v (.int .u32 (2 : Int))),(D.v (.int .u32 (4 : Int))),zU,zU,zU,zU,zU,zU,zU,zU,zU,zU,zU,zU,zU]),(D.list 0 (some 0) []),(D.v (.int .i64 (1 : Int))),(D.v (.int .u8 (3 : Int))),(D.v (.int .u32 (1 : Int))),(D.v (.int .u32 (2 : Int))),(D.v (.int .u32 (5 : Int))),zU,zU,zU,zU,zU,zU,zU,zU,zU,zU,zU,zU,zU,(D.list 1 (some 1) [(D.v (.int .u8 (3 : Int))),(D.v (.int .u32 (1 : Int))),(D.v (.int .u32 (2 : Int))),(D.v (.int .u32 (5 : Int))),zU,zU,zU,zU,zU,zU,zU,zU,zU,zU,zU,zU,zU]),(D.list 0 (some 0) [])])]),(D.agg [(D.v (.int .i64 (1 : Int))),(D.v (.int .u8 (3 : Int))),(D.v (.int .u32 (1 : Int))),(D.v (.int .u32 (2 : Int))),(D.v (.int .u32 (4 : Int))),zU,zU,zU,zU,zU,zU,zU,zU,zU,zU,zU,zU,zU,(D.list 0 (some 0) []),(D.list 0 (some 0) [])])]
def Z1bu : D := (D.tup [(D.agg [(D.list 0 (some 0) [])]),zI,(D.v (.int .i64 (20 : Int)))])
def Z1bv : List D := [(D.agg [(D.list 5 (some 5) [(D.v (.int .i64 (-1 : Int))),(D.v (.int .u8 (5 : Int))),(D.v (.int .u32 (2 : Int))),(D.v (.int .u32 (5 : Int))),(D.v (.int .u32 (29 : Int))),(D.v (.int .u32 (32 : Int))),zU,zU,zU,zU,zU,zU,zU,zU,zU,zU,zU,zU,(D.list 1 (some 1) [(D.v (.int .u8 (5 : Int))),(D.v (.int .u32 (2 : Int))),(D.v (.int .u32 (5 : Int))),(D.v (.int .u32 (29 : Int))),(D.v (.int .u32 (32 : Int))),zU,zU,zU,zU,zU,zU,zU,zU,zU,zU,zU,zU]),(D.list 0 (some 0) []),zI,(D.v (.int .u8 (3 : Int))),(D.v (.int .u32 (1 : Int))),(D.v (.int .u32 (2 : Int))),(D.v (.int .u32 (3 : Int))),zU,zU,zU,zU,zU,zU,zU,zU,zU,zU,zU,zU,zU,(D.list 2 (some 2) [(D.v (.int .u8 (3 : Int))),(D.v (.int .u32 (1 : Int))),(D.v (.int .u32 (2 : Int))),(D.v (.int .u32 (4 : Int))),zU,zU,zU,zU,zU,zU,zU,zU,zU,zU,zU,zU,zU,(D.v (.int .u8 (3 : Int))),(D.v (.int .u32 (1 : Int))),(D.v (.int .u32 (2 : Int))),(D.v (.int .u32 (5 : Int))),zU,zU,zU,zU,zU,zU,zU,zU,zU,zU,zU,zU,zU]),(D.list 0 (some 0) []),zI,(D.v (.int .u8 (5 : Int))),(D.v (.int .u32 (2 : Int))),(D.v (.int .u32 (5 : Int))),(D.v (.int .u32 (29 : Int))),(D.v (.int .u32 (32 : Int))),zU,zU,zU,zU,zU,zU,zU,zU,zU,zU,zU,zU,(D.list 1 (some 1) [(D.v (.int .u8 (5 : Int))),(D.v (.int .u32 (2 : Int))),(D.v (.int .u32 (5 : Int))),(D.v (.int .u32 (29 : Int))),(D.v (.int .u32 (32 : Int))),zU,zU,zU,zU,zU,zU,zU,zU,zU,zU,zU,zU]),(D.list 0 (some 0) []),(D.v (.int .i64 (1 : Int))),(D.v (.int .u8 (3 : Int))),(D.v (.int .u32 (1 : Int))),(D.v (.int .u32 (2 : Int))),(D.v (.int .u32 (4 : Int))),zU,zU,zU,zU,zU,zU,zU,zU,zU,zU,zU,zU,zU,(D.list 1 (some 1) [(D.v (.int .u8 (3 : Int))),(D.v (.int .u32 (1 : Int))),(D.v (.int .u32 (2 : Int))),(D.v (.int .u32 (4 : Int))),zU,zU,zU,zU,zU,zU,zU,zU,zU,zU,zU,zU,zU]),(D.list 0 (some 0) []),(D.v (.int .i64 (1 : Int))),(D.v (.int .u8 (3 : Int))),(D.v (.int .u32 (1 : Int))),(D.v (.int .u32 (2 : Int))),(D.v (.int .u32 (5 : Int))),zU,zU,zU,zU,zU,zU,zU,zU,zU,zU,zU,zU,zU,(D.list 1 (some 1) [(D.v (.int .u8 (3 : Int))),(D.v (.int .u32 (1 : Int))),(D.v (.int .u32 (2 : Int))),(D.v (.int .u32 (5 : Int))),zU,zU,zU,zU,zU,zU,zU,zU,zU,zU,zU,zU,zU]),(D.list 0 (some 0) [])])]),(D.agg [(D.v (.int .i64 (9 : Int))),(D.v (.int .u8 (3 : Int))),(D.v (.int .u32 (1 : Int))),(D.v (.int .u32 (2 : Int))),(D.v (.int .u32 (4 : Int))),zU,zU,zU,zU,zU,zU,zU,zU,zU,zU,zU,zU,zU,(D.list 0 (some 0) []),(D.list 0 (some 0) [])])]
def Z1bw : D := (D.tup [(D.agg [(D.list 0 (some 0) [])]),zI,(D.v (.int .i64 (19 : Int)))])
theorem Z1pw : funD Tg Z8y 100000 60 Z2m Tryz.f25 Z1bl = some Z1bm := by kernel_rfl
theorem Z1px : funD Tg Z8y 100000 60 Z2m Tryz.f25 Z1bn = some Z1bo := by kernel_rfl
theorem Z1py : funD Tg Z8y 100000 60 Z2m Tryz.f25 Z1bp = some Z1bq := by kernel_rfl
theorem Z1pz : funD Tg Z8y 100000 60 Z2m Tryz.f25 Z1br = some Z1bs := by kernel_rfl
theorem Z1q0 : funD Tg Z8y 100000 60 Z2m Tryz.f25 Z1bt = some Z1bu := by kernel_rfl
theorem Z1q1 : funD Tg Z8y 100000 60 Z2m Tryz.f25 Z1bv = some Z1bw := by kernel_rfl
def Z105 (ds : List D) : Option D := if isT Z1bl ds then some Z1bm else (if isT Z1bn ds then some Z1bo else (if isT Z1bp ds then some Z1bq else (if isT Z1br ds then some Z1bs else (if isT Z1bt ds then some Z1bu else (if isT Z1bv ds then some Z1bw else (none))))))
theorem td_trees_Add : ∀ ds d,Z105 ds = some d → DataSem Tg 25 ds d := by
 intro ds d h
 unfold Z105 at h
 split at h
 ·rename_i ha; obtain rfl := isT_eq ha; cases h; exact Z7n Z1pw
 split at h
 ·rename_i ha; obtain rfl := isT_eq ha; cases h; exact Z7n Z1px
 split at h
 ·rename_i ha; obtain rfl := isT_eq ha; cases h; exact Z7n Z1py
 split at h
 ·rename_i ha; obtain rfl := isT_eq ha; cases h; exact Z7n Z1pz
 split at h
 ·rename_i ha; obtain rfl := isT_eq ha; cases h; exact Z7n Z1q0
 split at h
 ·rename_i ha; obtain rfl := isT_eq ha; cases h; exact Z7n Z1q1
 cases h
def Z1s : FnH := ⟨[],[]⟩
theorem Z47 : Enters Tg 57 := ⟨Tryz.f57,Tryz.func57,by kernel_rfl,by kernel_rfl⟩
noncomputable def Z62 : Hints := ⟨[],[(57,Tryz.f57,Z1s)],[203,205,206,208,148]⟩
theorem Zay {m n : Nat} {ds : List D} {d : D} (h : funD Tg Z62 m n Z1s Tryz.f57 ds = some d) : DataSem Tg 57 ds d := Z5 (H := Z62) SpOk.nil mixed (InlOk.cons Tryz.func57 Z47 InlOk.nil) Tryz.func57 Z47 h
def Zg6 : List D := [(D.list 2 none [(D.v (.int .i64 (-1 : Int))),(D.v (.int .u8 (5 : Int))),(D.v (.int .u32 (2 : Int))),(D.v (.int .u32 (5 : Int))),(D.v (.int .u32 (29 : Int))),(D.v (.int .u32 (32 : Int))),zU,zU,zU,zU,zU,zU,zU,zU,zU,zU,zU,zU,(D.list 1 (some 1) [(D.v (.int .u8 (5 : Int))),(D.v (.int .u32 (2 : Int))),(D.v (.int .u32 (5 : Int))),(D.v (.int .u32 (29 : Int))),(D.v (.int .u32 (32 : Int))),zU,zU,zU,zU,zU,zU,zU,zU,zU,zU,zU,zU]),(D.list 0 (some 0) []),zI,(D.v (.int .u8 (5 : Int))),(D.v (.int .u32 (2 : Int))),(D.v (.int .u32 (5 : Int))),(D.v (.int .u32 (29 : Int))),(D.v (.int .u32 (32 : Int))),zU,zU,zU,zU,zU,zU,zU,zU,zU,zU,zU,zU,(D.list 1 (some 1) [(D.v (.int .u8 (5 : Int))),(D.v (.int .u32 (2 : Int))),(D.v (.int .u32 (5 : Int))),(D.v (.int .u32 (29 : Int))),(D.v (.int .u32 (32 : Int))),zU,zU,zU,zU,zU,zU,zU,zU,zU,zU,zU,zU]),(D.list 0 (some 0) [])])]
def Zg7 : D := (D.list 2 (some 2) [(D.v (.int .i64 (-1 : Int))),(D.v (.int .u8 (5 : Int))),(D.v (.int .u32 (2 : Int))),(D.v (.int .u32 (5 : Int))),(D.v (.int .u32 (29 : Int))),(D.v (.int .u32 (32 : Int))),zU,zU,zU,zU,zU,zU,zU,zU,zU,zU,zU,zU,(D.list 1 (some 1) [(D.v (.int .u8 (5 : Int))),(D.v (.int .u32 (2 : Int))),(D.v (.int .u32 (5 : Int))),(D.v (.int .u32 (29 : Int))),(D.v (.int .u32 (32 : Int))),zU,zU,zU,zU,zU,zU,zU,zU,zU,zU,zU,zU]),(D.list 0 (some 0) []),zI,(D.v (.int .u8 (5 : Int))),(D.v (.int .u32 (2 : Int))),(D.v (.int .u32 (5 : Int))),(D.v (.int .u32 (29 : Int))),(D.v (.int .u32 (32 : Int))),zU,zU,zU,zU,zU,zU,zU,zU,zU,zU,zU,zU,(D.list 1 (some 1) [(D.v (.int .u8 (5 : Int))),(D.v (.int .u32 (2 : Int))),(D.v (.int .u32 (5 : Int))),(D.v (.int .u32 (29 : Int))),(D.v (.int .u32 (32 : Int))),zU,zU,zU,zU,zU,zU,zU,zU,zU,zU,zU,zU]),(D.list 0 (some 0) [])])
def Zg8 : List D := [(D.list 0 none [])]
def Zg9 : D := (D.list 0 (some 0) [])
theorem Zxo : funD Tg Z62 100000 60 Z1s Tryz.f57 Zg6 = some Zg7 := by kernel_rfl
theorem Zxp : funD Tg Z62 100000 60 Z1s Tryz.f57 Zg8 = some Zg9 := by kernel_rfl
def Z98 (ds : List D) : Option D := if isT Zg6 ds then some Zg7 else (if isT Zg8 ds then some Zg9 else (none))
theorem td_trees_clone_trees_Node : ∀ ds d,Z98 ds = some d → DataSem Tg 57 ds d := by
 intro ds d h
 unfold Z98 at h
 split at h
 ·rename_i ha; obtain rfl := isT_eq ha; cases h; exact Zay Zxo
 split at h
 ·rename_i ha; obtain rfl := isT_eq ha; cases h; exact Zay Zxp
 cases h
def Z4r : FnH := ⟨[(6,⟨(bm 117440660 97),[(7,1),(24,1)],none⟩),(15,⟨(bm 3940649673952400 97),[(7,1),(10,1),(11,20),(49,20)],none⟩)],[]⟩
theorem Zaz : Enters Tg 28 := ⟨Tryz.f28,Tryz.func28,by kernel_rfl,by kernel_rfl⟩
noncomputable def Zkc : Hints := ⟨[(41,Zjj),(53,Zp0),(57,Z98)],[(28,Tryz.f28,Z4r)],[203,205,206,208,148]⟩
theorem Zup {m n : Nat} {ds : List D} {d : D} (h : funD Tg Zkc m n Z4r Tryz.f28 ds = some d) : DataSem Tg 28 ds d := Z5 (H := Zkc) (SpOk.cons td_trees_Check (SpOk.cons td_trees_copied (SpOk.cons td_trees_clone_trees_Node SpOk.nil))) mixed (InlOk.cons Tryz.func28 Zaz InlOk.nil) Tryz.func28 Zaz h
def Z12r : List D := [(D.agg [(D.list 5 (some 5) [(D.v (.int .i64 (-1 : Int))),(D.v (.int .u8 (5 : Int))),(D.v (.int .u32 (2 : Int))),(D.v (.int .u32 (5 : Int))),(D.v (.int .u32 (29 : Int))),(D.v (.int .u32 (32 : Int))),zU,zU,zU,zU,zU,zU,zU,zU,zU,zU,zU,zU,(D.list 1 (some 1) [(D.v (.int .u8 (5 : Int))),(D.v (.int .u32 (2 : Int))),(D.v (.int .u32 (5 : Int))),(D.v (.int .u32 (29 : Int))),(D.v (.int .u32 (32 : Int))),zU,zU,zU,zU,zU,zU,zU,zU,zU,zU,zU,zU]),(D.list 0 (some 0) []),zI,(D.v (.int .u8 (3 : Int))),(D.v (.int .u32 (1 : Int))),(D.v (.int .u32 (2 : Int))),(D.v (.int .u32 (3 : Int))),zU,zU,zU,zU,zU,zU,zU,zU,zU,zU,zU,zU,zU,(D.list 2 (some 2) [(D.v (.int .u8 (3 : Int))),(D.v (.int .u32 (1 : Int))),(D.v (.int .u32 (2 : Int))),(D.v (.int .u32 (4 : Int))),zU,zU,zU,zU,zU,zU,zU,zU,zU,zU,zU,zU,zU,(D.v (.int .u8 (3 : Int))),(D.v (.int .u32 (1 : Int))),(D.v (.int .u32 (2 : Int))),(D.v (.int .u32 (5 : Int))),zU,zU,zU,zU,zU,zU,zU,zU,zU,zU,zU,zU,zU]),(D.list 0 (some 0) []),zI,(D.v (.int .u8 (5 : Int))),(D.v (.int .u32 (2 : Int))),(D.v (.int .u32 (5 : Int))),(D.v (.int .u32 (29 : Int))),(D.v (.int .u32 (32 : Int))),zU,zU,zU,zU,zU,zU,zU,zU,zU,zU,zU,zU,(D.list 1 (some 1) [(D.v (.int .u8 (5 : Int))),(D.v (.int .u32 (2 : Int))),(D.v (.int .u32 (5 : Int))),(D.v (.int .u32 (29 : Int))),(D.v (.int .u32 (32 : Int))),zU,zU,zU,zU,zU,zU,zU,zU,zU,zU,zU,zU]),(D.list 0 (some 0) []),(D.v (.int .i64 (1 : Int))),(D.v (.int .u8 (3 : Int))),(D.v (.int .u32 (1 : Int))),(D.v (.int .u32 (2 : Int))),(D.v (.int .u32 (4 : Int))),zU,zU,zU,zU,zU,zU,zU,zU,zU,zU,zU,zU,zU,(D.list 1 (some 1) [(D.v (.int .u8 (3 : Int))),(D.v (.int .u32 (1 : Int))),(D.v (.int .u32 (2 : Int))),(D.v (.int .u32 (4 : Int))),zU,zU,zU,zU,zU,zU,zU,zU,zU,zU,zU,zU,zU]),(D.list 0 (some 0) []),(D.v (.int .i64 (1 : Int))),(D.v (.int .u8 (3 : Int))),(D.v (.int .u32 (1 : Int))),(D.v (.int .u32 (2 : Int))),(D.v (.int .u32 (5 : Int))),zU,zU,zU,zU,zU,zU,zU,zU,zU,zU,zU,zU,zU,(D.list 1 (some 1) [(D.v (.int .u8 (3 : Int))),(D.v (.int .u32 (1 : Int))),(D.v (.int .u32 (2 : Int))),(D.v (.int .u32 (5 : Int))),zU,zU,zU,zU,zU,zU,zU,zU,zU,zU,zU,zU,zU]),(D.list 0 (some 0) [])])]),(D.list 1 (some 1) [(D.v (.int .i64 (1 : Int)))])]
def Z12s : D := (D.tup [(D.agg [(D.list 2 (some 2) [(D.v (.int .i64 (-1 : Int))),(D.v (.int .u8 (5 : Int))),(D.v (.int .u32 (2 : Int))),(D.v (.int .u32 (5 : Int))),(D.v (.int .u32 (29 : Int))),(D.v (.int .u32 (32 : Int))),zU,zU,zU,zU,zU,zU,zU,zU,zU,zU,zU,zU,(D.list 1 (some 1) [(D.v (.int .u8 (5 : Int))),(D.v (.int .u32 (2 : Int))),(D.v (.int .u32 (5 : Int))),(D.v (.int .u32 (29 : Int))),(D.v (.int .u32 (32 : Int))),zU,zU,zU,zU,zU,zU,zU,zU,zU,zU,zU,zU]),(D.list 0 (some 0) []),zI,(D.v (.int .u8 (5 : Int))),(D.v (.int .u32 (2 : Int))),(D.v (.int .u32 (5 : Int))),(D.v (.int .u32 (29 : Int))),(D.v (.int .u32 (32 : Int))),zU,zU,zU,zU,zU,zU,zU,zU,zU,zU,zU,zU,(D.list 1 (some 1) [(D.v (.int .u8 (5 : Int))),(D.v (.int .u32 (2 : Int))),(D.v (.int .u32 (5 : Int))),(D.v (.int .u32 (29 : Int))),(D.v (.int .u32 (32 : Int))),zU,zU,zU,zU,zU,zU,zU,zU,zU,zU,zU,zU]),(D.list 0 (some 0) [])])]),zI])
def Z12t : List D := [(D.agg [(D.list 5 (some 5) [(D.v (.int .i64 (-1 : Int))),(D.v (.int .u8 (5 : Int))),(D.v (.int .u32 (2 : Int))),(D.v (.int .u32 (5 : Int))),(D.v (.int .u32 (29 : Int))),(D.v (.int .u32 (32 : Int))),zU,zU,zU,zU,zU,zU,zU,zU,zU,zU,zU,zU,(D.list 1 (some 1) [(D.v (.int .u8 (5 : Int))),(D.v (.int .u32 (2 : Int))),(D.v (.int .u32 (5 : Int))),(D.v (.int .u32 (29 : Int))),(D.v (.int .u32 (32 : Int))),zU,zU,zU,zU,zU,zU,zU,zU,zU,zU,zU,zU]),(D.list 0 (some 0) []),zI,(D.v (.int .u8 (3 : Int))),(D.v (.int .u32 (1 : Int))),(D.v (.int .u32 (2 : Int))),(D.v (.int .u32 (3 : Int))),zU,zU,zU,zU,zU,zU,zU,zU,zU,zU,zU,zU,zU,(D.list 2 (some 2) [(D.v (.int .u8 (3 : Int))),(D.v (.int .u32 (1 : Int))),(D.v (.int .u32 (2 : Int))),(D.v (.int .u32 (4 : Int))),zU,zU,zU,zU,zU,zU,zU,zU,zU,zU,zU,zU,zU,(D.v (.int .u8 (3 : Int))),(D.v (.int .u32 (1 : Int))),(D.v (.int .u32 (2 : Int))),(D.v (.int .u32 (5 : Int))),zU,zU,zU,zU,zU,zU,zU,zU,zU,zU,zU,zU,zU]),(D.list 0 (some 0) []),zI,(D.v (.int .u8 (5 : Int))),(D.v (.int .u32 (2 : Int))),(D.v (.int .u32 (5 : Int))),(D.v (.int .u32 (29 : Int))),(D.v (.int .u32 (32 : Int))),zU,zU,zU,zU,zU,zU,zU,zU,zU,zU,zU,zU,(D.list 1 (some 1) [(D.v (.int .u8 (5 : Int))),(D.v (.int .u32 (2 : Int))),(D.v (.int .u32 (5 : Int))),(D.v (.int .u32 (29 : Int))),(D.v (.int .u32 (32 : Int))),zU,zU,zU,zU,zU,zU,zU,zU,zU,zU,zU,zU]),(D.list 0 (some 0) []),(D.v (.int .i64 (1 : Int))),(D.v (.int .u8 (3 : Int))),(D.v (.int .u32 (1 : Int))),(D.v (.int .u32 (2 : Int))),(D.v (.int .u32 (4 : Int))),zU,zU,zU,zU,zU,zU,zU,zU,zU,zU,zU,zU,zU,(D.list 1 (some 1) [(D.v (.int .u8 (3 : Int))),(D.v (.int .u32 (1 : Int))),(D.v (.int .u32 (2 : Int))),(D.v (.int .u32 (4 : Int))),zU,zU,zU,zU,zU,zU,zU,zU,zU,zU,zU,zU,zU]),(D.list 0 (some 0) []),(D.v (.int .i64 (1 : Int))),(D.v (.int .u8 (3 : Int))),(D.v (.int .u32 (1 : Int))),(D.v (.int .u32 (2 : Int))),(D.v (.int .u32 (5 : Int))),zU,zU,zU,zU,zU,zU,zU,zU,zU,zU,zU,zU,zU,(D.list 1 (some 1) [(D.v (.int .u8 (3 : Int))),(D.v (.int .u32 (1 : Int))),(D.v (.int .u32 (2 : Int))),(D.v (.int .u32 (5 : Int))),zU,zU,zU,zU,zU,zU,zU,zU,zU,zU,zU,zU,zU]),(D.list 0 (some 0) [])])]),(D.list 1 (some 1) [zI])]
def Z12u : D := (D.tup [(D.agg [(D.list 0 (some 0) [])]),zI])
theorem Z1hv : funD Tg Zkc 100000 60 Z4r Tryz.f28 Z12r = some Z12s := by kernel_rfl
theorem Z1hw : funD Tg Zkc 100000 60 Z4r Tryz.f28 Z12t = some Z12u := by kernel_rfl
def Zxq (ds : List D) : Option D := if isT Z12r ds then some Z12s else (if isT Z12t ds then some Z12u else (none))
theorem td_trees_Delete : ∀ ds d,Zxq ds = some d → DataSem Tg 28 ds d := by
 intro ds d h
 unfold Zxq at h
 split at h
 ·rename_i ha; obtain rfl := isT_eq ha; cases h; exact Zup Z1hv
 split at h
 ·rename_i ha; obtain rfl := isT_eq ha; cases h; exact Zup Z1hw
 cases h
def Z8f : FnH := ⟨[(6,⟨(bm 7340066 52),[(20,20)],some 1000000⟩)],[]⟩
def Zw4 : FnH := ⟨[(3,⟨(bm 15032385591 58),[(31,17)],some 1000000⟩),(9,⟨(bm 492581209243682 58),[(46,1)],some 1000000⟩)],[]⟩
def Zli : FnH := ⟨[],[]⟩
def Zth : FnH := ⟨[(38,⟨(bm 896 125),[],some 1000000⟩)],[]⟩
def Z12v : FnH := ⟨[],[]⟩
def Zy0 : FnH := ⟨[],[]⟩
def Zy1 : FnH := ⟨[],[]⟩
def Zp1 : FnH := ⟨[],[]⟩
def Zil : FnH := ⟨[],[]⟩
def Zjl : FnH := ⟨[],[]⟩
def Zcz : FnH := ⟨[],[]⟩
def Zjm : FnH := ⟨[],[]⟩
def Zbr : FnH := ⟨[],[]⟩
def Zhj : FnH := ⟨[],[]⟩
def Z10w : FnH := ⟨[(5,⟨(bm 28680 28),[(3,1),(12,1)],some 1000000⟩)],[]⟩
def Z10x : FnH := ⟨[],[]⟩
def Zmu : FnH := ⟨[],[]⟩
def Zga : FnH := ⟨[],[]⟩
def Zuc : FnH := ⟨[],[]⟩
def Zp2 : FnH := ⟨[],[]⟩
def Zy2 : FnH := ⟨[],[]⟩
def Zp3 : FnH := ⟨[],[]⟩
def Zp4 : FnH := ⟨[],[]⟩
def Zjn : FnH := ⟨[(1,⟨(bm 19 167),[],some 1000000⟩)],[]⟩
def Zmv : FnH := ⟨[(11,⟨(bm 130075 102),[(10,1)],some 1000000⟩),(18,⟨(bm 146459 102),[(10,1)],some 1000000⟩)],[]⟩
def Zjo : FnH := ⟨[],[]⟩
def Zmw : FnH := ⟨[],[]⟩
def Zjp : FnH := ⟨[],[]⟩
def Zjq : FnH := ⟨[],[]⟩
theorem Zhv : Enters Tg 36 := ⟨Tryz.f36,Tryz.func36,by kernel_rfl,by kernel_rfl⟩
theorem Zw5 : Enters Tg 67 := ⟨Tryz.f67,Tryz.func67,by kernel_rfl,by kernel_rfl⟩
theorem Zlj : Enters Tg 68 := ⟨Tryz.f68,Tryz.func68,by kernel_rfl,by kernel_rfl⟩
theorem Zti : Enters Tg 70 := ⟨Tryz.f70,Tryz.func70,by kernel_rfl,by kernel_rfl⟩
theorem Z12w : Enters Tg 91 := ⟨Tryz.f91,Tryz.func91,by kernel_rfl,by kernel_rfl⟩
theorem Zy3 : Enters Tg 107 := ⟨Tryz.f107,Tryz.func107,by kernel_rfl,by kernel_rfl⟩
theorem Zy4 : Enters Tg 108 := ⟨Tryz.f108,Tryz.func108,by kernel_rfl,by kernel_rfl⟩
theorem Zp5 : Enters Tg 92 := ⟨Tryz.f92,Tryz.func92,by kernel_rfl,by kernel_rfl⟩
theorem Zim : Enters Tg 109 := ⟨Tryz.f109,Tryz.func109,by kernel_rfl,by kernel_rfl⟩
theorem Zjr : Enters Tg 93 := ⟨Tryz.f93,Tryz.func93,by kernel_rfl,by kernel_rfl⟩
theorem Zd0 : Enters Tg 90 := ⟨Tryz.f90,Tryz.func90,by kernel_rfl,by kernel_rfl⟩
theorem Zjs : Enters Tg 110 := ⟨Tryz.f110,Tryz.func110,by kernel_rfl,by kernel_rfl⟩
theorem Zbs : Enters Tg 69 := ⟨Tryz.f69,Tryz.func69,by kernel_rfl,by kernel_rfl⟩
theorem Zhk : Enters Tg 72 := ⟨Tryz.f72,Tryz.func72,by kernel_rfl,by kernel_rfl⟩
theorem Z10y : Enters Tg 71 := ⟨Tryz.f71,Tryz.func71,by kernel_rfl,by kernel_rfl⟩
theorem Z10z : Enters Tg 80 := ⟨Tryz.f80,Tryz.func80,by kernel_rfl,by kernel_rfl⟩
theorem Zmx : Enters Tg 94 := ⟨Tryz.f94,Tryz.func94,by kernel_rfl,by kernel_rfl⟩
theorem Zgb : Enters Tg 111 := ⟨Tryz.f111,Tryz.func111,by kernel_rfl,by kernel_rfl⟩
theorem Zud : Enters Tg 129 := ⟨Tryz.f129,Tryz.func129,by kernel_rfl,by kernel_rfl⟩
theorem Zp6 : Enters Tg 130 := ⟨Tryz.f130,Tryz.func130,by kernel_rfl,by kernel_rfl⟩
theorem Zy5 : Enters Tg 155 := ⟨Tryz.f155,Tryz.func155,by kernel_rfl,by kernel_rfl⟩
theorem Zp7 : Enters Tg 154 := ⟨Tryz.f154,Tryz.func154,by kernel_rfl,by kernel_rfl⟩
theorem Zp8 : Enters Tg 156 := ⟨Tryz.f156,Tryz.func156,by kernel_rfl,by kernel_rfl⟩
theorem Zjt : Enters Tg 131 := ⟨Tryz.f131,Tryz.func131,by kernel_rfl,by kernel_rfl⟩
theorem Zmy : Enters Tg 132 := ⟨Tryz.f132,Tryz.func132,by kernel_rfl,by kernel_rfl⟩
theorem Zju : Enters Tg 157 := ⟨Tryz.f157,Tryz.func157,by kernel_rfl,by kernel_rfl⟩
theorem Zmz : Enters Tg 158 := ⟨Tryz.f158,Tryz.func158,by kernel_rfl,by kernel_rfl⟩
theorem Zjv : Enters Tg 174 := ⟨Tryz.f174,Tryz.func174,by kernel_rfl,by kernel_rfl⟩
theorem Zjw : Enters Tg 175 := ⟨Tryz.f175,Tryz.func175,by kernel_rfl,by kernel_rfl⟩
noncomputable def Z110 : Hints := ⟨[(41,Zjj),(77,Zha),(95,tp_strings_Join)],[(36,Tryz.f36,Z8f),(67,Tryz.f67,Zw4),(68,Tryz.f68,Zli),(70,Tryz.f70,Zth),(91,Tryz.f91,Z12v),(107,Tryz.f107,Zy0),(108,Tryz.f108,Zy1),(92,Tryz.f92,Zp1),(109,Tryz.f109,Zil),(93,Tryz.f93,Zjl),(90,Tryz.f90,Zcz),(110,Tryz.f110,Zjm),(69,Tryz.f69,Zbr),(72,Tryz.f72,Zhj),(71,Tryz.f71,Z10w),(80,Tryz.f80,Z10x),(94,Tryz.f94,Zmu),(111,Tryz.f111,Zga),(129,Tryz.f129,Zuc),(130,Tryz.f130,Zp2),(155,Tryz.f155,Zy2),(154,Tryz.f154,Zp3),(156,Tryz.f156,Zp4),(131,Tryz.f131,Zjn),(132,Tryz.f132,Zmv),(157,Tryz.f157,Zjo),(158,Tryz.f158,Zmw),(174,Tryz.f174,Zjp),(175,Tryz.f175,Zjq)],[203,205,206,208,148]⟩
theorem Z1g0 {m n : Nat} {ds : List D} {d : D} (h : funD Tg Z110 m n Z8f Tryz.f36 ds = some d) : DataSem Tg 36 ds d := Z5 (H := Z110) (SpOk.cons td_trees_Check (SpOk.cons td_oids_Check (SpOk.cons td_strings_Join SpOk.nil))) mixed (InlOk.cons Tryz.func36 Zhv (InlOk.cons Tryz.func67 Zw5 (InlOk.cons Tryz.func68 Zlj (InlOk.cons Tryz.func70 Zti (InlOk.cons Tryz.func91 Z12w (InlOk.cons Tryz.func107 Zy3 (InlOk.cons Tryz.func108 Zy4 (InlOk.cons Tryz.func92 Zp5 (InlOk.cons Tryz.func109 Zim (InlOk.cons Tryz.func93 Zjr (InlOk.cons Tryz.func90 Zd0 (InlOk.cons Tryz.func110 Zjs (InlOk.cons Tryz.func69 Zbs (InlOk.cons Tryz.func72 Zhk (InlOk.cons Tryz.func71 Z10y (InlOk.cons Tryz.func80 Z10z (InlOk.cons Tryz.func94 Zmx (InlOk.cons Tryz.func111 Zgb (InlOk.cons Tryz.func129 Zud (InlOk.cons Tryz.func130 Zp6 (InlOk.cons Tryz.func155 Zy5 (InlOk.cons Tryz.func154 Zp7 (InlOk.cons Tryz.func156 Zp8 (InlOk.cons Tryz.func131 Zjt (InlOk.cons Tryz.func132 Zmy (InlOk.cons Tryz.func157 Zju (InlOk.cons Tryz.func158 Zmz (InlOk.cons Tryz.func174 Zjv (InlOk.cons Tryz.func175 Zjw InlOk.nil))))))))))))))))))))))))))))) Tryz.func36 Zhv h
def Z19d : List D := [(D.agg [(D.list 5 (some 5) [(D.v (.int .i64 (-1 : Int))),(D.v (.int .u8 (5 : Int))),(D.v (.int .u32 (2 : Int))),(D.v (.int .u32 (5 : Int))),(D.v (.int .u32 (29 : Int))),(D.v (.int .u32 (32 : Int))),zU,zU,zU,zU,zU,zU,zU,zU,zU,zU,zU,zU,(D.list 1 (some 1) [(D.v (.int .u8 (5 : Int))),(D.v (.int .u32 (2 : Int))),(D.v (.int .u32 (5 : Int))),(D.v (.int .u32 (29 : Int))),(D.v (.int .u32 (32 : Int))),zU,zU,zU,zU,zU,zU,zU,zU,zU,zU,zU,zU]),(D.list 0 (some 0) []),zI,(D.v (.int .u8 (3 : Int))),(D.v (.int .u32 (1 : Int))),(D.v (.int .u32 (2 : Int))),(D.v (.int .u32 (3 : Int))),zU,zU,zU,zU,zU,zU,zU,zU,zU,zU,zU,zU,zU,(D.list 2 (some 2) [(D.v (.int .u8 (3 : Int))),(D.v (.int .u32 (1 : Int))),(D.v (.int .u32 (2 : Int))),(D.v (.int .u32 (4 : Int))),zU,zU,zU,zU,zU,zU,zU,zU,zU,zU,zU,zU,zU,(D.v (.int .u8 (3 : Int))),(D.v (.int .u32 (1 : Int))),(D.v (.int .u32 (2 : Int))),(D.v (.int .u32 (5 : Int))),zU,zU,zU,zU,zU,zU,zU,zU,zU,zU,zU,zU,zU]),(D.list 0 (some 0) []),zI,(D.v (.int .u8 (5 : Int))),(D.v (.int .u32 (2 : Int))),(D.v (.int .u32 (5 : Int))),(D.v (.int .u32 (29 : Int))),(D.v (.int .u32 (32 : Int))),zU,zU,zU,zU,zU,zU,zU,zU,zU,zU,zU,zU,(D.list 1 (some 1) [(D.v (.int .u8 (5 : Int))),(D.v (.int .u32 (2 : Int))),(D.v (.int .u32 (5 : Int))),(D.v (.int .u32 (29 : Int))),(D.v (.int .u32 (32 : Int))),zU,zU,zU,zU,zU,zU,zU,zU,zU,zU,zU,zU]),(D.list 0 (some 0) []),(D.v (.int .i64 (1 : Int))),(D.v (.int .u8 (3 : Int))),(D.v (.int .u32 (1 : Int))),(D.v (.int .u32 (2 : Int))),(D.v (.int .u32 (4 : Int))),zU,zU,zU,zU,zU,zU,zU,zU,zU,zU,zU,zU,zU,(D.list 1 (some 1) [(D.v (.int .u8 (3 : Int))),(D.v (.int .u32 (1 : Int))),(D.v (.int .u32 (2 : Int))),(D.v (.int .u32 (4 : Int))),zU,zU,zU,zU,zU,zU,zU,zU,zU,zU,zU,zU,zU]),(D.list 0 (some 0) []),(D.v (.int .i64 (1 : Int))),(D.v (.int .u8 (3 : Int))),(D.v (.int .u32 (1 : Int))),(D.v (.int .u32 (2 : Int))),(D.v (.int .u32 (5 : Int))),zU,zU,zU,zU,zU,zU,zU,zU,zU,zU,zU,zU,zU,(D.list 1 (some 1) [(D.v (.int .u8 (3 : Int))),(D.v (.int .u32 (1 : Int))),(D.v (.int .u32 (2 : Int))),(D.v (.int .u32 (5 : Int))),zU,zU,zU,zU,zU,zU,zU,zU,zU,zU,zU,zU,zU]),(D.list 0 (some 0) [])])])]
def Z19e : D := (D.tup [(D.v (.string (ByteArray.mk #[50,46,53,46,50,57,46,51,50,46,48,32,45,62,32,50,46,53,46,50,57,46,51,50,46,48,10,32,49,46,50,46,51,32,45,62,32,49,46,50,46,52,32,49,46,50,46,53,10,32,32,49,46,50,46,52,32,45,62,32,49,46,50,46,52,10,32,32,49,46,50,46,53,32,45,62,32,49,46,50,46,53,10,32,50,46,53,46,50,57,46,51,50,46,48,32,45,62,32,50,46,53,46,50,57,46,51,50,46,48,10]))),zI])
theorem Z1o2 : funD Tg Z110 100000 60 Z8f Tryz.f36 Z19d = some Z19e := by kernel_rfl
def Z14f (ds : List D) : Option D := if isT Z19d ds then some Z19e else (none)
theorem td_trees_Text : ∀ ds d,Z14f ds = some d → DataSem Tg 36 ds d := by
 intro ds d h
 unfold Z14f at h
 split at h
 ·rename_i ha; obtain rfl := isT_eq ha; cases h; exact Z1g0 Z1o2
 cases h
def Zae : FnH := ⟨[],[]⟩
theorem Zm4 : Enters Tg 38 := ⟨Tryz.f38,Tryz.func38,by kernel_rfl,by kernel_rfl⟩
noncomputable def Z14g : Hints := ⟨[],[(38,Tryz.f38,Zae)],[203,205,206,208,148]⟩
theorem Z1hx {m n : Nat} {ds : List D} {d : D} (h : funD Tg Z14g m n Zae Tryz.f38 ds = some d) : DataSem Tg 38 ds d := Z5 (H := Z14g) SpOk.nil mixed (InlOk.cons Tryz.func38 Zm4 InlOk.nil) Tryz.func38 Zm4 h
def Z1bx : List D := []
def Z1by : D := (D.agg [(D.v (.int .u8 (5 : Int))),(D.v (.int .u32 (2 : Int))),(D.v (.int .u32 (5 : Int))),(D.v (.int .u32 (29 : Int))),(D.v (.int .u32 (32 : Int))),zU,zU,zU,zU,zU,zU,zU,zU,zU,zU,zU,zU])
theorem Z1q2 : funD Tg Z14g 100000 60 Zae Tryz.f38 Z1bx = some Z1by := by kernel_rfl
def Ztj (ds : List D) : Option D := if isT Z1bx ds then some Z1by else (none)
theorem td_ref23_Any : ∀ ds d,Ztj ds = some d → DataSem Tg 38 ds d := by
 intro ds d h
 unfold Ztj at h
 split at h
 ·rename_i ha; obtain rfl := isT_eq ha; cases h; exact Z1hx Z1q2
 cases h
def Zd1 : FnH := ⟨[],[]⟩
def Z19f : FnH := ⟨[],[]⟩
theorem Zqa : Enters Tg 74 := ⟨Tryz.f74,Tryz.func74,by kernel_rfl,by kernel_rfl⟩
theorem Z19g : Enters Tg 98 := ⟨Tryz.f98,Tryz.func98,by kernel_rfl,by kernel_rfl⟩
noncomputable def Z19h : Hints := ⟨[(77,Zha)],[(74,Tryz.f74,Zd1),(98,Tryz.f98,Z19f)],[203,205,206,208,148]⟩
theorem Z1kk {m n : Nat} {ds : List D} {d : D} (h : funD Tg Z19h m n Zd1 Tryz.f74 ds = some d) : DataSem Tg 74 ds d := Z5 (H := Z19h) (SpOk.cons td_oids_Check SpOk.nil) mixed (InlOk.cons Tryz.func74 Zqa (InlOk.cons Tryz.func98 Z19g InlOk.nil)) Tryz.func74 Zqa h
def Z1g1 : List D := []
def Z1g2 : D := (D.agg [(D.v (.int .u8 (5 : Int))),(D.v (.int .u32 (2 : Int))),(D.v (.int .u32 (5 : Int))),(D.v (.int .u32 (29 : Int))),(D.v (.int .u32 (32 : Int))),zU,zU,zU,zU,zU,zU,zU,zU,zU,zU,zU,zU])
theorem Z1tn : funD Tg Z19h 100000 60 Zd1 Tryz.f74 Z1g1 = some Z1g2 := by kernel_rfl
def Z1d1 (ds : List D) : Option D := if isT Z1g1 ds then some Z1g2 else (none)
theorem td_oids_Any : ∀ ds d,Z1d1 ds = some d → DataSem Tg 74 ds d := by
 intro ds d h
 unfold Z1d1 at h
 split at h
 ·rename_i ha; obtain rfl := isT_eq ha; cases h; exact Z1kk Z1tn
 cases h
def Z8g : FnH := ⟨[],[]⟩
theorem Zhw : Enters Tg 39 := ⟨Tryz.f39,Tryz.func39,by kernel_rfl,by kernel_rfl⟩
noncomputable def Z111 : Hints := ⟨[(74,Z1d1)],[(39,Tryz.f39,Z8g)],[203,205,206,208,148]⟩
theorem Z1g3 {m n : Nat} {ds : List D} {d : D} (h : funD Tg Z111 m n Z8g Tryz.f39 ds = some d) : DataSem Tg 39 ds d := Z5 (H := Z111) (SpOk.cons td_oids_Any SpOk.nil) mixed (InlOk.cons Tryz.func39 Zhw InlOk.nil) Tryz.func39 Zhw h
def Z19i : List D := []
def Z19j : D := (D.agg [(D.list 1 (some 1) [(D.v (.int .i64 (-1 : Int))),(D.v (.int .u8 (5 : Int))),(D.v (.int .u32 (2 : Int))),(D.v (.int .u32 (5 : Int))),(D.v (.int .u32 (29 : Int))),(D.v (.int .u32 (32 : Int))),zU,zU,zU,zU,zU,zU,zU,zU,zU,zU,zU,zU,(D.list 1 (some 1) [(D.v (.int .u8 (5 : Int))),(D.v (.int .u32 (2 : Int))),(D.v (.int .u32 (5 : Int))),(D.v (.int .u32 (29 : Int))),(D.v (.int .u32 (32 : Int))),zU,zU,zU,zU,zU,zU,zU,zU,zU,zU,zU,zU]),(D.list 0 (some 0) [])])])
theorem Z1o3 : funD Tg Z111 100000 60 Z8g Tryz.f39 Z19i = some Z19j := by kernel_rfl
def Zw6 (ds : List D) : Option D := if isT Z19i ds then some Z19j else (none)
theorem td_trees_Root : ∀ ds d,Zw6 ds = some d → DataSem Tg 39 ds d := by
 intro ds d h
 unfold Zw6 at h
 split at h
 ·rename_i ha; obtain rfl := isT_eq ha; cases h; exact Z1g3 Z1o3
 cases h
def Z3a : FnH := ⟨[],[]⟩
theorem Zb0 : Enters Tg 12 := ⟨Tryz.f12,Tryz.func12,by kernel_rfl,by kernel_rfl⟩
noncomputable def Zcd : Hints := ⟨[(38,Ztj)],[(12,Tryz.f12,Z3a)],[203,205,206,208,148]⟩
theorem Zin {m n : Nat} {ds : List D} {d : D} (h : funD Tg Zcd m n Z3a Tryz.f12 ds = some d) : DataSem Tg 12 ds d := Z5 (H := Zcd) (SpOk.cons td_ref23_Any SpOk.nil) mixed (InlOk.cons Tryz.func12 Zb0 InlOk.nil) Tryz.func12 Zb0 h
def Z12x : List D := [(D.v (.int .u8 (0 : Int)))]
def Z12y : D := (D.agg [(D.v (.int .u8 (3 : Int))),(D.v (.int .u32 (1 : Int))),(D.v (.int .u32 (2 : Int))),(D.v (.int .u32 (3 : Int))),zU,zU,zU,zU,zU,zU,zU,zU,zU,zU,zU,zU,zU])
def Z12z : List D := [(D.v (.int .u8 (1 : Int)))]
def Z130 : D := (D.agg [(D.v (.int .u8 (3 : Int))),(D.v (.int .u32 (1 : Int))),(D.v (.int .u32 (2 : Int))),(D.v (.int .u32 (4 : Int))),zU,zU,zU,zU,zU,zU,zU,zU,zU,zU,zU,zU,zU])
def Z131 : List D := [(D.v (.int .u8 (2 : Int)))]
def Z132 : D := (D.agg [(D.v (.int .u8 (3 : Int))),(D.v (.int .u32 (1 : Int))),(D.v (.int .u32 (2 : Int))),(D.v (.int .u32 (5 : Int))),zU,zU,zU,zU,zU,zU,zU,zU,zU,zU,zU,zU,zU])
theorem Z1hy : funD Tg Zcd 100000 60 Z3a Tryz.f12 Z12x = some Z12y := by kernel_rfl
theorem Z1hz : funD Tg Zcd 100000 60 Z3a Tryz.f12 Z12z = some Z130 := by kernel_rfl
theorem Z1i0 : funD Tg Zcd 100000 60 Z3a Tryz.f12 Z131 = some Z132 := by kernel_rfl
def Zgc (ds : List D) : Option D := if isT Z12x ds then some Z12y else (if isT Z12z ds then some Z130 else (if isT Z131 ds then some Z132 else (none)))
theorem td_law23_Policy : ∀ ds d,Zgc ds = some d → DataSem Tg 12 ds d := by
 intro ds d h
 unfold Zgc at h
 split at h
 ·rename_i ha; obtain rfl := isT_eq ha; cases h; exact Zin Z1hy
 split at h
 ·rename_i ha; obtain rfl := isT_eq ha; cases h; exact Zin Z1hz
 split at h
 ·rename_i ha; obtain rfl := isT_eq ha; cases h; exact Zin Z1i0
 cases h
def Zio : FnH := ⟨[],[]⟩
theorem Zuq : Enters Tg 40 := ⟨Tryz.f40,Tryz.func40,by kernel_rfl,by kernel_rfl⟩
noncomputable def Z1d2 : Hints := ⟨[(12,Zgc)],[(40,Tryz.f40,Zio)],[203,205,206,208,148]⟩
theorem Z1o4 {m n : Nat} {ds : List D} {d : D} (h : funD Tg Z1d2 m n Zio Tryz.f40 ds = some d) : DataSem Tg 40 ds d := Z5 (H := Z1d2) (SpOk.cons td_law23_Policy SpOk.nil) mixed (InlOk.cons Tryz.func40 Zuq InlOk.nil) Tryz.func40 Zuq h
def Z1iq : List D := []
def Z1ir : D := (D.agg [(D.v (.int .u8 (3 : Int))),(D.v (.int .u32 (1 : Int))),(D.v (.int .u32 (2 : Int))),(D.v (.int .u32 (3 : Int))),zU,zU,zU,zU,zU,zU,zU,zU,zU,zU,zU,zU,zU])
theorem Z1vo : funD Tg Z1d2 100000 60 Zio Tryz.f40 Z1iq = some Z1ir := by kernel_rfl
def Z1a6 (ds : List D) : Option D := if isT Z1iq ds then some Z1ir else (none)
theorem td_law26_a : ∀ ds d,Z1a6 ds = some d → DataSem Tg 40 ds d := by
 intro ds d h
 unfold Z1a6 at h
 split at h
 ·rename_i ha; obtain rfl := isT_eq ha; cases h; exact Z1o4 Z1vo
 cases h
def Zip : FnH := ⟨[],[]⟩
theorem Zur : Enters Tg 43 := ⟨Tryz.f43,Tryz.func43,by kernel_rfl,by kernel_rfl⟩
noncomputable def Z1d3 : Hints := ⟨[(12,Zgc)],[(43,Tryz.f43,Zip)],[203,205,206,208,148]⟩
theorem Z1o5 {m n : Nat} {ds : List D} {d : D} (h : funD Tg Z1d3 m n Zip Tryz.f43 ds = some d) : DataSem Tg 43 ds d := Z5 (H := Z1d3) (SpOk.cons td_law23_Policy SpOk.nil) mixed (InlOk.cons Tryz.func43 Zur InlOk.nil) Tryz.func43 Zur h
def Z1is : List D := []
def Z1it : D := (D.agg [(D.v (.int .u8 (3 : Int))),(D.v (.int .u32 (1 : Int))),(D.v (.int .u32 (2 : Int))),(D.v (.int .u32 (5 : Int))),zU,zU,zU,zU,zU,zU,zU,zU,zU,zU,zU,zU,zU])
theorem Z1vp : funD Tg Z1d3 100000 60 Zip Tryz.f43 Z1is = some Z1it := by kernel_rfl
def Z1a7 (ds : List D) : Option D := if isT Z1is ds then some Z1it else (none)
theorem td_law26_c : ∀ ds d,Z1a7 ds = some d → DataSem Tg 43 ds d := by
 intro ds d h
 unfold Z1a7 at h
 split at h
 ·rename_i ha; obtain rfl := isT_eq ha; cases h; exact Z1o5 Z1vp
 cases h
def Ziq : FnH := ⟨[],[]⟩
theorem Zus : Enters Tg 44 := ⟨Tryz.f44,Tryz.func44,by kernel_rfl,by kernel_rfl⟩
noncomputable def Z1d4 : Hints := ⟨[(12,Zgc)],[(44,Tryz.f44,Ziq)],[203,205,206,208,148]⟩
theorem Z1o6 {m n : Nat} {ds : List D} {d : D} (h : funD Tg Z1d4 m n Ziq Tryz.f44 ds = some d) : DataSem Tg 44 ds d := Z5 (H := Z1d4) (SpOk.cons td_law23_Policy SpOk.nil) mixed (InlOk.cons Tryz.func44 Zus InlOk.nil) Tryz.func44 Zus h
def Z1iu : List D := []
def Z1iv : D := (D.agg [(D.v (.int .u8 (3 : Int))),(D.v (.int .u32 (1 : Int))),(D.v (.int .u32 (2 : Int))),(D.v (.int .u32 (4 : Int))),zU,zU,zU,zU,zU,zU,zU,zU,zU,zU,zU,zU,zU])
theorem Z1vq : funD Tg Z1d4 100000 60 Ziq Tryz.f44 Z1iu = some Z1iv := by kernel_rfl
def Z1a8 (ds : List D) : Option D := if isT Z1iu ds then some Z1iv else (none)
theorem td_law26_b : ∀ ds d,Z1a8 ds = some d → DataSem Tg 44 ds d := by
 intro ds d h
 unfold Z1a8 at h
 split at h
 ·rename_i ha; obtain rfl := isT_eq ha; cases h; exact Z1o6 Z1vq
 cases h
def Z8h : FnH := ⟨[],[]⟩
theorem Zhx : Enters Tg 42 := ⟨Tryz.f42,Tryz.func42,by kernel_rfl,by kernel_rfl⟩
noncomputable def Z112 : Hints := ⟨[(25,Z105),(38,Ztj),(39,Zw6),(40,Z1a6),(43,Z1a7),(44,Z1a8)],[(42,Tryz.f42,Z8h)],[203,205,206,208,148]⟩
theorem Z1g4 {m n : Nat} {ds : List D} {d : D} (h : funD Tg Z112 m n Z8h Tryz.f42 ds = some d) : DataSem Tg 42 ds d := Z5 (H := Z112) (SpOk.cons td_trees_Add (SpOk.cons td_ref23_Any (SpOk.cons td_trees_Root (SpOk.cons td_law26_a (SpOk.cons td_law26_c (SpOk.cons td_law26_b SpOk.nil)))))) mixed (InlOk.cons Tryz.func42 Zhx InlOk.nil) Tryz.func42 Zhx h
def Z19k : List D := []
def Z19l : D := (D.tup [(D.agg [(D.list 5 (some 5) [(D.v (.int .i64 (-1 : Int))),(D.v (.int .u8 (5 : Int))),(D.v (.int .u32 (2 : Int))),(D.v (.int .u32 (5 : Int))),(D.v (.int .u32 (29 : Int))),(D.v (.int .u32 (32 : Int))),zU,zU,zU,zU,zU,zU,zU,zU,zU,zU,zU,zU,(D.list 1 (some 1) [(D.v (.int .u8 (5 : Int))),(D.v (.int .u32 (2 : Int))),(D.v (.int .u32 (5 : Int))),(D.v (.int .u32 (29 : Int))),(D.v (.int .u32 (32 : Int))),zU,zU,zU,zU,zU,zU,zU,zU,zU,zU,zU,zU]),(D.list 0 (some 0) []),zI,(D.v (.int .u8 (3 : Int))),(D.v (.int .u32 (1 : Int))),(D.v (.int .u32 (2 : Int))),(D.v (.int .u32 (3 : Int))),zU,zU,zU,zU,zU,zU,zU,zU,zU,zU,zU,zU,zU,(D.list 2 (some 2) [(D.v (.int .u8 (3 : Int))),(D.v (.int .u32 (1 : Int))),(D.v (.int .u32 (2 : Int))),(D.v (.int .u32 (4 : Int))),zU,zU,zU,zU,zU,zU,zU,zU,zU,zU,zU,zU,zU,(D.v (.int .u8 (3 : Int))),(D.v (.int .u32 (1 : Int))),(D.v (.int .u32 (2 : Int))),(D.v (.int .u32 (5 : Int))),zU,zU,zU,zU,zU,zU,zU,zU,zU,zU,zU,zU,zU]),(D.list 0 (some 0) []),zI,(D.v (.int .u8 (5 : Int))),(D.v (.int .u32 (2 : Int))),(D.v (.int .u32 (5 : Int))),(D.v (.int .u32 (29 : Int))),(D.v (.int .u32 (32 : Int))),zU,zU,zU,zU,zU,zU,zU,zU,zU,zU,zU,zU,(D.list 1 (some 1) [(D.v (.int .u8 (5 : Int))),(D.v (.int .u32 (2 : Int))),(D.v (.int .u32 (5 : Int))),(D.v (.int .u32 (29 : Int))),(D.v (.int .u32 (32 : Int))),zU,zU,zU,zU,zU,zU,zU,zU,zU,zU,zU,zU]),(D.list 0 (some 0) []),(D.v (.int .i64 (1 : Int))),(D.v (.int .u8 (3 : Int))),(D.v (.int .u32 (1 : Int))),(D.v (.int .u32 (2 : Int))),(D.v (.int .u32 (4 : Int))),zU,zU,zU,zU,zU,zU,zU,zU,zU,zU,zU,zU,zU,(D.list 1 (some 1) [(D.v (.int .u8 (3 : Int))),(D.v (.int .u32 (1 : Int))),(D.v (.int .u32 (2 : Int))),(D.v (.int .u32 (4 : Int))),zU,zU,zU,zU,zU,zU,zU,zU,zU,zU,zU,zU,zU]),(D.list 0 (some 0) []),(D.v (.int .i64 (1 : Int))),(D.v (.int .u8 (3 : Int))),(D.v (.int .u32 (1 : Int))),(D.v (.int .u32 (2 : Int))),(D.v (.int .u32 (5 : Int))),zU,zU,zU,zU,zU,zU,zU,zU,zU,zU,zU,zU,zU,(D.list 1 (some 1) [(D.v (.int .u8 (3 : Int))),(D.v (.int .u32 (1 : Int))),(D.v (.int .u32 (2 : Int))),(D.v (.int .u32 (5 : Int))),zU,zU,zU,zU,zU,zU,zU,zU,zU,zU,zU,zU,zU]),(D.list 0 (some 0) [])])]),zI])
theorem Z1o7 : funD Tg Z112 100000 60 Z8h Tryz.f42 Z19k = some Z19l := by kernel_rfl
def Z14h (ds : List D) : Option D := if isT Z19k ds then some Z19l else (none)
theorem td_law26_fork : ∀ ds d,Z14h ds = some d → DataSem Tg 42 ds d := by
 intro ds d h
 unfold Z14h at h
 split at h
 ·rename_i ha; obtain rfl := isT_eq ha; cases h; exact Z1g4 Z1o7
 cases h
def Z7i : FnH := ⟨[],[]⟩
theorem Zdl : Enters Tg 10 := ⟨Tryz.f10,Tryz.func10,by kernel_rfl,by kernel_rfl⟩
noncomputable def Zxr : Hints := ⟨[(13,Z14b),(17,Zr3),(18,Z14c),(19,Z14d),(21,Zub),(23,Z10v),(24,Z14e),(25,Z105),(28,Zxq),(36,Z14f),(38,Ztj),(39,Zw6),(40,Z1a6),(42,Z14h),(43,Z1a7),(44,Z1a8)],[(10,Tryz.f10,Z7i)],[203,205,206,208,148]⟩
theorem Z1d5 {m n : Nat} {ds : List D} {d : D} (h : funD Tg Zxr m n Z7i Tryz.f10 ds = some d) : DataSem Tg 10 ds d := Z5 (H := Zxr) (SpOk.cons td_trees_Find (SpOk.cons td_trees_Children (SpOk.cons td_trees_Line (SpOk.cons td_law26_ints (SpOk.cons td_ref25_SameIDs (SpOk.cons td_trees_Level (SpOk.cons td_trees_Size (SpOk.cons td_trees_Add (SpOk.cons td_trees_Delete (SpOk.cons td_trees_Text (SpOk.cons td_ref23_Any (SpOk.cons td_trees_Root (SpOk.cons td_law26_a (SpOk.cons td_law26_fork (SpOk.cons td_law26_c (SpOk.cons td_law26_b SpOk.nil)))))))))))))))) mixed (InlOk.cons Tryz.func10 Zdl InlOk.nil) Tryz.func10 Zdl h
def Z169 : List D := []
def Z16a : D := (D.v (.bool true))
theorem Z1kl : funD Tg Zxr 100000 60 Z7i Tryz.f10 Z169 = some Z16a := by kernel_rfl
def Zry (ds : List D) : Option D := if isT Z169 ds then some Z16a else (none)
theorem td_law26_lives : ∀ ds d,Zry ds = some d → DataSem Tg 10 ds d := by
 intro ds d h
 unfold Zry at h
 split at h
 ·rename_i ha; obtain rfl := isT_eq ha; cases h; exact Z1d5 Z1kl
 cases h
end Go.Ev