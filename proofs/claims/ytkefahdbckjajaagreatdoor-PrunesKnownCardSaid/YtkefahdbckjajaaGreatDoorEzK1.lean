/- Closed calls of the program at the two qualifiers of the examples. No conditions. -/
import Derived.Test.YtkefahdbckjajaaGreatDoorEzI
set_option linter.unusedVariables false
set_option maxRecDepth 1000000
namespace Go.Ev
open Go Go.Proofs
def Z4t : FnH := ⟨[],[]⟩
def Zqz : FnH := ⟨[],[]⟩
def Znt : FnH := ⟨[(6,⟨(bm 1924145348608 47),[(38,1)],none⟩)],[]⟩
theorem Z93 : Enters Tg 154 := ⟨Tryz.f154,Tryz.func154,by kernel_rfl,by kernel_rfl⟩
theorem Zr0 : Enters Tg 128 := ⟨Tryz.f128,Tryz.func128,by kernel_rfl,by kernel_rfl⟩
theorem Znu : Enters Tg 109 := ⟨Tryz.f109,Tryz.func109,by kernel_rfl,by kernel_rfl⟩
noncomputable def Zf3 : Hints := ⟨[],[(154,Tryz.f154,Z4t),(128,Tryz.f128,Zqz),(109,Tryz.f109,Znt)],[233,235,236,238,183]⟩
theorem Zmo {m n : Nat} {ds : List D} {d : D} (h : funD Tg Zf3 m n Z4t Tryz.f154 ds = some d) : DataSem Tg 154 ds d := Zf (H := Zf3) SpOk.nil mixed (InlOk.cons Tryz.func154 Z93 (InlOk.cons Tryz.func128 Zr0 (InlOk.cons Tryz.func109 Znu InlOk.nil))) Tryz.func154 Z93 h
def Zrd : List D := [(D.v (.int .u8 (1 : Int)))]
def Zre : D := (D.agg [(D.v (.int .u8 (9 : Int))),(D.v (.int .u32 (1 : Int))),(D.v (.int .u32 (3 : Int))),(D.v (.int .u32 (6 : Int))),(D.v (.int .u32 (1 : Int))),(D.v (.int .u32 (5 : Int))),(D.v (.int .u32 (5 : Int))),(D.v (.int .u32 (7 : Int))),(D.v (.int .u32 (2 : Int))),(D.v (.int .u32 (1 : Int))),zU,zU,zU,zU,zU,zU,zU])
def Zrf : List D := [(D.v (.int .u8 (2 : Int)))]
def Zrg : D := (D.agg [(D.v (.int .u8 (9 : Int))),(D.v (.int .u32 (1 : Int))),(D.v (.int .u32 (3 : Int))),(D.v (.int .u32 (6 : Int))),(D.v (.int .u32 (1 : Int))),(D.v (.int .u32 (5 : Int))),(D.v (.int .u32 (5 : Int))),(D.v (.int .u32 (7 : Int))),(D.v (.int .u32 (2 : Int))),(D.v (.int .u32 (2 : Int))),zU,zU,zU,zU,zU,zU,zU])
theorem Z12v : funD Tg Zf3 100000 60 Z4t Tryz.f154 Zrd = some Zre := by kernel_rfl
theorem Z12w : funD Tg Zf3 100000 60 Z4t Tryz.f154 Zrf = some Zrg := by kernel_rfl
def Zh6 (ds : List D) : Option D := if isT Zrd ds then some Zre else (if isT Zrf ds then some Zrg else (none))
theorem Zvq : ∀ ds d,Zh6 ds = some d → DataSem Tg 154 ds d := by
 intro ds d h
 unfold Zh6 at h
 split at h
 ·rename_i ha; obtain rfl := isT_eq ha; cases h; exact Zmo Z12v
 split at h
 ·rename_i ha; obtain rfl := isT_eq ha; cases h; exact Zmo Z12w
 cases h
def Z41 : FnH := ⟨[],[]⟩
def Zcu : FnH := ⟨[(6,⟨(bm 524368 30),[(6,1)],none⟩)],[]⟩
def Zbd : FnH := ⟨[],[]⟩
def Zc6 : FnH := ⟨[],[]⟩
def Zbe : FnH := ⟨[],[]⟩
def Za7 : FnH := ⟨[],[]⟩
def Z99 : FnH := ⟨[],[]⟩
def Zcv : FnH := ⟨[],[]⟩
def Z8o : FnH := ⟨[],[]⟩
def Z9a : FnH := ⟨[],[]⟩
def Z9r : FnH := ⟨[],[]⟩
def Zbf : FnH := ⟨[(38,⟨(bm 47890485652059026823698344598447161988085597568237568 187),[],none⟩),(5,⟨(bm 1923 187),[],none⟩),(12,⟨(bm 6019 187),[],none⟩),(25,⟨(bm 50049 187),[],none⟩),(29,⟨(bm 115585 187),[],none⟩)],[]⟩
def Zbg : FnH := ⟨[],[]⟩
def Z9b : FnH := ⟨[],[]⟩
def Zea : FnH := ⟨[],[]⟩
def Zcw : FnH := ⟨[],[]⟩
def Zcx : FnH := ⟨[],[]⟩
def Zcy : FnH := ⟨[],[]⟩
def Zat : FnH := ⟨[],[]⟩
def Z4w : FnH := ⟨[(2,⟨(bm 387 19),[],none⟩)],[]⟩
def Z9s : FnH := ⟨[(4,⟨(bm 2052 20),[],none⟩)],[]⟩
def Zc7 : FnH := ⟨[(1,⟨(bm 1 169),[],none⟩),(9,⟨(bm 1 169),[],none⟩)],[]⟩
def Zc8 : FnH := ⟨[],[]⟩
def Z9c : FnH := ⟨[],[]⟩
theorem Z5w : Enters Tg 193 := ⟨Tryz.f193,Tryz.func193,by kernel_rfl,by kernel_rfl⟩
theorem Zcz : Enters Tg 209 := ⟨Tryz.f209,Tryz.func209,by kernel_rfl,by kernel_rfl⟩
theorem Zbh : Enters Tg 219 := ⟨Tryz.f219,Tryz.func219,by kernel_rfl,by kernel_rfl⟩
theorem Zc9 : Enters Tg 226 := ⟨Tryz.f226,Tryz.func226,by kernel_rfl,by kernel_rfl⟩
theorem Zbi : Enters Tg 229 := ⟨Tryz.f229,Tryz.func229,by kernel_rfl,by kernel_rfl⟩
theorem Za8 : Enters Tg 232 := ⟨Tryz.f232,Tryz.func232,by kernel_rfl,by kernel_rfl⟩
theorem Z9d : Enters Tg 237 := ⟨Tryz.f237,Tryz.func237,by kernel_rfl,by kernel_rfl⟩
theorem Zd0 : Enters Tg 233 := ⟨Tryz.f233,Tryz.func233,by kernel_rfl,by kernel_rfl⟩
theorem Z8p : Enters Tg 238 := ⟨Tryz.f238,Tryz.func238,by kernel_rfl,by kernel_rfl⟩
theorem Z9e : Enters Tg 234 := ⟨Tryz.f234,Tryz.func234,by kernel_rfl,by kernel_rfl⟩
theorem Z9t : Enters Tg 239 := ⟨Tryz.f239,Tryz.func239,by kernel_rfl,by kernel_rfl⟩
theorem Zbj : Enters Tg 240 := ⟨Tryz.f240,Tryz.func240,by kernel_rfl,by kernel_rfl⟩
theorem Zbk : Enters Tg 241 := ⟨Tryz.f241,Tryz.func241,by kernel_rfl,by kernel_rfl⟩
theorem Z9f : Enters Tg 245 := ⟨Tryz.f245,Tryz.func245,by kernel_rfl,by kernel_rfl⟩
theorem Zeb : Enters Tg 242 := ⟨Tryz.f242,Tryz.func242,by kernel_rfl,by kernel_rfl⟩
theorem Zd1 : Enters Tg 243 := ⟨Tryz.f243,Tryz.func243,by kernel_rfl,by kernel_rfl⟩
theorem Zd2 : Enters Tg 235 := ⟨Tryz.f235,Tryz.func235,by kernel_rfl,by kernel_rfl⟩
theorem Zd3 : Enters Tg 236 := ⟨Tryz.f236,Tryz.func236,by kernel_rfl,by kernel_rfl⟩
theorem Zau : Enters Tg 231 := ⟨Tryz.f231,Tryz.func231,by kernel_rfl,by kernel_rfl⟩
theorem Z4x : Enters Tg 230 := ⟨Tryz.f230,Tryz.func230,by kernel_rfl,by kernel_rfl⟩
theorem Z9u : Enters Tg 227 := ⟨Tryz.f227,Tryz.func227,by kernel_rfl,by kernel_rfl⟩
theorem Zca : Enters Tg 163 := ⟨Tryz.f163,Tryz.func163,by kernel_rfl,by kernel_rfl⟩
theorem Zcb : Enters Tg 189 := ⟨Tryz.f189,Tryz.func189,by kernel_rfl,by kernel_rfl⟩
theorem Z9g : Enters Tg 171 := ⟨Tryz.f171,Tryz.func171,by kernel_rfl,by kernel_rfl⟩
noncomputable def Zav : Hints := ⟨[],[(193,Tryz.f193,Z41),(209,Tryz.f209,Zcu),(219,Tryz.f219,Zbd),(226,Tryz.f226,Zc6),(229,Tryz.f229,Zbe),(232,Tryz.f232,Za7),(237,Tryz.f237,Z99),(233,Tryz.f233,Zcv),(238,Tryz.f238,Z8o),(234,Tryz.f234,Z9a),(239,Tryz.f239,Z9r),(240,Tryz.f240,Zbf),(241,Tryz.f241,Zbg),(245,Tryz.f245,Z9b),(242,Tryz.f242,Zea),(243,Tryz.f243,Zcw),(235,Tryz.f235,Zcx),(236,Tryz.f236,Zcy),(231,Tryz.f231,Zat),(230,Tryz.f230,Z4w),(227,Tryz.f227,Z9s),(163,Tryz.f163,Zc7),(189,Tryz.f189,Zc8),(171,Tryz.f171,Z9c)],[233,235,236,238,183]⟩
theorem Zq0 {m n : Nat} {ds : List D} {d : D} (h : funD Tg Zav m n Z41 Tryz.f193 ds = some d) : DataSem Tg 193 ds d := Zf (H := Zav) SpOk.nil mixed (InlOk.cons Tryz.func193 Z5w (InlOk.cons Tryz.func209 Zcz (InlOk.cons Tryz.func219 Zbh (InlOk.cons Tryz.func226 Zc9 (InlOk.cons Tryz.func229 Zbi (InlOk.cons Tryz.func232 Za8 (InlOk.cons Tryz.func237 Z9d (InlOk.cons Tryz.func233 Zd0 (InlOk.cons Tryz.func238 Z8p (InlOk.cons Tryz.func234 Z9e (InlOk.cons Tryz.func239 Z9t (InlOk.cons Tryz.func240 Zbj (InlOk.cons Tryz.func241 Zbk (InlOk.cons Tryz.func245 Z9f (InlOk.cons Tryz.func242 Zeb (InlOk.cons Tryz.func243 Zd1 (InlOk.cons Tryz.func235 Zd2 (InlOk.cons Tryz.func236 Zd3 (InlOk.cons Tryz.func231 Zau (InlOk.cons Tryz.func230 Z4x (InlOk.cons Tryz.func227 Z9u (InlOk.cons Tryz.func163 Zca (InlOk.cons Tryz.func189 Zcb (InlOk.cons Tryz.func171 Z9g InlOk.nil)))))))))))))))))))))))) Tryz.func193 Z5w h
def Zib : List D := [(D.agg [(D.v (.int .u32 (12 : Int))),(D.v (.string (ByteArray.mk #[98])))])]
def Zic : D := (D.tup [(D.agg [(D.v (.int .u8 (0 : Int))),(D.v (.bool false)),(D.v (.int .u32 (12 : Int))),(D.list 1 (some 1) [(D.v (.int .u8 (98 : Int)))]),(D.list 0 (some 0) [])]),zI])
theorem Ztg : funD Tg Zav 100000 60 Z41 Tryz.f193 Zib = some Zic := by kernel_rfl
def Z8a (ds : List D) : Option D := if isT Zib ds then some Zic else (none)
theorem Zl4 : ∀ ds d,Z8a ds = some d → DataSem Tg 193 ds d := by
 intro ds d h
 unfold Z8a at h
 split at h
 ·rename_i ha; obtain rfl := isT_eq ha; cases h; exact Zq0 Ztg
 cases h
def Z4p : FnH := ⟨[],[]⟩
def Zd4 : FnH := ⟨[],[]⟩
def Zec : FnH := ⟨[],[]⟩
def Zd5 : FnH := ⟨[],[]⟩
def Zbl : FnH := ⟨[],[]⟩
def Za9 : FnH := ⟨[],[]⟩
def Zf4 : FnH := ⟨[],[]⟩
def Z9h : FnH := ⟨[],[]⟩
def Zaa : FnH := ⟨[],[]⟩
def Zaw : FnH := ⟨[],[]⟩
def Zd6 : FnH := ⟨[(38,⟨(bm 47890485652059026823698344598447161988085597568237568 187),[],none⟩),(5,⟨(bm 1923 187),[],none⟩),(12,⟨(bm 6019 187),[],none⟩),(25,⟨(bm 50049 187),[],none⟩),(29,⟨(bm 115585 187),[],none⟩)],[]⟩
def Zd7 : FnH := ⟨[],[]⟩
def Zab : FnH := ⟨[],[]⟩
def Zfz : FnH := ⟨[],[]⟩
def Zf5 : FnH := ⟨[],[]⟩
def Zf6 : FnH := ⟨[],[]⟩
def Zf7 : FnH := ⟨[],[]⟩
def Zcc : FnH := ⟨[],[]⟩
def Z51 : FnH := ⟨[(2,⟨(bm 387 19),[],none⟩)],[]⟩
def Zax : FnH := ⟨[(4,⟨(bm 2052 20),[],none⟩)],[]⟩
def Zed : FnH := ⟨[(1,⟨(bm 1 169),[],none⟩),(9,⟨(bm 1 169),[],none⟩)],[]⟩
def Zee : FnH := ⟨[],[]⟩
theorem Z6q : Enters Tg 207 := ⟨Tryz.f207,Tryz.func207,by kernel_rfl,by kernel_rfl⟩
theorem Zd8 : Enters Tg 219 := ⟨Tryz.f219,Tryz.func219,by kernel_rfl,by kernel_rfl⟩
theorem Zef : Enters Tg 226 := ⟨Tryz.f226,Tryz.func226,by kernel_rfl,by kernel_rfl⟩
theorem Zd9 : Enters Tg 229 := ⟨Tryz.f229,Tryz.func229,by kernel_rfl,by kernel_rfl⟩
theorem Zbm : Enters Tg 232 := ⟨Tryz.f232,Tryz.func232,by kernel_rfl,by kernel_rfl⟩
theorem Zac : Enters Tg 237 := ⟨Tryz.f237,Tryz.func237,by kernel_rfl,by kernel_rfl⟩
theorem Zf8 : Enters Tg 233 := ⟨Tryz.f233,Tryz.func233,by kernel_rfl,by kernel_rfl⟩
theorem Z9i : Enters Tg 238 := ⟨Tryz.f238,Tryz.func238,by kernel_rfl,by kernel_rfl⟩
theorem Zad : Enters Tg 234 := ⟨Tryz.f234,Tryz.func234,by kernel_rfl,by kernel_rfl⟩
theorem Zay : Enters Tg 239 := ⟨Tryz.f239,Tryz.func239,by kernel_rfl,by kernel_rfl⟩
theorem Zda : Enters Tg 240 := ⟨Tryz.f240,Tryz.func240,by kernel_rfl,by kernel_rfl⟩
theorem Zdb : Enters Tg 241 := ⟨Tryz.f241,Tryz.func241,by kernel_rfl,by kernel_rfl⟩
theorem Zae : Enters Tg 245 := ⟨Tryz.f245,Tryz.func245,by kernel_rfl,by kernel_rfl⟩
theorem Zg0 : Enters Tg 242 := ⟨Tryz.f242,Tryz.func242,by kernel_rfl,by kernel_rfl⟩
theorem Zf9 : Enters Tg 243 := ⟨Tryz.f243,Tryz.func243,by kernel_rfl,by kernel_rfl⟩
theorem Zfa : Enters Tg 235 := ⟨Tryz.f235,Tryz.func235,by kernel_rfl,by kernel_rfl⟩
theorem Zfb : Enters Tg 236 := ⟨Tryz.f236,Tryz.func236,by kernel_rfl,by kernel_rfl⟩
theorem Zcd : Enters Tg 231 := ⟨Tryz.f231,Tryz.func231,by kernel_rfl,by kernel_rfl⟩
theorem Z52 : Enters Tg 230 := ⟨Tryz.f230,Tryz.func230,by kernel_rfl,by kernel_rfl⟩
theorem Zaz : Enters Tg 227 := ⟨Tryz.f227,Tryz.func227,by kernel_rfl,by kernel_rfl⟩
theorem Zeg : Enters Tg 163 := ⟨Tryz.f163,Tryz.func163,by kernel_rfl,by kernel_rfl⟩
theorem Zeh : Enters Tg 189 := ⟨Tryz.f189,Tryz.func189,by kernel_rfl,by kernel_rfl⟩
noncomputable def Zei : Hints := ⟨[],[(207,Tryz.f207,Z4p),(219,Tryz.f219,Zd4),(226,Tryz.f226,Zec),(229,Tryz.f229,Zd5),(232,Tryz.f232,Zbl),(237,Tryz.f237,Za9),(233,Tryz.f233,Zf4),(238,Tryz.f238,Z9h),(234,Tryz.f234,Zaa),(239,Tryz.f239,Zaw),(240,Tryz.f240,Zd6),(241,Tryz.f241,Zd7),(245,Tryz.f245,Zab),(242,Tryz.f242,Zfz),(243,Tryz.f243,Zf5),(235,Tryz.f235,Zf6),(236,Tryz.f236,Zf7),(231,Tryz.f231,Zcc),(230,Tryz.f230,Z51),(227,Tryz.f227,Zax),(163,Tryz.f163,Zed),(189,Tryz.f189,Zee)],[233,235,236,238,183]⟩
theorem Zsk {m n : Nat} {ds : List D} {d : D} (h : funD Tg Zei m n Z4p Tryz.f207 ds = some d) : DataSem Tg 207 ds d := Zf (H := Zei) SpOk.nil mixed (InlOk.cons Tryz.func207 Z6q (InlOk.cons Tryz.func219 Zd8 (InlOk.cons Tryz.func226 Zef (InlOk.cons Tryz.func229 Zd9 (InlOk.cons Tryz.func232 Zbm (InlOk.cons Tryz.func237 Zac (InlOk.cons Tryz.func233 Zf8 (InlOk.cons Tryz.func238 Z9i (InlOk.cons Tryz.func234 Zad (InlOk.cons Tryz.func239 Zay (InlOk.cons Tryz.func240 Zda (InlOk.cons Tryz.func241 Zdb (InlOk.cons Tryz.func245 Zae (InlOk.cons Tryz.func242 Zg0 (InlOk.cons Tryz.func243 Zf9 (InlOk.cons Tryz.func235 Zfa (InlOk.cons Tryz.func236 Zfb (InlOk.cons Tryz.func231 Zcd (InlOk.cons Tryz.func230 Z52 (InlOk.cons Tryz.func227 Zaz (InlOk.cons Tryz.func163 Zeg (InlOk.cons Tryz.func189 Zeh InlOk.nil)))))))))))))))))))))) Tryz.func207 Z6q h
def Zl5 : List D := [(D.agg [(D.v (.int .u32 (12 : Int))),(D.v (.string (ByteArray.mk #[98])))])]
def Zl6 : D := zI
theorem Zwo : funD Tg Zei 100000 60 Z4p Tryz.f207 Zl5 = some Zl6 := by kernel_rfl
def Z7n (ds : List D) : Option D := if isT Zl5 ds then some Zl6 else (none)
theorem Zg1 : ∀ ds d,Z7n ds = some d → DataSem Tg 207 ds d := by
 intro ds d h
 unfold Z7n at h
 split at h
 ·rename_i ha; obtain rfl := isT_eq ha; cases h; exact Zsk Zwo
 cases h
def Z4d : FnH := ⟨[],[]⟩
def Z9j : FnH := ⟨[(2,⟨(bm 20 10),[],none⟩)],[]⟩
theorem Z6c : Enters Tg 208 := ⟨Tryz.f208,Tryz.func208,by kernel_rfl,by kernel_rfl⟩
theorem Z9k : Enters Tg 220 := ⟨Tryz.f220,Tryz.func220,by kernel_rfl,by kernel_rfl⟩
noncomputable def Zce : Hints := ⟨[(207,Z7n)],[(208,Tryz.f208,Z4d),(220,Tryz.f220,Z9j)],[233,235,236,238,183]⟩
theorem Zr1 {m n : Nat} {ds : List D} {d : D} (h : funD Tg Zce m n Z4d Tryz.f208 ds = some d) : DataSem Tg 208 ds d := Zf (H := Zce) (SpOk.cons Zg1 SpOk.nil) mixed (InlOk.cons Tryz.func208 Z6c (InlOk.cons Tryz.func220 Z9k InlOk.nil)) Tryz.func208 Z6c h
def Zj3 : List D := [(D.agg [(D.v (.int .u32 (12 : Int))),(D.v (.string (ByteArray.mk #[98])))])]
def Zj4 : D := (D.v (.int .i64 (1 : Int)))
theorem Zur : funD Tg Zce 100000 60 Z4d Tryz.f208 Zj3 = some Zj4 := by kernel_rfl
def Z8q (ds : List D) : Option D := if isT Zj3 ds then some Zj4 else (none)
theorem Zmp : ∀ ds d,Z8q ds = some d → DataSem Tg 208 ds d := by
 intro ds d h
 unfold Z8q at h
 split at h
 ·rename_i ha; obtain rfl := isT_eq ha; cases h; exact Zr1 Zur
 cases h
def Z46 : FnH := ⟨[],[]⟩
theorem Zft : Enters Tg 215 := ⟨Tryz.f215,Tryz.func215,by kernel_rfl,by kernel_rfl⟩
noncomputable def Zc1 : Hints := ⟨[],[(215,Tryz.f215,Z46)],[233,235,236,238,183]⟩
theorem Zcl {m n : Nat} {ds : List D} {d : D} (h : funD Tg Zc1 m n Z46 Tryz.f215 ds = some d) : DataSem Tg 215 ds d := Zf (H := Zc1) SpOk.nil mixed (InlOk.cons Tryz.func215 Zft InlOk.nil) Tryz.func215 Zft h
def Zxg : List D := [(D.agg [(D.v (.int .u8 (0 : Int))),(D.v (.bool true)),(D.v (.int .u32 (16 : Int)))])]
def Zxh : D := zI
def Zxi : List D := [(D.agg [(D.v (.int .u8 (0 : Int))),(D.v (.bool false)),(D.v (.int .u32 (6 : Int)))])]
def Zxj : D := zI
def Zxk : List D := [(D.agg [(D.v (.int .u8 (0 : Int))),(D.v (.bool false)),(D.v (.int .u32 (22 : Int)))])]
def Zxl : D := zI
def Zxm : List D := [(D.agg [(D.v (.int .u8 (0 : Int))),(D.v (.bool false)),(D.v (.int .u32 (12 : Int)))])]
def Zxn : D := zI
theorem Z19s : funD Tg Zc1 100000 60 Z46 Tryz.f215 Zxg = some Zxh := by kernel_rfl
theorem Z19t : funD Tg Zc1 100000 60 Z46 Tryz.f215 Zxi = some Zxj := by kernel_rfl
theorem Z19u : funD Tg Zc1 100000 60 Z46 Tryz.f215 Zxk = some Zxl := by kernel_rfl
theorem Z19v : funD Tg Zc1 100000 60 Z46 Tryz.f215 Zxm = some Zxn := by kernel_rfl
def Zfc (ds : List D) : Option D := if isT Zxg ds then some Zxh else (if isT Zxi ds then some Zxj else (if isT Zxk ds then some Zxl else (if isT Zxm ds then some Zxn else (none))))
theorem Zot : ∀ ds d,Zfc ds = some d → DataSem Tg 215 ds d := by
 intro ds d h
 unfold Zfc at h
 split at h
 ·rename_i ha; obtain rfl := isT_eq ha; cases h; exact Zcl Z19s
 split at h
 ·rename_i ha; obtain rfl := isT_eq ha; cases h; exact Zcl Z19t
 split at h
 ·rename_i ha; obtain rfl := isT_eq ha; cases h; exact Zcl Z19u
 split at h
 ·rename_i ha; obtain rfl := isT_eq ha; cases h; exact Zcl Z19v
 cases h
def Z53 : FnH := ⟨[],[]⟩
def Zdc : FnH := ⟨[],[]⟩
def Zdd : FnH := ⟨[(4,⟨(bm 14336 24),[(11,1)],none⟩)],[]⟩
def Zde : FnH := ⟨[],[]⟩
def Zb0 : FnH := ⟨[],[]⟩
def Zdf : FnH := ⟨[],[]⟩
def Zej : FnH := ⟨[],[]⟩
def Zbn : FnH := ⟨[],[]⟩
def Z7u : FnH := ⟨[],[]⟩
def Z8r : FnH := ⟨[(2,⟨(bm 387 19),[],none⟩)],[]⟩
def Zaf : FnH := ⟨[(8,⟨(bm 3758096566 83),[(29,1)],none⟩)],[]⟩
def Zgk : FnH := ⟨[(3,⟨(bm 73 25),[],none⟩),(8,⟨(bm 32 25),[(5,1)],none⟩)],[]⟩
def Zcf : FnH := ⟨[],[]⟩
def Z6y : FnH := ⟨[],[]⟩
def Zdg : FnH := ⟨[],[]⟩
def Zdh : FnH := ⟨[],[]⟩
def Zku : FnH := ⟨[(6,⟨(bm 1924145348608 47),[(38,1)],none⟩)],[]⟩
def Zik : FnH := ⟨[],[]⟩
def Zhk : FnH := ⟨[],[]⟩
def Zg2 : FnH := ⟨[],[]⟩
def Z9v : FnH := ⟨[(25,⟨(bm 16655 151),[],none⟩)],[]⟩
def Zmq : FnH := ⟨[],[]⟩
def Zj5 : FnH := ⟨[(3,⟨(bm 13 43),[],none⟩)],[]⟩
def Zj6 : FnH := ⟨[],[]⟩
def Zj7 : FnH := ⟨[],[]⟩
def Zdi : FnH := ⟨[],[]⟩
theorem Z7d : Enters Tg 152 := ⟨Tryz.f152,Tryz.func152,by kernel_rfl,by kernel_rfl⟩
theorem Zdj : Enters Tg 168 := ⟨Tryz.f168,Tryz.func168,by kernel_rfl,by kernel_rfl⟩
theorem Zdk : Enters Tg 169 := ⟨Tryz.f169,Tryz.func169,by kernel_rfl,by kernel_rfl⟩
theorem Zdl : Enters Tg 170 := ⟨Tryz.f170,Tryz.func170,by kernel_rfl,by kernel_rfl⟩
theorem Zb1 : Enters Tg 171 := ⟨Tryz.f171,Tryz.func171,by kernel_rfl,by kernel_rfl⟩
theorem Zdm : Enters Tg 172 := ⟨Tryz.f172,Tryz.func172,by kernel_rfl,by kernel_rfl⟩
theorem Zek : Enters Tg 173 := ⟨Tryz.f173,Tryz.func173,by kernel_rfl,by kernel_rfl⟩
theorem Zbo : Enters Tg 192 := ⟨Tryz.f192,Tryz.func192,by kernel_rfl,by kernel_rfl⟩
theorem Z7v : Enters Tg 206 := ⟨Tryz.f206,Tryz.func206,by kernel_rfl,by kernel_rfl⟩
theorem Z8s : Enters Tg 218 := ⟨Tryz.f218,Tryz.func218,by kernel_rfl,by kernel_rfl⟩
theorem Zag : Enters Tg 174 := ⟨Tryz.f174,Tryz.func174,by kernel_rfl,by kernel_rfl⟩
theorem Zgl : Enters Tg 194 := ⟨Tryz.f194,Tryz.func194,by kernel_rfl,by kernel_rfl⟩
theorem Zcg : Enters Tg 210 := ⟨Tryz.f210,Tryz.func210,by kernel_rfl,by kernel_rfl⟩
theorem Z6z : Enters Tg 195 := ⟨Tryz.f195,Tryz.func195,by kernel_rfl,by kernel_rfl⟩
theorem Zdn : Enters Tg 175 := ⟨Tryz.f175,Tryz.func175,by kernel_rfl,by kernel_rfl⟩
theorem Zdo : Enters Tg 176 := ⟨Tryz.f176,Tryz.func176,by kernel_rfl,by kernel_rfl⟩
theorem Zkv : Enters Tg 109 := ⟨Tryz.f109,Tryz.func109,by kernel_rfl,by kernel_rfl⟩
theorem Zil : Enters Tg 177 := ⟨Tryz.f177,Tryz.func177,by kernel_rfl,by kernel_rfl⟩
theorem Zhl : Enters Tg 196 := ⟨Tryz.f196,Tryz.func196,by kernel_rfl,by kernel_rfl⟩
theorem Zg3 : Enters Tg 211 := ⟨Tryz.f211,Tryz.func211,by kernel_rfl,by kernel_rfl⟩
theorem Z9w : Enters Tg 212 := ⟨Tryz.f212,Tryz.func212,by kernel_rfl,by kernel_rfl⟩
theorem Zmr : Enters Tg 221 := ⟨Tryz.f221,Tryz.func221,by kernel_rfl,by kernel_rfl⟩
theorem Zj8 : Enters Tg 228 := ⟨Tryz.f228,Tryz.func228,by kernel_rfl,by kernel_rfl⟩
theorem Zj9 : Enters Tg 222 := ⟨Tryz.f222,Tryz.func222,by kernel_rfl,by kernel_rfl⟩
theorem Zja : Enters Tg 223 := ⟨Tryz.f223,Tryz.func223,by kernel_rfl,by kernel_rfl⟩
theorem Zdp : Enters Tg 178 := ⟨Tryz.f178,Tryz.func178,by kernel_rfl,by kernel_rfl⟩
noncomputable def Zg4 : Hints := ⟨[(154,Zh6),(193,Z8a),(207,Z7n),(208,Z8q),(215,Zfc)],[(152,Tryz.f152,Z53),(168,Tryz.f168,Zdc),(169,Tryz.f169,Zdd),(170,Tryz.f170,Zde),(171,Tryz.f171,Zb0),(172,Tryz.f172,Zdf),(173,Tryz.f173,Zej),(192,Tryz.f192,Zbn),(206,Tryz.f206,Z7u),(218,Tryz.f218,Z8r),(174,Tryz.f174,Zaf),(194,Tryz.f194,Zgk),(210,Tryz.f210,Zcf),(195,Tryz.f195,Z6y),(175,Tryz.f175,Zdg),(176,Tryz.f176,Zdh),(109,Tryz.f109,Zku),(177,Tryz.f177,Zik),(196,Tryz.f196,Zhk),(211,Tryz.f211,Zg2),(212,Tryz.f212,Z9v),(221,Tryz.f221,Zmq),(228,Tryz.f228,Zj5),(222,Tryz.f222,Zj6),(223,Tryz.f223,Zj7),(178,Tryz.f178,Zdi)],[233,235,236,238,183]⟩
theorem Zth {m n : Nat} {ds : List D} {d : D} (h : funD Tg Zg4 m n Z53 Tryz.f152 ds = some d) : DataSem Tg 152 ds d := Zf (H := Zg4) (SpOk.cons Zvq (SpOk.cons Zl4 (SpOk.cons Zg1 (SpOk.cons Zmp (SpOk.cons Zot SpOk.nil))))) mixed (InlOk.cons Tryz.func152 Z7d (InlOk.cons Tryz.func168 Zdj (InlOk.cons Tryz.func169 Zdk (InlOk.cons Tryz.func170 Zdl (InlOk.cons Tryz.func171 Zb1 (InlOk.cons Tryz.func172 Zdm (InlOk.cons Tryz.func173 Zek (InlOk.cons Tryz.func192 Zbo (InlOk.cons Tryz.func206 Z7v (InlOk.cons Tryz.func218 Z8s (InlOk.cons Tryz.func174 Zag (InlOk.cons Tryz.func194 Zgl (InlOk.cons Tryz.func210 Zcg (InlOk.cons Tryz.func195 Z6z (InlOk.cons Tryz.func175 Zdn (InlOk.cons Tryz.func176 Zdo (InlOk.cons Tryz.func109 Zkv (InlOk.cons Tryz.func177 Zil (InlOk.cons Tryz.func196 Zhl (InlOk.cons Tryz.func211 Zg3 (InlOk.cons Tryz.func212 Z9w (InlOk.cons Tryz.func221 Zmr (InlOk.cons Tryz.func228 Zj8 (InlOk.cons Tryz.func222 Zj9 (InlOk.cons Tryz.func223 Zja (InlOk.cons Tryz.func178 Zdp InlOk.nil)))))))))))))))))))))))))) Tryz.func152 Z7d h
def Zms : List D := []
def Zmt : D := (D.agg [(D.v .nilFunc),(D.v .nilFunc),(D.v .nilFunc),(D.fn 168 []),(D.fn 169 []),(D.fn 170 []),(D.fn 172 []),(D.fn 173 []),(D.fn 174 []),(D.fn 175 []),(D.fn 176 []),(D.fn 178 [])])
theorem Zxo : funD Tg Zg4 100000 60 Z53 Tryz.f152 Zms = some Zmt := by kernel_rfl
def Zhm (ds : List D) : Option D := if isT Zms ds then some Zmt else (none)
theorem Z113 : ∀ ds d,Zhm ds = some d → DataSem Tg 152 ds d := by
 intro ds d h
 unfold Zhm at h
 split at h
 ·rename_i ha; obtain rfl := isT_eq ha; cases h; exact Zth Zxo
 cases h
def Z8b : FnH := ⟨[(8,⟨(bm 939524140 43),[(2,1),(27,1),(1002000,1)],none⟩),(11,⟨(bm 939524140 43),[],none⟩)],[]⟩
def Zti : FnH := ⟨[(6,⟨(bm 1924145348608 47),[(38,1)],none⟩)],[]⟩
def Zus : FnH := ⟨[],[]⟩
def Zdq : FnH := ⟨[],[]⟩
def Zsl : FnH := ⟨[],[]⟩
def Zq1 : FnH := ⟨[(1,⟨(bm 11 31),[],none⟩),(3,⟨(bm 11 31),[],none⟩)],[]⟩
def Zhn : FnH := ⟨[],[]⟩
theorem Zl7 : Enters Tg 155 := ⟨Tryz.f155,Tryz.func155,by kernel_rfl,by kernel_rfl⟩
theorem Ztj : Enters Tg 109 := ⟨Tryz.f109,Tryz.func109,by kernel_rfl,by kernel_rfl⟩
theorem Zut : Enters Tg 112 := ⟨Tryz.f112,Tryz.func112,by kernel_rfl,by kernel_rfl⟩
theorem Zdr : Enters Tg 179 := ⟨Tryz.f179,Tryz.func179,by kernel_rfl,by kernel_rfl⟩
theorem Zsm : Enters Tg 180 := ⟨Tryz.f180,Tryz.func180,by kernel_rfl,by kernel_rfl⟩
theorem Zq2 : Enters Tg 197 := ⟨Tryz.f197,Tryz.func197,by kernel_rfl,by kernel_rfl⟩
theorem Zho : Enters Tg 171 := ⟨Tryz.f171,Tryz.func171,by kernel_rfl,by kernel_rfl⟩
noncomputable def Zrh : Hints := ⟨[],[(155,Tryz.f155,Z8b),(109,Tryz.f109,Zti),(112,Tryz.f112,Zus),(179,Tryz.f179,Zdq),(180,Tryz.f180,Zsl),(197,Tryz.f197,Zq1),(171,Tryz.f171,Zhn)],[233,235,236,238,183]⟩
theorem Zvr {m n : Nat} {ds : List D} {d : D} (h : funD Tg Zrh m n Z8b Tryz.f155 ds = some d) : DataSem Tg 155 ds d := Zf (H := Zrh) SpOk.nil mixed (InlOk.cons Tryz.func155 Zl7 (InlOk.cons Tryz.func109 Ztj (InlOk.cons Tryz.func112 Zut (InlOk.cons Tryz.func179 Zdr (InlOk.cons Tryz.func180 Zsm (InlOk.cons Tryz.func197 Zq2 (InlOk.cons Tryz.func171 Zho InlOk.nil))))))) Tryz.func155 Zl7 h
def Z12x : List D := [(D.agg [(D.v (.int .u8 (9 : Int))),(D.v (.int .u32 (1 : Int))),(D.v (.int .u32 (3 : Int))),(D.v (.int .u32 (6 : Int))),(D.v (.int .u32 (1 : Int))),(D.v (.int .u32 (5 : Int))),(D.v (.int .u32 (5 : Int))),(D.v (.int .u32 (7 : Int))),(D.v (.int .u32 (2 : Int))),(D.v (.int .u32 (1 : Int))),zU,zU,zU,zU,zU,zU,zU])]
def Z12y : D := (D.tup [(D.list 8 (some 8) [(D.v (.int .u8 (43 : Int))),(D.v (.int .u8 (6 : Int))),(D.v (.int .u8 (1 : Int))),(D.v (.int .u8 (5 : Int))),(D.v (.int .u8 (5 : Int))),(D.v (.int .u8 (7 : Int))),(D.v (.int .u8 (2 : Int))),(D.v (.int .u8 (1 : Int)))]),zI])
def Z12z : List D := [(D.agg [(D.v (.int .u8 (9 : Int))),(D.v (.int .u32 (1 : Int))),(D.v (.int .u32 (3 : Int))),(D.v (.int .u32 (6 : Int))),(D.v (.int .u32 (1 : Int))),(D.v (.int .u32 (5 : Int))),(D.v (.int .u32 (5 : Int))),(D.v (.int .u32 (7 : Int))),(D.v (.int .u32 (2 : Int))),(D.v (.int .u32 (2 : Int))),zU,zU,zU,zU,zU,zU,zU])]
def Z130 : D := (D.tup [(D.list 8 (some 8) [(D.v (.int .u8 (43 : Int))),(D.v (.int .u8 (6 : Int))),(D.v (.int .u8 (1 : Int))),(D.v (.int .u8 (5 : Int))),(D.v (.int .u8 (5 : Int))),(D.v (.int .u8 (7 : Int))),(D.v (.int .u8 (2 : Int))),(D.v (.int .u8 (2 : Int)))]),zI])
theorem Z1em : funD Tg Zrh 100000 60 Z8b Tryz.f155 Z12x = some Z12y := by kernel_rfl
theorem Z1en : funD Tg Zrh 100000 60 Z8b Tryz.f155 Z12z = some Z130 := by kernel_rfl
def Z114 (ds : List D) : Option D := if isT Z12x ds then some Z12y else (if isT Z12z ds then some Z130 else (none))
theorem Z1j0 : ∀ ds d,Z114 ds = some d → DataSem Tg 155 ds d := by
 intro ds d h
 unfold Z114 at h
 split at h
 ·rename_i ha; obtain rfl := isT_eq ha; cases h; exact Zvr Z1em
 split at h
 ·rename_i ha; obtain rfl := isT_eq ha; cases h; exact Zvr Z1en
 cases h
def Z3e : FnH := ⟨[],[]⟩
def Zds : FnH := ⟨[],[]⟩
def Zhp : FnH := ⟨[],[]⟩
def Zg5 : FnH := ⟨[(5,⟨(bm 3670026 34),[(19,5)],none⟩)],[]⟩
theorem Z7e : Enters Tg 198 := ⟨Tryz.f198,Tryz.func198,by kernel_rfl,by kernel_rfl⟩
theorem Zdt : Enters Tg 214 := ⟨Tryz.f214,Tryz.func214,by kernel_rfl,by kernel_rfl⟩
theorem Zhq : Enters Tg 213 := ⟨Tryz.f213,Tryz.func213,by kernel_rfl,by kernel_rfl⟩
theorem Zg6 : Enters Tg 224 := ⟨Tryz.f224,Tryz.func224,by kernel_rfl,by kernel_rfl⟩
noncomputable def Z9l : Hints := ⟨[(215,Zfc)],[(198,Tryz.f198,Z3e),(214,Tryz.f214,Zds),(213,Tryz.f213,Zhp),(224,Tryz.f224,Zg5)],[233,235,236,238,183]⟩
theorem Zid {m n : Nat} {ds : List D} {d : D} (h : funD Tg Z9l m n Z3e Tryz.f198 ds = some d) : DataSem Tg 198 ds d := Zf (H := Z9l) (SpOk.cons Zot SpOk.nil) mixed (InlOk.cons Tryz.func198 Z7e (InlOk.cons Tryz.func214 Zdt (InlOk.cons Tryz.func213 Zhq (InlOk.cons Tryz.func224 Zg6 InlOk.nil)))) Tryz.func198 Z7e h
def Zmu : List D := [(D.agg [(D.v (.int .u8 (0 : Int))),(D.v (.bool true)),(D.v (.int .u32 (16 : Int))),(D.list 0 (some 0) []),(D.list 2 (some 2) [(D.v (.int .u8 (0 : Int))),(D.v (.bool false)),(D.v (.int .u32 (6 : Int))),(D.list 8 (some 8) [(D.v (.int .u8 (43 : Int))),(D.v (.int .u8 (6 : Int))),(D.v (.int .u8 (1 : Int))),(D.v (.int .u8 (5 : Int))),(D.v (.int .u8 (5 : Int))),(D.v (.int .u8 (7 : Int))),(D.v (.int .u8 (2 : Int))),(D.v (.int .u8 (1 : Int)))]),(D.list 0 (some 0) []),(D.v (.int .u8 (0 : Int))),(D.v (.bool false)),(D.v (.int .u32 (22 : Int))),(D.list 8 (some 8) [(D.v (.int .u8 (104 : Int))),(D.v (.int .u8 (116 : Int))),(D.v (.int .u8 (116 : Int))),(D.v (.int .u8 (112 : Int))),(D.v (.int .u8 (58 : Int))),(D.v (.int .u8 (47 : Int))),(D.v (.int .u8 (47 : Int))),(D.v (.int .u8 (97 : Int)))]),(D.list 0 (some 0) [])])])]
def Zmv : D := (D.tup [zI,(D.v (.int .i64 (3 : Int))),(D.v (.int .i64 (2 : Int)))])
def Zmw : List D := [(D.agg [(D.v (.int .u8 (0 : Int))),(D.v (.bool true)),(D.v (.int .u32 (16 : Int))),(D.list 0 (some 0) []),(D.list 2 (some 2) [(D.v (.int .u8 (0 : Int))),(D.v (.bool false)),(D.v (.int .u32 (6 : Int))),(D.list 8 (some 8) [(D.v (.int .u8 (43 : Int))),(D.v (.int .u8 (6 : Int))),(D.v (.int .u8 (1 : Int))),(D.v (.int .u8 (5 : Int))),(D.v (.int .u8 (5 : Int))),(D.v (.int .u8 (7 : Int))),(D.v (.int .u8 (2 : Int))),(D.v (.int .u8 (2 : Int)))]),(D.list 0 (some 0) []),(D.v (.int .u8 (0 : Int))),(D.v (.bool true)),(D.v (.int .u32 (16 : Int))),(D.list 0 (some 0) []),(D.list 1 (some 1) [(D.v (.int .u8 (0 : Int))),(D.v (.bool false)),(D.v (.int .u32 (12 : Int))),(D.list 1 (some 1) [(D.v (.int .u8 (98 : Int)))]),(D.list 0 (some 0) [])])])])]
def Zmx : D := (D.tup [zI,(D.v (.int .i64 (4 : Int))),(D.v (.int .i64 (3 : Int)))])
theorem Zxp : funD Tg Z9l 100000 60 Z3e Tryz.f198 Zmu = some Zmv := by kernel_rfl
theorem Zxq : funD Tg Z9l 100000 60 Z3e Tryz.f198 Zmw = some Zmx := by kernel_rfl
def Zhr (ds : List D) : Option D := if isT Zmu ds then some Zmv else (if isT Zmw ds then some Zmx else (none))
theorem Z115 : ∀ ds d,Zhr ds = some d → DataSem Tg 198 ds d := by
 intro ds d h
 unfold Zhr at h
 split at h
 ·rename_i ha; obtain rfl := isT_eq ha; cases h; exact Zid Zxp
 split at h
 ·rename_i ha; obtain rfl := isT_eq ha; cases h; exact Zid Zxq
 cases h
def Z2s : FnH := ⟨[],[]⟩
def Zfd : FnH := ⟨[],[]⟩
theorem Zcm : Enters Tg 203 := ⟨Tryz.f203,Tryz.func203,by kernel_rfl,by kernel_rfl⟩
theorem Zfe : Enters Tg 171 := ⟨Tryz.f171,Tryz.func171,by kernel_rfl,by kernel_rfl⟩
noncomputable def Z7w : Hints := ⟨[],[(203,Tryz.f203,Z2s),(171,Tryz.f171,Zfd)],[233,235,236,238,183]⟩
theorem Z7x {m n : Nat} {ds : List D} {d : D} (h : funD Tg Z7w m n Z2s Tryz.f203 ds = some d) : DataSem Tg 203 ds d := Zf (H := Z7w) SpOk.nil mixed (InlOk.cons Tryz.func203 Zcm (InlOk.cons Tryz.func171 Zfe InlOk.nil)) Tryz.func203 Zcm h
def Zvs : List D := [(D.v (.int .i64 (8 : Int)))]
def Zvt : D := (D.tup [(D.list 1 (some 1) [(D.v (.int .u8 (8 : Int)))]),zI])
def Zvu : List D := [(D.v (.int .i64 (20 : Int)))]
def Zvv : D := (D.tup [(D.list 1 (some 1) [(D.v (.int .u8 (20 : Int)))]),zI])
def Zvw : List D := [(D.v (.int .i64 (1 : Int)))]
def Zvx : D := (D.tup [(D.list 1 (some 1) [(D.v (.int .u8 (1 : Int)))]),zI])
def Zvy : List D := [(D.v (.int .i64 (3 : Int)))]
def Zvz : D := (D.tup [(D.list 1 (some 1) [(D.v (.int .u8 (3 : Int)))]),zI])
def Zw0 : List D := [(D.v (.int .i64 (15 : Int)))]
def Zw1 : D := (D.tup [(D.list 1 (some 1) [(D.v (.int .u8 (15 : Int)))]),zI])
theorem Z175 : funD Tg Z7w 100000 60 Z2s Tryz.f203 Zvs = some Zvt := by kernel_rfl
theorem Z176 : funD Tg Z7w 100000 60 Z2s Tryz.f203 Zvu = some Zvv := by kernel_rfl
theorem Z177 : funD Tg Z7w 100000 60 Z2s Tryz.f203 Zvw = some Zvx := by kernel_rfl
theorem Z178 : funD Tg Z7w 100000 60 Z2s Tryz.f203 Zvy = some Zvz := by kernel_rfl
theorem Z179 : funD Tg Z7w 100000 60 Z2s Tryz.f203 Zw0 = some Zw1 := by kernel_rfl
def Zlz (ds : List D) : Option D := if isT Zvs ds then some Zvt else (if isT Zvu ds then some Zvv else (if isT Zvw ds then some Zvx else (if isT Zvy ds then some Zvz else (if isT Zw0 ds then some Zw1 else (none)))))
theorem Z106 : ∀ ds d,Zlz ds = some d → DataSem Tg 203 ds d := by
 intro ds d h
 unfold Zlz at h
 split at h
 ·rename_i ha; obtain rfl := isT_eq ha; cases h; exact Z7x Z175
 split at h
 ·rename_i ha; obtain rfl := isT_eq ha; cases h; exact Z7x Z176
 split at h
 ·rename_i ha; obtain rfl := isT_eq ha; cases h; exact Z7x Z177
 split at h
 ·rename_i ha; obtain rfl := isT_eq ha; cases h; exact Z7x Z178
 split at h
 ·rename_i ha; obtain rfl := isT_eq ha; cases h; exact Z7x Z179
 cases h
def Z24 : FnH := ⟨[],[]⟩
def Zle : FnH := ⟨[],[]⟩
theorem Z94 : Enters Tg 200 := ⟨Tryz.f200,Tryz.func200,by kernel_rfl,by kernel_rfl⟩
theorem Zlf : Enters Tg 216 := ⟨Tryz.f216,Tryz.func216,by kernel_rfl,by kernel_rfl⟩
noncomputable def Z6m : Hints := ⟨[(203,Zlz)],[(200,Tryz.f200,Z24),(216,Tryz.f216,Zle)],[233,235,236,238,183]⟩
theorem Z70 {m n : Nat} {ds : List D} {d : D} (h : funD Tg Z6m m n Z24 Tryz.f200 ds = some d) : DataSem Tg 200 ds d := Zf (H := Z6m) (SpOk.cons Z106 SpOk.nil) mixed (InlOk.cons Tryz.func200 Z94 (InlOk.cons Tryz.func216 Zlf InlOk.nil)) Tryz.func200 Z94 h
def Zri : List D := [(D.v (.int .i64 (1 : Int))),(D.v (.int .i64 (8 : Int)))]
def Zrj : D := (D.v (.int .i64 (10 : Int)))
def Zrk : List D := [(D.v (.int .i64 (1 : Int))),(D.v (.int .i64 (20 : Int)))]
def Zrl : D := (D.v (.int .i64 (22 : Int)))
def Zrm : List D := [(D.v (.int .i64 (1 : Int))),(D.v (.int .i64 (1 : Int)))]
def Zrn : D := (D.v (.int .i64 (3 : Int)))
def Zro : List D := [(D.v (.int .i64 (1 : Int))),(D.v (.int .i64 (3 : Int)))]
def Zrp : D := (D.v (.int .i64 (5 : Int)))
def Zrq : List D := [(D.v (.int .i64 (1 : Int))),(D.v (.int .i64 (15 : Int)))]
def Zrr : D := (D.v (.int .i64 (17 : Int)))
theorem Z131 : funD Tg Z6m 100000 60 Z24 Tryz.f200 Zri = some Zrj := by kernel_rfl
theorem Z132 : funD Tg Z6m 100000 60 Z24 Tryz.f200 Zrk = some Zrl := by kernel_rfl
theorem Z133 : funD Tg Z6m 100000 60 Z24 Tryz.f200 Zrm = some Zrn := by kernel_rfl
theorem Z134 : funD Tg Z6m 100000 60 Z24 Tryz.f200 Zro = some Zrp := by kernel_rfl
theorem Z135 : funD Tg Z6m 100000 60 Z24 Tryz.f200 Zrq = some Zrr := by kernel_rfl
def Zh7 (ds : List D) : Option D := if isT Zri ds then some Zrj else (if isT Zrk ds then some Zrl else (if isT Zrm ds then some Zrn else (if isT Zro ds then some Zrp else (if isT Zrq ds then some Zrr else (none)))))
theorem Zw2 : ∀ ds d,Zh7 ds = some d → DataSem Tg 200 ds d := by
 intro ds d h
 unfold Zh7 at h
 split at h
 ·rename_i ha; obtain rfl := isT_eq ha; cases h; exact Z70 Z131
 split at h
 ·rename_i ha; obtain rfl := isT_eq ha; cases h; exact Z70 Z132
 split at h
 ·rename_i ha; obtain rfl := isT_eq ha; cases h; exact Z70 Z133
 split at h
 ·rename_i ha; obtain rfl := isT_eq ha; cases h; exact Z70 Z134
 split at h
 ·rename_i ha; obtain rfl := isT_eq ha; cases h; exact Z70 Z135
 cases h
def Z5g : FnH := ⟨[(11,⟨(bm 76 42),[],none⟩)],[]⟩
def Zsn : FnH := ⟨[],[]⟩
def Zq3 : FnH := ⟨[(1,⟨(bm 11 29),[],none⟩),(3,⟨(bm 11 29),[],none⟩)],[]⟩
def Zhs : FnH := ⟨[],[]⟩
theorem Zl8 : Enters Tg 202 := ⟨Tryz.f202,Tryz.func202,by kernel_rfl,by kernel_rfl⟩
theorem Zso : Enters Tg 217 := ⟨Tryz.f217,Tryz.func217,by kernel_rfl,by kernel_rfl⟩
theorem Zq4 : Enters Tg 225 := ⟨Tryz.f225,Tryz.func225,by kernel_rfl,by kernel_rfl⟩
theorem Zht : Enters Tg 171 := ⟨Tryz.f171,Tryz.func171,by kernel_rfl,by kernel_rfl⟩
noncomputable def Zie : Hints := ⟨[(215,Zfc)],[(202,Tryz.f202,Z5g),(217,Tryz.f217,Zsn),(225,Tryz.f225,Zq3),(171,Tryz.f171,Zhs)],[233,235,236,238,183]⟩
theorem Zh8 {m n : Nat} {ds : List D} {d : D} (h : funD Tg Zie m n Z5g Tryz.f202 ds = some d) : DataSem Tg 202 ds d := Zf (H := Zie) (SpOk.cons Zot SpOk.nil) mixed (InlOk.cons Tryz.func202 Zl8 (InlOk.cons Tryz.func217 Zso (InlOk.cons Tryz.func225 Zq4 (InlOk.cons Tryz.func171 Zht InlOk.nil)))) Tryz.func202 Zl8 h
def Z136 : List D := [(D.agg [(D.v (.int .u8 (0 : Int))),(D.v (.bool false)),(D.v (.int .u32 (6 : Int)))])]
def Z137 : D := (D.tup [(D.list 1 (some 1) [(D.v (.int .u8 (6 : Int)))]),zI])
def Z138 : List D := [(D.agg [(D.v (.int .u8 (0 : Int))),(D.v (.bool false)),(D.v (.int .u32 (22 : Int)))])]
def Z139 : D := (D.tup [(D.list 1 (some 1) [(D.v (.int .u8 (22 : Int)))]),zI])
def Z13a : List D := [(D.agg [(D.v (.int .u8 (0 : Int))),(D.v (.bool true)),(D.v (.int .u32 (16 : Int)))])]
def Z13b : D := (D.tup [(D.list 1 (some 1) [(D.v (.int .u8 (48 : Int)))]),zI])
def Z13c : List D := [(D.agg [(D.v (.int .u8 (0 : Int))),(D.v (.bool false)),(D.v (.int .u32 (12 : Int)))])]
def Z13d : D := (D.tup [(D.list 1 (some 1) [(D.v (.int .u8 (12 : Int)))]),zI])
theorem Z1eo : funD Tg Zie 100000 60 Z5g Tryz.f202 Z136 = some Z137 := by kernel_rfl
theorem Z1ep : funD Tg Zie 100000 60 Z5g Tryz.f202 Z138 = some Z139 := by kernel_rfl
theorem Z1eq : funD Tg Zie 100000 60 Z5g Tryz.f202 Z13a = some Z13b := by kernel_rfl
theorem Z1er : funD Tg Zie 100000 60 Z5g Tryz.f202 Z13c = some Z13d := by kernel_rfl
def Zuu (ds : List D) : Option D := if isT Z136 ds then some Z137 else (if isT Z138 ds then some Z139 else (if isT Z13a ds then some Z13b else (if isT Z13c ds then some Z13d else (none))))
theorem Z19w : ∀ ds d,Zuu ds = some d → DataSem Tg 202 ds d := by
 intro ds d h
 unfold Zuu at h
 split at h
 ·rename_i ha; obtain rfl := isT_eq ha; cases h; exact Zh8 Z1eo
 split at h
 ·rename_i ha; obtain rfl := isT_eq ha; cases h; exact Zh8 Z1ep
 split at h
 ·rename_i ha; obtain rfl := isT_eq ha; cases h; exact Zh8 Z1eq
 split at h
 ·rename_i ha; obtain rfl := isT_eq ha; cases h; exact Zh8 Z1er
 cases h
def Z4q : FnH := ⟨[],[]⟩
theorem Zif : Enters Tg 201 := ⟨Tryz.f201,Tryz.func201,by kernel_rfl,by kernel_rfl⟩
noncomputable def Zff : Hints := ⟨[(202,Zuu)],[(201,Tryz.f201,Z4q)],[233,235,236,238,183]⟩
theorem Zfg {m n : Nat} {ds : List D} {d : D} (h : funD Tg Zff m n Z4q Tryz.f201 ds = some d) : DataSem Tg 201 ds d := Zf (H := Zff) (SpOk.cons Z19w SpOk.nil) mixed (InlOk.cons Tryz.func201 Zif InlOk.nil) Tryz.func201 Zif h
def Z107 : List D := [(D.agg [(D.v (.int .u8 (0 : Int))),(D.v (.bool false)),(D.v (.int .u32 (6 : Int)))])]
def Z108 : D := (D.v (.int .i64 (1 : Int)))
def Z109 : List D := [(D.agg [(D.v (.int .u8 (0 : Int))),(D.v (.bool false)),(D.v (.int .u32 (22 : Int)))])]
def Z10a : D := (D.v (.int .i64 (1 : Int)))
def Z10b : List D := [(D.agg [(D.v (.int .u8 (0 : Int))),(D.v (.bool true)),(D.v (.int .u32 (16 : Int)))])]
def Z10c : D := (D.v (.int .i64 (1 : Int)))
def Z10d : List D := [(D.agg [(D.v (.int .u8 (0 : Int))),(D.v (.bool false)),(D.v (.int .u32 (12 : Int)))])]
def Z10e : D := (D.v (.int .i64 (1 : Int)))
theorem Z1bv : funD Tg Zff 100000 60 Z4q Tryz.f201 Z107 = some Z108 := by kernel_rfl
theorem Z1bw : funD Tg Zff 100000 60 Z4q Tryz.f201 Z109 = some Z10a := by kernel_rfl
theorem Z1bx : funD Tg Zff 100000 60 Z4q Tryz.f201 Z10b = some Z10c := by kernel_rfl
theorem Z1by : funD Tg Zff 100000 60 Z4q Tryz.f201 Z10d = some Z10e := by kernel_rfl
def Zrs (ds : List D) : Option D := if isT Z107 ds then some Z108 else (if isT Z109 ds then some Z10a else (if isT Z10b ds then some Z10c else (if isT Z10d ds then some Z10e else (none))))
theorem Z16t : ∀ ds d,Zrs ds = some d → DataSem Tg 201 ds d := by
 intro ds d h
 unfold Zrs at h
 split at h
 ·rename_i ha; obtain rfl := isT_eq ha; cases h; exact Zfg Z1bv
 split at h
 ·rename_i ha; obtain rfl := isT_eq ha; cases h; exact Zfg Z1bw
 split at h
 ·rename_i ha; obtain rfl := isT_eq ha; cases h; exact Zfg Z1bx
 split at h
 ·rename_i ha; obtain rfl := isT_eq ha; cases h; exact Zfg Z1by
 cases h
def Z12 : FnH := ⟨[(5,⟨(bm 114696 27),[(14,5)],none⟩)],[]⟩
def Zhu : FnH := ⟨[],[]⟩
theorem Z7f : Enters Tg 199 := ⟨Tryz.f199,Tryz.func199,by kernel_rfl,by kernel_rfl⟩
theorem Zhv : Enters Tg 182 := ⟨Tryz.f182,Tryz.func182,by kernel_rfl,by kernel_rfl⟩
noncomputable def Z3m : Hints := ⟨[(200,Zh7),(201,Zrs)],[(199,Tryz.f199,Z12),(182,Tryz.f182,Zhu)],[233,235,236,238,183]⟩
theorem Z3o {m n : Nat} {ds : List D} {d : D} (h : funD Tg Z3m m n Z12 Tryz.f199 ds = some d) : DataSem Tg 199 ds d := Zf (H := Z3m) (SpOk.cons Zw2 (SpOk.cons Z16t SpOk.nil)) mixed (InlOk.cons Tryz.func199 Z7f (InlOk.cons Tryz.func182 Zhv InlOk.nil)) Tryz.func199 Z7f h
def Zmy : List D := [(D.agg [(D.v (.int .u8 (0 : Int))),(D.v (.bool true)),(D.v (.int .u32 (16 : Int))),(D.list 0 (some 0) []),(D.list 2 (some 2) [(D.v (.int .u8 (0 : Int))),(D.v (.bool false)),(D.v (.int .u32 (6 : Int))),(D.list 8 (some 8) [(D.v (.int .u8 (43 : Int))),(D.v (.int .u8 (6 : Int))),(D.v (.int .u8 (1 : Int))),(D.v (.int .u8 (5 : Int))),(D.v (.int .u8 (5 : Int))),(D.v (.int .u8 (7 : Int))),(D.v (.int .u8 (2 : Int))),(D.v (.int .u8 (1 : Int)))]),(D.list 0 (some 0) []),(D.v (.int .u8 (0 : Int))),(D.v (.bool false)),(D.v (.int .u32 (22 : Int))),(D.list 8 (some 8) [(D.v (.int .u8 (104 : Int))),(D.v (.int .u8 (116 : Int))),(D.v (.int .u8 (116 : Int))),(D.v (.int .u8 (112 : Int))),(D.v (.int .u8 (58 : Int))),(D.v (.int .u8 (47 : Int))),(D.v (.int .u8 (47 : Int))),(D.v (.int .u8 (97 : Int)))]),(D.list 0 (some 0) [])])])]
def Zmz : D := (D.v (.int .i64 (20 : Int)))
def Zn0 : List D := [(D.agg [(D.v (.int .u8 (0 : Int))),(D.v (.bool false)),(D.v (.int .u32 (6 : Int))),(D.list 8 (some 8) [(D.v (.int .u8 (43 : Int))),(D.v (.int .u8 (6 : Int))),(D.v (.int .u8 (1 : Int))),(D.v (.int .u8 (5 : Int))),(D.v (.int .u8 (5 : Int))),(D.v (.int .u8 (7 : Int))),(D.v (.int .u8 (2 : Int))),(D.v (.int .u8 (1 : Int)))]),(D.list 0 (some 0) [])])]
def Zn1 : D := (D.v (.int .i64 (8 : Int)))
def Zn2 : List D := [(D.agg [(D.v (.int .u8 (0 : Int))),(D.v (.bool false)),(D.v (.int .u32 (22 : Int))),(D.list 8 (some 8) [(D.v (.int .u8 (104 : Int))),(D.v (.int .u8 (116 : Int))),(D.v (.int .u8 (116 : Int))),(D.v (.int .u8 (112 : Int))),(D.v (.int .u8 (58 : Int))),(D.v (.int .u8 (47 : Int))),(D.v (.int .u8 (47 : Int))),(D.v (.int .u8 (97 : Int)))]),(D.list 0 (some 0) [])])]
def Zn3 : D := (D.v (.int .i64 (8 : Int)))
def Zn4 : List D := [(D.agg [(D.v (.int .u8 (0 : Int))),(D.v (.bool true)),(D.v (.int .u32 (16 : Int))),(D.list 0 (some 0) []),(D.list 2 (some 2) [(D.v (.int .u8 (0 : Int))),(D.v (.bool false)),(D.v (.int .u32 (6 : Int))),(D.list 8 (some 8) [(D.v (.int .u8 (43 : Int))),(D.v (.int .u8 (6 : Int))),(D.v (.int .u8 (1 : Int))),(D.v (.int .u8 (5 : Int))),(D.v (.int .u8 (5 : Int))),(D.v (.int .u8 (7 : Int))),(D.v (.int .u8 (2 : Int))),(D.v (.int .u8 (2 : Int)))]),(D.list 0 (some 0) []),(D.v (.int .u8 (0 : Int))),(D.v (.bool true)),(D.v (.int .u32 (16 : Int))),(D.list 0 (some 0) []),(D.list 1 (some 1) [(D.v (.int .u8 (0 : Int))),(D.v (.bool false)),(D.v (.int .u32 (12 : Int))),(D.list 1 (some 1) [(D.v (.int .u8 (98 : Int)))]),(D.list 0 (some 0) [])])])])]
def Zn5 : D := (D.v (.int .i64 (15 : Int)))
def Zn6 : List D := [(D.agg [(D.v (.int .u8 (0 : Int))),(D.v (.bool false)),(D.v (.int .u32 (6 : Int))),(D.list 8 (some 8) [(D.v (.int .u8 (43 : Int))),(D.v (.int .u8 (6 : Int))),(D.v (.int .u8 (1 : Int))),(D.v (.int .u8 (5 : Int))),(D.v (.int .u8 (5 : Int))),(D.v (.int .u8 (7 : Int))),(D.v (.int .u8 (2 : Int))),(D.v (.int .u8 (2 : Int)))]),(D.list 0 (some 0) [])])]
def Zn7 : D := (D.v (.int .i64 (8 : Int)))
def Zn8 : List D := [(D.agg [(D.v (.int .u8 (0 : Int))),(D.v (.bool true)),(D.v (.int .u32 (16 : Int))),(D.list 0 (some 0) []),(D.list 1 (some 1) [(D.v (.int .u8 (0 : Int))),(D.v (.bool false)),(D.v (.int .u32 (12 : Int))),(D.list 1 (some 1) [(D.v (.int .u8 (98 : Int)))]),(D.list 0 (some 0) [])])])]
def Zn9 : D := (D.v (.int .i64 (3 : Int)))
def Zna : List D := [(D.agg [(D.v (.int .u8 (0 : Int))),(D.v (.bool false)),(D.v (.int .u32 (12 : Int))),(D.list 1 (some 1) [(D.v (.int .u8 (98 : Int)))]),(D.list 0 (some 0) [])])]
def Znb : D := (D.v (.int .i64 (1 : Int)))
theorem Zxr : funD Tg Z3m 100000 60 Z12 Tryz.f199 Zmy = some Zmz := by kernel_rfl
theorem Zxs : funD Tg Z3m 100000 60 Z12 Tryz.f199 Zn0 = some Zn1 := by kernel_rfl
theorem Zxt : funD Tg Z3m 100000 60 Z12 Tryz.f199 Zn2 = some Zn3 := by kernel_rfl
theorem Zxu : funD Tg Z3m 100000 60 Z12 Tryz.f199 Zn4 = some Zn5 := by kernel_rfl
theorem Zxv : funD Tg Z3m 100000 60 Z12 Tryz.f199 Zn6 = some Zn7 := by kernel_rfl
theorem Zxw : funD Tg Z3m 100000 60 Z12 Tryz.f199 Zn8 = some Zn9 := by kernel_rfl
theorem Zxx : funD Tg Z3m 100000 60 Z12 Tryz.f199 Zna = some Znb := by kernel_rfl
def Zhw (ds : List D) : Option D := if isT Zmy ds then some Zmz else (if isT Zn0 ds then some Zn1 else (if isT Zn2 ds then some Zn3 else (if isT Zn4 ds then some Zn5 else (if isT Zn6 ds then some Zn7 else (if isT Zn8 ds then some Zn9 else (if isT Zna ds then some Znb else (none)))))))
theorem Z116 : ∀ ds d,Zhw ds = some d → DataSem Tg 199 ds d := by
 intro ds d h
 unfold Zhw at h
 split at h
 ·rename_i ha; obtain rfl := isT_eq ha; cases h; exact Z3o Zxr
 split at h
 ·rename_i ha; obtain rfl := isT_eq ha; cases h; exact Z3o Zxs
 split at h
 ·rename_i ha; obtain rfl := isT_eq ha; cases h; exact Z3o Zxt
 split at h
 ·rename_i ha; obtain rfl := isT_eq ha; cases h; exact Z3o Zxu
 split at h
 ·rename_i ha; obtain rfl := isT_eq ha; cases h; exact Z3o Zxv
 split at h
 ·rename_i ha; obtain rfl := isT_eq ha; cases h; exact Z3o Zxw
 split at h
 ·rename_i ha; obtain rfl := isT_eq ha; cases h; exact Z3o Zxx
 cases h
def Z3f : FnH := ⟨[],[]⟩
def Zgm : FnH := ⟨[],[]⟩
def Zdu : FnH := ⟨[],[]⟩
def Zdv : FnH := ⟨[(4,⟨(bm 14336 24),[(11,1)],none⟩)],[]⟩
def Zdw : FnH := ⟨[],[]⟩
def Zb2 : FnH := ⟨[],[]⟩
def Zdx : FnH := ⟨[],[]⟩
def Zel : FnH := ⟨[],[]⟩
def Zbp : FnH := ⟨[],[]⟩
def Z7y : FnH := ⟨[],[]⟩
def Z8t : FnH := ⟨[(2,⟨(bm 387 19),[],none⟩)],[]⟩
def Zah : FnH := ⟨[(8,⟨(bm 3758096566 83),[(29,1)],none⟩)],[]⟩
def Zgn : FnH := ⟨[(3,⟨(bm 73 25),[],none⟩),(8,⟨(bm 32 25),[(5,1)],none⟩)],[]⟩
def Zch : FnH := ⟨[],[]⟩
def Z71 : FnH := ⟨[],[]⟩
def Zdy : FnH := ⟨[],[]⟩
def Zdz : FnH := ⟨[],[]⟩
def Zkw : FnH := ⟨[(6,⟨(bm 1924145348608 47),[(38,1)],none⟩)],[]⟩
def Zim : FnH := ⟨[],[]⟩
def Zhx : FnH := ⟨[],[]⟩
def Zg7 : FnH := ⟨[],[]⟩
def Z9x : FnH := ⟨[(25,⟨(bm 16655 151),[],none⟩)],[]⟩
def Znc : FnH := ⟨[],[]⟩
def Zjb : FnH := ⟨[(3,⟨(bm 13 43),[],none⟩)],[]⟩
def Zjc : FnH := ⟨[],[]⟩
def Zjd : FnH := ⟨[],[]⟩
def Ze0 : FnH := ⟨[],[]⟩
def Zg8 : FnH := ⟨[],[]⟩
def Zin : FnH := ⟨[],[]⟩
def Zgo : FnH := ⟨[],[]⟩
def Zhy : FnH := ⟨[],[]⟩
def Zio : FnH := ⟨[(6,⟨(bm 60129542145 44),[(0,1),(33,5)],none⟩)],[]⟩
theorem Z7g : Enters Tg 110 := ⟨Tryz.f110,Tryz.func110,by kernel_rfl,by kernel_rfl⟩
theorem Zgp : Enters Tg 134 := ⟨Tryz.f134,Tryz.func134,by kernel_rfl,by kernel_rfl⟩
theorem Ze1 : Enters Tg 168 := ⟨Tryz.f168,Tryz.func168,by kernel_rfl,by kernel_rfl⟩
theorem Ze2 : Enters Tg 169 := ⟨Tryz.f169,Tryz.func169,by kernel_rfl,by kernel_rfl⟩
theorem Ze3 : Enters Tg 170 := ⟨Tryz.f170,Tryz.func170,by kernel_rfl,by kernel_rfl⟩
theorem Zb3 : Enters Tg 171 := ⟨Tryz.f171,Tryz.func171,by kernel_rfl,by kernel_rfl⟩
theorem Ze4 : Enters Tg 172 := ⟨Tryz.f172,Tryz.func172,by kernel_rfl,by kernel_rfl⟩
theorem Zem : Enters Tg 173 := ⟨Tryz.f173,Tryz.func173,by kernel_rfl,by kernel_rfl⟩
theorem Zbq : Enters Tg 192 := ⟨Tryz.f192,Tryz.func192,by kernel_rfl,by kernel_rfl⟩
theorem Z7z : Enters Tg 206 := ⟨Tryz.f206,Tryz.func206,by kernel_rfl,by kernel_rfl⟩
theorem Z8u : Enters Tg 218 := ⟨Tryz.f218,Tryz.func218,by kernel_rfl,by kernel_rfl⟩
theorem Zai : Enters Tg 174 := ⟨Tryz.f174,Tryz.func174,by kernel_rfl,by kernel_rfl⟩
theorem Zgq : Enters Tg 194 := ⟨Tryz.f194,Tryz.func194,by kernel_rfl,by kernel_rfl⟩
theorem Zci : Enters Tg 210 := ⟨Tryz.f210,Tryz.func210,by kernel_rfl,by kernel_rfl⟩
theorem Z72 : Enters Tg 195 := ⟨Tryz.f195,Tryz.func195,by kernel_rfl,by kernel_rfl⟩
theorem Ze5 : Enters Tg 175 := ⟨Tryz.f175,Tryz.func175,by kernel_rfl,by kernel_rfl⟩
theorem Ze6 : Enters Tg 176 := ⟨Tryz.f176,Tryz.func176,by kernel_rfl,by kernel_rfl⟩
theorem Zkx : Enters Tg 109 := ⟨Tryz.f109,Tryz.func109,by kernel_rfl,by kernel_rfl⟩
theorem Zip : Enters Tg 177 := ⟨Tryz.f177,Tryz.func177,by kernel_rfl,by kernel_rfl⟩
theorem Zhz : Enters Tg 196 := ⟨Tryz.f196,Tryz.func196,by kernel_rfl,by kernel_rfl⟩
theorem Zg9 : Enters Tg 211 := ⟨Tryz.f211,Tryz.func211,by kernel_rfl,by kernel_rfl⟩
theorem Z9y : Enters Tg 212 := ⟨Tryz.f212,Tryz.func212,by kernel_rfl,by kernel_rfl⟩
theorem Znd : Enters Tg 221 := ⟨Tryz.f221,Tryz.func221,by kernel_rfl,by kernel_rfl⟩
theorem Zje : Enters Tg 228 := ⟨Tryz.f228,Tryz.func228,by kernel_rfl,by kernel_rfl⟩
theorem Zjf : Enters Tg 222 := ⟨Tryz.f222,Tryz.func222,by kernel_rfl,by kernel_rfl⟩
theorem Zjg : Enters Tg 223 := ⟨Tryz.f223,Tryz.func223,by kernel_rfl,by kernel_rfl⟩
theorem Ze7 : Enters Tg 178 := ⟨Tryz.f178,Tryz.func178,by kernel_rfl,by kernel_rfl⟩
theorem Zga : Enters Tg 153 := ⟨Tryz.f153,Tryz.func153,by kernel_rfl,by kernel_rfl⟩
theorem Ziq : Enters Tg 156 := ⟨Tryz.f156,Tryz.func156,by kernel_rfl,by kernel_rfl⟩
theorem Zgr : Enters Tg 181 := ⟨Tryz.f181,Tryz.func181,by kernel_rfl,by kernel_rfl⟩
theorem Zi0 : Enters Tg 182 := ⟨Tryz.f182,Tryz.func182,by kernel_rfl,by kernel_rfl⟩
theorem Zir : Enters Tg 183 := ⟨Tryz.f183,Tryz.func183,by kernel_rfl,by kernel_rfl⟩
noncomputable def Z9m : Hints := ⟨[(152,Zhm),(154,Zh6),(155,Z114),(193,Z8a),(198,Zhr),(199,Zhw),(200,Zh7),(201,Zrs),(202,Zuu),(203,Zlz),(207,Z7n),(208,Z8q),(215,Zfc)],[(110,Tryz.f110,Z3f),(134,Tryz.f134,Zgm),(168,Tryz.f168,Zdu),(169,Tryz.f169,Zdv),(170,Tryz.f170,Zdw),(171,Tryz.f171,Zb2),(172,Tryz.f172,Zdx),(173,Tryz.f173,Zel),(192,Tryz.f192,Zbp),(206,Tryz.f206,Z7y),(218,Tryz.f218,Z8t),(174,Tryz.f174,Zah),(194,Tryz.f194,Zgn),(210,Tryz.f210,Zch),(195,Tryz.f195,Z71),(175,Tryz.f175,Zdy),(176,Tryz.f176,Zdz),(109,Tryz.f109,Zkw),(177,Tryz.f177,Zim),(196,Tryz.f196,Zhx),(211,Tryz.f211,Zg7),(212,Tryz.f212,Z9x),(221,Tryz.f221,Znc),(228,Tryz.f228,Zjb),(222,Tryz.f222,Zjc),(223,Tryz.f223,Zjd),(178,Tryz.f178,Ze0),(153,Tryz.f153,Zg8),(156,Tryz.f156,Zin),(181,Tryz.f181,Zgo),(182,Tryz.f182,Zhy),(183,Tryz.f183,Zio)],[233,235,236,238,183]⟩
theorem Zig {m n : Nat} {ds : List D} {d : D} (h : funD Tg Z9m m n Z3f Tryz.f110 ds = some d) : DataSem Tg 110 ds d := Zf (H := Z9m) (SpOk.cons Z113 (SpOk.cons Zvq (SpOk.cons Z1j0 (SpOk.cons Zl4 (SpOk.cons Z115 (SpOk.cons Z116 (SpOk.cons Zw2 (SpOk.cons Z16t (SpOk.cons Z19w (SpOk.cons Z106 (SpOk.cons Zg1 (SpOk.cons Zmp (SpOk.cons Zot SpOk.nil))))))))))))) mixed (InlOk.cons Tryz.func110 Z7g (InlOk.cons Tryz.func134 Zgp (InlOk.cons Tryz.func168 Ze1 (InlOk.cons Tryz.func169 Ze2 (InlOk.cons Tryz.func170 Ze3 (InlOk.cons Tryz.func171 Zb3 (InlOk.cons Tryz.func172 Ze4 (InlOk.cons Tryz.func173 Zem (InlOk.cons Tryz.func192 Zbq (InlOk.cons Tryz.func206 Z7z (InlOk.cons Tryz.func218 Z8u (InlOk.cons Tryz.func174 Zai (InlOk.cons Tryz.func194 Zgq (InlOk.cons Tryz.func210 Zci (InlOk.cons Tryz.func195 Z72 (InlOk.cons Tryz.func175 Ze5 (InlOk.cons Tryz.func176 Ze6 (InlOk.cons Tryz.func109 Zkx (InlOk.cons Tryz.func177 Zip (InlOk.cons Tryz.func196 Zhz (InlOk.cons Tryz.func211 Zg9 (InlOk.cons Tryz.func212 Z9y (InlOk.cons Tryz.func221 Znd (InlOk.cons Tryz.func228 Zje (InlOk.cons Tryz.func222 Zjf (InlOk.cons Tryz.func223 Zjg (InlOk.cons Tryz.func178 Ze7 (InlOk.cons Tryz.func153 Zga (InlOk.cons Tryz.func156 Ziq (InlOk.cons Tryz.func181 Zgr (InlOk.cons Tryz.func182 Zi0 (InlOk.cons Tryz.func183 Zir InlOk.nil)))))))))))))))))))))))))))))))) Tryz.func110 Z7g h
def Zne : List D := [(D.agg [(D.v (.int .u8 (1 : Int))),(D.v (.string (ByteArray.mk #[104,116,116,112,58,47,47,97]))),(D.v (.bool false)),zU,(D.v (.string (ByteArray.mk #[]))),(D.list 0 (some 0) []),(D.v (.bool false)),zU,(D.v (.string (ByteArray.mk #[]))),(D.v (.int .u8 (0 : Int))),zU,zU,zU,zU,zU,zU,zU,zU,zU,zU,zU,zU,zU,zU,zU,zU,(D.list 0 (some 0) [])])]
def Znf : D := zI
def Zng : List D := [(D.agg [(D.v (.int .u8 (2 : Int))),(D.v (.string (ByteArray.mk #[]))),(D.v (.bool false)),zU,(D.v (.string (ByteArray.mk #[]))),(D.list 0 (some 0) []),(D.v (.bool true)),(D.v (.int .u32 (12 : Int))),(D.v (.string (ByteArray.mk #[98]))),(D.v (.int .u8 (0 : Int))),zU,zU,zU,zU,zU,zU,zU,zU,zU,zU,zU,zU,zU,zU,zU,zU,(D.list 0 (some 0) [])])]
def Znh : D := zI
theorem Zxy : funD Tg Z9m 100000 60 Z3f Tryz.f110 Zne = some Znf := by kernel_rfl
theorem Zxz : funD Tg Z9m 100000 60 Z3f Tryz.f110 Zng = some Znh := by kernel_rfl
def Z80 (ds : List D) : Option D := if isT Zne ds then some Znf else (if isT Zng ds then some Znh else (none))
theorem Z117 : ∀ ds d,Z80 ds = some d → DataSem Tg 110 ds d := by
 intro ds d h
 unfold Z80 at h
 split at h
 ·rename_i ha; obtain rfl := isT_eq ha; cases h; exact Zig Zxy
 split at h
 ·rename_i ha; obtain rfl := isT_eq ha; cases h; exact Zig Zxz
 cases h
end Go.Ev