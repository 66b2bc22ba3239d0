/- Closed calls of the program at the two qualifiers of the examples. No conditions. -/
import Derived.Test.YthakkigkdhaihaaGreatDoorEzI
set_option linter.unusedVariables false
set_option maxRecDepth 1000000
namespace Go.Ev
open Go Go.Proofs
def Z3h : FnH := ⟨[],[]⟩
def Zm9 : FnH := ⟨[],[]⟩
def Zk6 : FnH := ⟨[(6,⟨(bm 1924145348608 47),[(38,1)],none,none⟩)],[]⟩
theorem Z6w : Enters Tg 215 := ⟨Tryz.f215,Tryz.func215,by kernel_rfl,by kernel_rfl⟩
theorem Zma : Enters Tg 157 := ⟨Tryz.f157,Tryz.func157,by kernel_rfl,by kernel_rfl⟩
theorem Zk7 : Enters Tg 117 := ⟨Tryz.f117,Tryz.func117,by kernel_rfl,by kernel_rfl⟩
noncomputable def Zcw : Hints := ⟨[],[(215,Tryz.f215,Z3h),(157,Tryz.f157,Zm9),(117,Tryz.f117,Zk6)],[303,305,306,308,253]⟩
theorem Zj5 {m n : Nat} {ds : List D} {d : D} (h : funD Tg Zcw m n Z3h Tryz.f215 ds = some d) : DataSem Tg 215 ds d := Zo (H := Zcw) SpOk.nil mixed (InlOk.cons Tryz.func215 Z6w (InlOk.cons Tryz.func157 Zma (InlOk.cons Tryz.func117 Zk7 InlOk.nil))) Tryz.func215 Z6w h
def Zmv : List D := [(D.v (.int .u8 (1 : Int)))]
def Zmw : D := (D.agg [(D.v (.int .u8 (9 : Int))),(D.v (.int .u32 (1 : Int))),(D.v (.int .u32 (3 : Int))),(D.v (.int .u32 (6 : Int))),(D.v (.int .u32 (1 : Int))),(D.v (.int .u32 (5 : Int))),(D.v (.int .u32 (5 : Int))),(D.v (.int .u32 (7 : Int))),(D.v (.int .u32 (2 : Int))),(D.v (.int .u32 (1 : Int))),zU,zU,zU,zU,zU,zU,zU])
def Zmx : List D := [(D.v (.int .u8 (2 : Int)))]
def Zmy : D := (D.agg [(D.v (.int .u8 (9 : Int))),(D.v (.int .u32 (1 : Int))),(D.v (.int .u32 (3 : Int))),(D.v (.int .u32 (6 : Int))),(D.v (.int .u32 (1 : Int))),(D.v (.int .u32 (5 : Int))),(D.v (.int .u32 (5 : Int))),(D.v (.int .u32 (7 : Int))),(D.v (.int .u32 (2 : Int))),(D.v (.int .u32 (2 : Int))),zU,zU,zU,zU,zU,zU,zU])
theorem Zw3 : funD Tg Zcw 100000 60 Z3h Tryz.f215 Zmv = some Zmw := by kernel_rfl
theorem Zw4 : funD Tg Zcw 100000 60 Z3h Tryz.f215 Zmx = some Zmy := by kernel_rfl
def Zem (ds : List D) : Option D := if isT Zmv ds then some Zmw else (if isT Zmx ds then some Zmy else (none))
theorem Zqm : ∀ ds d,Zem ds = some d → DataSem Tg 215 ds d := by
 intro ds d h
 unfold Zem at h
 split at h
 ·rename_i ha; obtain rfl := isT_eq ha; cases h; exact Zj5 Zw3
 split at h
 ·rename_i ha; obtain rfl := isT_eq ha; cases h; exact Zj5 Zw4
 cases h
def Z32 : FnH := ⟨[],[]⟩
def Zad : FnH := ⟨[(6,⟨(bm 524368 30),[(6,1)],none,none⟩)],[]⟩
def Z8y : FnH := ⟨[],[]⟩
def Z9q : FnH := ⟨[],[]⟩
def Z8z : FnH := ⟨[],[]⟩
def Z82 : FnH := ⟨[],[]⟩
def Z6z : FnH := ⟨[],[]⟩
def Zae : FnH := ⟨[],[]⟩
def Z67 : FnH := ⟨[],[]⟩
def Z70 : FnH := ⟨[],[]⟩
def Z7g : FnH := ⟨[],[]⟩
def Z90 : FnH := ⟨[(38,⟨(bm 47890485652059026823698344598447161988085597568237568 187),[],none,none⟩),(5,⟨(bm 1923 187),[],none,none⟩),(12,⟨(bm 6019 187),[],none,none⟩),(25,⟨(bm 50049 187),[],none,none⟩),(29,⟨(bm 115585 187),[],none,none⟩)],[]⟩
def Z91 : FnH := ⟨[],[]⟩
def Z71 : FnH := ⟨[],[]⟩
def Zbv : FnH := ⟨[],[]⟩
def Zaf : FnH := ⟨[],[]⟩
def Zag : FnH := ⟨[],[]⟩
def Zah : FnH := ⟨[],[]⟩
def Z8k : FnH := ⟨[],[]⟩
def Z3j : FnH := ⟨[(2,⟨(bm 387 19),[],none,none⟩)],[]⟩
def Z7h : FnH := ⟨[(4,⟨(bm 2052 20),[],none,none⟩)],[]⟩
def Z9r : FnH := ⟨[(1,⟨(bm 1 169),[],none,none⟩),(9,⟨(bm 1 169),[],none,none⟩)],[]⟩
def Z9s : FnH := ⟨[],[]⟩
def Z72 : FnH := ⟨[],[]⟩
theorem Z47 : Enters Tg 264 := ⟨Tryz.f264,Tryz.func264,by kernel_rfl,by kernel_rfl⟩
theorem Zai : Enters Tg 279 := ⟨Tryz.f279,Tryz.func279,by kernel_rfl,by kernel_rfl⟩
theorem Z92 : Enters Tg 289 := ⟨Tryz.f289,Tryz.func289,by kernel_rfl,by kernel_rfl⟩
theorem Z9t : Enters Tg 296 := ⟨Tryz.f296,Tryz.func296,by kernel_rfl,by kernel_rfl⟩
theorem Z93 : Enters Tg 299 := ⟨Tryz.f299,Tryz.func299,by kernel_rfl,by kernel_rfl⟩
theorem Z83 : Enters Tg 302 := ⟨Tryz.f302,Tryz.func302,by kernel_rfl,by kernel_rfl⟩
theorem Z73 : Enters Tg 307 := ⟨Tryz.f307,Tryz.func307,by kernel_rfl,by kernel_rfl⟩
theorem Zaj : Enters Tg 303 := ⟨Tryz.f303,Tryz.func303,by kernel_rfl,by kernel_rfl⟩
theorem Z68 : Enters Tg 308 := ⟨Tryz.f308,Tryz.func308,by kernel_rfl,by kernel_rfl⟩
theorem Z74 : Enters Tg 304 := ⟨Tryz.f304,Tryz.func304,by kernel_rfl,by kernel_rfl⟩
theorem Z7i : Enters Tg 309 := ⟨Tryz.f309,Tryz.func309,by kernel_rfl,by kernel_rfl⟩
theorem Z94 : Enters Tg 310 := ⟨Tryz.f310,Tryz.func310,by kernel_rfl,by kernel_rfl⟩
theorem Z95 : Enters Tg 311 := ⟨Tryz.f311,Tryz.func311,by kernel_rfl,by kernel_rfl⟩
theorem Z75 : Enters Tg 315 := ⟨Tryz.f315,Tryz.func315,by kernel_rfl,by kernel_rfl⟩
theorem Zbw : Enters Tg 312 := ⟨Tryz.f312,Tryz.func312,by kernel_rfl,by kernel_rfl⟩
theorem Zak : Enters Tg 313 := ⟨Tryz.f313,Tryz.func313,by kernel_rfl,by kernel_rfl⟩
theorem Zal : Enters Tg 305 := ⟨Tryz.f305,Tryz.func305,by kernel_rfl,by kernel_rfl⟩
theorem Zam : Enters Tg 306 := ⟨Tryz.f306,Tryz.func306,by kernel_rfl,by kernel_rfl⟩
theorem Z8l : Enters Tg 301 := ⟨Tryz.f301,Tryz.func301,by kernel_rfl,by kernel_rfl⟩
theorem Z3k : Enters Tg 300 := ⟨Tryz.f300,Tryz.func300,by kernel_rfl,by kernel_rfl⟩
theorem Z7j : Enters Tg 297 := ⟨Tryz.f297,Tryz.func297,by kernel_rfl,by kernel_rfl⟩
theorem Z9u : Enters Tg 228 := ⟨Tryz.f228,Tryz.func228,by kernel_rfl,by kernel_rfl⟩
theorem Z9v : Enters Tg 259 := ⟨Tryz.f259,Tryz.func259,by kernel_rfl,by kernel_rfl⟩
theorem Z76 : Enters Tg 241 := ⟨Tryz.f241,Tryz.func241,by kernel_rfl,by kernel_rfl⟩
noncomputable def Z8m : Hints := ⟨[],[(264,Tryz.f264,Z32),(279,Tryz.f279,Zad),(289,Tryz.f289,Z8y),(296,Tryz.f296,Z9q),(299,Tryz.f299,Z8z),(302,Tryz.f302,Z82),(307,Tryz.f307,Z6z),(303,Tryz.f303,Zae),(308,Tryz.f308,Z67),(304,Tryz.f304,Z70),(309,Tryz.f309,Z7g),(310,Tryz.f310,Z90),(311,Tryz.f311,Z91),(315,Tryz.f315,Z71),(312,Tryz.f312,Zbv),(313,Tryz.f313,Zaf),(305,Tryz.f305,Zag),(306,Tryz.f306,Zah),(301,Tryz.f301,Z8k),(300,Tryz.f300,Z3j),(297,Tryz.f297,Z7h),(228,Tryz.f228,Z9r),(259,Tryz.f259,Z9s),(241,Tryz.f241,Z72)],[303,305,306,308,253]⟩
theorem Zlh {m n : Nat} {ds : List D} {d : D} (h : funD Tg Z8m m n Z32 Tryz.f264 ds = some d) : DataSem Tg 264 ds d := Zo (H := Z8m) SpOk.nil mixed (InlOk.cons Tryz.func264 Z47 (InlOk.cons Tryz.func279 Zai (InlOk.cons Tryz.func289 Z92 (InlOk.cons Tryz.func296 Z9t (InlOk.cons Tryz.func299 Z93 (InlOk.cons Tryz.func302 Z83 (InlOk.cons Tryz.func307 Z73 (InlOk.cons Tryz.func303 Zaj (InlOk.cons Tryz.func308 Z68 (InlOk.cons Tryz.func304 Z74 (InlOk.cons Tryz.func309 Z7i (InlOk.cons Tryz.func310 Z94 (InlOk.cons Tryz.func311 Z95 (InlOk.cons Tryz.func315 Z75 (InlOk.cons Tryz.func312 Zbw (InlOk.cons Tryz.func313 Zak (InlOk.cons Tryz.func305 Zal (InlOk.cons Tryz.func306 Zam (InlOk.cons Tryz.func301 Z8l (InlOk.cons Tryz.func300 Z3k (InlOk.cons Tryz.func297 Z7j (InlOk.cons Tryz.func228 Z9u (InlOk.cons Tryz.func259 Z9v (InlOk.cons Tryz.func241 Z76 InlOk.nil)))))))))))))))))))))))) Tryz.func264 Z47 h
def Zfn : List D := [(D.agg [(D.v (.int .u32 (12 : Int))),(D.v (.string (ByteArray.mk #[98])))])]
def Zfo : D := (D.tup [(D.agg [(D.v (.int .u8 (0 : Int))),(D.v (.bool false)),(D.v (.int .u32 (12 : Int))),(D.list 1 (some 1) [(D.v (.int .u8 (98 : Int)))]),(D.list 0 (some 0) [])]),zI])
theorem Zol : funD Tg Z8m 100000 60 Z32 Tryz.f264 Zfn = some Zfo := by kernel_rfl
def Z61 (ds : List D) : Option D := if isT Zfn ds then some Zfo else (none)
theorem Zi3 : ∀ ds d,Z61 ds = some d → DataSem Tg 264 ds d := by
 intro ds d h
 unfold Z61 at h
 split at h
 ·rename_i ha; obtain rfl := isT_eq ha; cases h; exact Zlh Zol
 cases h
def Z3e : FnH := ⟨[],[]⟩
def Zan : FnH := ⟨[],[]⟩
def Zbx : FnH := ⟨[],[]⟩
def Zao : FnH := ⟨[],[]⟩
def Z96 : FnH := ⟨[],[]⟩
def Z84 : FnH := ⟨[],[]⟩
def Zcx : FnH := ⟨[],[]⟩
def Z77 : FnH := ⟨[],[]⟩
def Z85 : FnH := ⟨[],[]⟩
def Z8n : FnH := ⟨[],[]⟩
def Zap : FnH := ⟨[(38,⟨(bm 47890485652059026823698344598447161988085597568237568 187),[],none,none⟩),(5,⟨(bm 1923 187),[],none,none⟩),(12,⟨(bm 6019 187),[],none,none⟩),(25,⟨(bm 50049 187),[],none,none⟩),(29,⟨(bm 115585 187),[],none,none⟩)],[]⟩
def Zaq : FnH := ⟨[],[]⟩
def Z86 : FnH := ⟨[],[]⟩
def Zdu : FnH := ⟨[],[]⟩
def Zcy : FnH := ⟨[],[]⟩
def Zcz : FnH := ⟨[],[]⟩
def Zd0 : FnH := ⟨[],[]⟩
def Z9w : FnH := ⟨[],[]⟩
def Z3p : FnH := ⟨[(2,⟨(bm 387 19),[],none,none⟩)],[]⟩
def Z8o : FnH := ⟨[(4,⟨(bm 2052 20),[],none,none⟩)],[]⟩
def Zby : FnH := ⟨[(1,⟨(bm 1 169),[],none,none⟩),(9,⟨(bm 1 169),[],none,none⟩)],[]⟩
def Zbz : FnH := ⟨[],[]⟩
theorem Z4u : Enters Tg 277 := ⟨Tryz.f277,Tryz.func277,by kernel_rfl,by kernel_rfl⟩
theorem Zar : Enters Tg 289 := ⟨Tryz.f289,Tryz.func289,by kernel_rfl,by kernel_rfl⟩
theorem Zc0 : Enters Tg 296 := ⟨Tryz.f296,Tryz.func296,by kernel_rfl,by kernel_rfl⟩
theorem Zas : Enters Tg 299 := ⟨Tryz.f299,Tryz.func299,by kernel_rfl,by kernel_rfl⟩
theorem Z97 : Enters Tg 302 := ⟨Tryz.f302,Tryz.func302,by kernel_rfl,by kernel_rfl⟩
theorem Z87 : Enters Tg 307 := ⟨Tryz.f307,Tryz.func307,by kernel_rfl,by kernel_rfl⟩
theorem Zd1 : Enters Tg 303 := ⟨Tryz.f303,Tryz.func303,by kernel_rfl,by kernel_rfl⟩
theorem Z78 : Enters Tg 308 := ⟨Tryz.f308,Tryz.func308,by kernel_rfl,by kernel_rfl⟩
theorem Z88 : Enters Tg 304 := ⟨Tryz.f304,Tryz.func304,by kernel_rfl,by kernel_rfl⟩
theorem Z8p : Enters Tg 309 := ⟨Tryz.f309,Tryz.func309,by kernel_rfl,by kernel_rfl⟩
theorem Zat : Enters Tg 310 := ⟨Tryz.f310,Tryz.func310,by kernel_rfl,by kernel_rfl⟩
theorem Zau : Enters Tg 311 := ⟨Tryz.f311,Tryz.func311,by kernel_rfl,by kernel_rfl⟩
theorem Z89 : Enters Tg 315 := ⟨Tryz.f315,Tryz.func315,by kernel_rfl,by kernel_rfl⟩
theorem Zdv : Enters Tg 312 := ⟨Tryz.f312,Tryz.func312,by kernel_rfl,by kernel_rfl⟩
theorem Zd2 : Enters Tg 313 := ⟨Tryz.f313,Tryz.func313,by kernel_rfl,by kernel_rfl⟩
theorem Zd3 : Enters Tg 305 := ⟨Tryz.f305,Tryz.func305,by kernel_rfl,by kernel_rfl⟩
theorem Zd4 : Enters Tg 306 := ⟨Tryz.f306,Tryz.func306,by kernel_rfl,by kernel_rfl⟩
theorem Z9x : Enters Tg 301 := ⟨Tryz.f301,Tryz.func301,by kernel_rfl,by kernel_rfl⟩
theorem Z3q : Enters Tg 300 := ⟨Tryz.f300,Tryz.func300,by kernel_rfl,by kernel_rfl⟩
theorem Z8q : Enters Tg 297 := ⟨Tryz.f297,Tryz.func297,by kernel_rfl,by kernel_rfl⟩
theorem Zc1 : Enters Tg 228 := ⟨Tryz.f228,Tryz.func228,by kernel_rfl,by kernel_rfl⟩
theorem Zc2 : Enters Tg 259 := ⟨Tryz.f259,Tryz.func259,by kernel_rfl,by kernel_rfl⟩
noncomputable def Zc3 : Hints := ⟨[],[(277,Tryz.f277,Z3e),(289,Tryz.f289,Zan),(296,Tryz.f296,Zbx),(299,Tryz.f299,Zao),(302,Tryz.f302,Z96),(307,Tryz.f307,Z84),(303,Tryz.f303,Zcx),(308,Tryz.f308,Z77),(304,Tryz.f304,Z85),(309,Tryz.f309,Z8n),(310,Tryz.f310,Zap),(311,Tryz.f311,Zaq),(315,Tryz.f315,Z86),(312,Tryz.f312,Zdu),(313,Tryz.f313,Zcy),(305,Tryz.f305,Zcz),(306,Tryz.f306,Zd0),(301,Tryz.f301,Z9w),(300,Tryz.f300,Z3p),(297,Tryz.f297,Z8o),(228,Tryz.f228,Zby),(259,Tryz.f259,Zbz)],[303,305,306,308,253]⟩
theorem Znu {m n : Nat} {ds : List D} {d : D} (h : funD Tg Zc3 m n Z3e Tryz.f277 ds = some d) : DataSem Tg 277 ds d := Zo (H := Zc3) SpOk.nil mixed (InlOk.cons Tryz.func277 Z4u (InlOk.cons Tryz.func289 Zar (InlOk.cons Tryz.func296 Zc0 (InlOk.cons Tryz.func299 Zas (InlOk.cons Tryz.func302 Z97 (InlOk.cons Tryz.func307 Z87 (InlOk.cons Tryz.func303 Zd1 (InlOk.cons Tryz.func308 Z78 (InlOk.cons Tryz.func304 Z88 (InlOk.cons Tryz.func309 Z8p (InlOk.cons Tryz.func310 Zat (InlOk.cons Tryz.func311 Zau (InlOk.cons Tryz.func315 Z89 (InlOk.cons Tryz.func312 Zdv (InlOk.cons Tryz.func313 Zd2 (InlOk.cons Tryz.func305 Zd3 (InlOk.cons Tryz.func306 Zd4 (InlOk.cons Tryz.func301 Z9x (InlOk.cons Tryz.func300 Z3q (InlOk.cons Tryz.func297 Z8q (InlOk.cons Tryz.func228 Zc1 (InlOk.cons Tryz.func259 Zc2 InlOk.nil)))))))))))))))))))))) Tryz.func277 Z4u h
def Zi4 : List D := [(D.agg [(D.v (.int .u32 (12 : Int))),(D.v (.string (ByteArray.mk #[98])))])]
def Zi5 : D := zI
theorem Zr7 : funD Tg Zc3 100000 60 Z3e Tryz.f277 Zi4 = some Zi5 := by kernel_rfl
def Z5j (ds : List D) : Option D := if isT Zi4 ds then some Zi5 else (none)
theorem Zdw : ∀ ds d,Z5j ds = some d → DataSem Tg 277 ds d := by
 intro ds d h
 unfold Z5j at h
 split at h
 ·rename_i ha; obtain rfl := isT_eq ha; cases h; exact Znu Zr7
 cases h
def Z37 : FnH := ⟨[],[]⟩
def Z79 : FnH := ⟨[(2,⟨(bm 20 10),[],none,none⟩)],[]⟩
theorem Z4l : Enters Tg 278 := ⟨Tryz.f278,Tryz.func278,by kernel_rfl,by kernel_rfl⟩
theorem Z7a : Enters Tg 290 := ⟨Tryz.f290,Tryz.func290,by kernel_rfl,by kernel_rfl⟩
noncomputable def Z9y : Hints := ⟨[(277,Z5j)],[(278,Tryz.f278,Z37),(290,Tryz.f290,Z79)],[303,305,306,308,253]⟩
theorem Zmb {m n : Nat} {ds : List D} {d : D} (h : funD Tg Z9y m n Z37 Tryz.f278 ds = some d) : DataSem Tg 278 ds d := Zo (H := Z9y) (SpOk.cons Zdw SpOk.nil) mixed (InlOk.cons Tryz.func278 Z4l (InlOk.cons Tryz.func290 Z7a InlOk.nil)) Tryz.func278 Z4l h
def Zgg : List D := [(D.agg [(D.v (.int .u32 (12 : Int))),(D.v (.string (ByteArray.mk #[98])))])]
def Zgh : D := (D.v (.int .i64 (1 : Int)))
theorem Zpy : funD Tg Z9y 100000 60 Z37 Tryz.f278 Zgg = some Zgh := by kernel_rfl
def Z69 (ds : List D) : Option D := if isT Zgg ds then some Zgh else (none)
theorem Zj6 : ∀ ds d,Z69 ds = some d → DataSem Tg 278 ds d := by
 intro ds d h
 unfold Z69 at h
 split at h
 ·rename_i ha; obtain rfl := isT_eq ha; cases h; exact Zmb Zpy
 cases h
def Z35 : FnH := ⟨[],[]⟩
theorem Zdr : Enters Tg 285 := ⟨Tryz.f285,Tryz.func285,by kernel_rfl,by kernel_rfl⟩
noncomputable def Z9o : Hints := ⟨[],[(285,Tryz.f285,Z35)],[303,305,306,308,253]⟩
theorem Za6 {m n : Nat} {ds : List D} {d : D} (h : funD Tg Z9o m n Z35 Tryz.f285 ds = some d) : DataSem Tg 285 ds d := Zo (H := Z9o) SpOk.nil mixed (InlOk.cons Tryz.func285 Zdr InlOk.nil) Tryz.func285 Zdr h
def Zs0 : List D := [(D.agg [(D.v (.int .u8 (0 : Int))),(D.v (.bool true)),(D.v (.int .u32 (16 : Int)))])]
def Zs1 : D := zI
def Zs2 : List D := [(D.agg [(D.v (.int .u8 (0 : Int))),(D.v (.bool false)),(D.v (.int .u32 (6 : Int)))])]
def Zs3 : D := zI
def Zs4 : List D := [(D.agg [(D.v (.int .u8 (0 : Int))),(D.v (.bool false)),(D.v (.int .u32 (22 : Int)))])]
def Zs5 : D := zI
def Zs6 : List D := [(D.agg [(D.v (.int .u8 (0 : Int))),(D.v (.bool false)),(D.v (.int .u32 (12 : Int)))])]
def Zs7 : D := zI
theorem Z13f : funD Tg Z9o 100000 60 Z35 Tryz.f285 Zs0 = some Zs1 := by kernel_rfl
theorem Z13g : funD Tg Z9o 100000 60 Z35 Tryz.f285 Zs2 = some Zs3 := by kernel_rfl
theorem Z13h : funD Tg Z9o 100000 60 Z35 Tryz.f285 Zs4 = some Zs5 := by kernel_rfl
theorem Z13i : funD Tg Z9o 100000 60 Z35 Tryz.f285 Zs6 = some Zs7 := by kernel_rfl
def Zd5 (ds : List D) : Option D := if isT Zs0 ds then some Zs1 else (if isT Zs2 ds then some Zs3 else (if isT Zs4 ds then some Zs5 else (if isT Zs6 ds then some Zs7 else (none))))
theorem Zku : ∀ ds d,Zd5 ds = some d → DataSem Tg 285 ds d := by
 intro ds d h
 unfold Zd5 at h
 split at h
 ·rename_i ha; obtain rfl := isT_eq ha; cases h; exact Za6 Z13f
 split at h
 ·rename_i ha; obtain rfl := isT_eq ha; cases h; exact Za6 Z13g
 split at h
 ·rename_i ha; obtain rfl := isT_eq ha; cases h; exact Za6 Z13h
 split at h
 ·rename_i ha; obtain rfl := isT_eq ha; cases h; exact Za6 Z13i
 cases h
def Z3r : FnH := ⟨[],[]⟩
def Zav : FnH := ⟨[],[]⟩
def Zaw : FnH := ⟨[(4,⟨(bm 14336 24),[(11,1)],none,none⟩)],[]⟩
def Zax : FnH := ⟨[],[]⟩
def Z8r : FnH := ⟨[],[]⟩
def Zay : FnH := ⟨[],[]⟩
def Zc4 : FnH := ⟨[],[]⟩
def Z98 : FnH := ⟨[],[]⟩
def Z5t : FnH := ⟨[],[]⟩
def Z6a : FnH := ⟨[(2,⟨(bm 387 19),[],none,none⟩)],[]⟩
def Z8a : FnH := ⟨[(8,⟨(bm 3758096566 83),[(29,1)],none,none⟩)],[]⟩
def Ze9 : FnH := ⟨[(3,⟨(bm 73 25),[],none,none⟩),(8,⟨(bm 32 25),[(5,1)],none,none⟩)],[]⟩
def Z9z : FnH := ⟨[],[]⟩
def Z50 : FnH := ⟨[],[]⟩
def Zaz : FnH := ⟨[],[]⟩
def Zb0 : FnH := ⟨[],[]⟩
def Zhq : FnH := ⟨[(6,⟨(bm 1924145348608 47),[(38,1)],none,none⟩)],[]⟩
def Zfv : FnH := ⟨[],[]⟩
def Zf1 : FnH := ⟨[],[]⟩
def Zdx : FnH := ⟨[],[]⟩
def Z7k : FnH := ⟨[(25,⟨(bm 16655 151),[],none,none⟩)],[]⟩
def Zj7 : FnH := ⟨[],[]⟩
def Zgi : FnH := ⟨[(3,⟨(bm 13 43),[],none,none⟩)],[]⟩
def Zgj : FnH := ⟨[],[]⟩
def Zgk : FnH := ⟨[],[]⟩
def Zb1 : FnH := ⟨[],[]⟩
theorem Z59 : Enters Tg 213 := ⟨Tryz.f213,Tryz.func213,by kernel_rfl,by kernel_rfl⟩
theorem Zb2 : Enters Tg 238 := ⟨Tryz.f238,Tryz.func238,by kernel_rfl,by kernel_rfl⟩
theorem Zb3 : Enters Tg 239 := ⟨Tryz.f239,Tryz.func239,by kernel_rfl,by kernel_rfl⟩
theorem Zb4 : Enters Tg 240 := ⟨Tryz.f240,Tryz.func240,by kernel_rfl,by kernel_rfl⟩
theorem Z8s : Enters Tg 241 := ⟨Tryz.f241,Tryz.func241,by kernel_rfl,by kernel_rfl⟩
theorem Zb5 : Enters Tg 242 := ⟨Tryz.f242,Tryz.func242,by kernel_rfl,by kernel_rfl⟩
theorem Zc5 : Enters Tg 243 := ⟨Tryz.f243,Tryz.func243,by kernel_rfl,by kernel_rfl⟩
theorem Z99 : Enters Tg 263 := ⟨Tryz.f263,Tryz.func263,by kernel_rfl,by kernel_rfl⟩
theorem Z5u : Enters Tg 276 := ⟨Tryz.f276,Tryz.func276,by kernel_rfl,by kernel_rfl⟩
theorem Z6b : Enters Tg 288 := ⟨Tryz.f288,Tryz.func288,by kernel_rfl,by kernel_rfl⟩
theorem Z8b : Enters Tg 244 := ⟨Tryz.f244,Tryz.func244,by kernel_rfl,by kernel_rfl⟩
theorem Zea : Enters Tg 265 := ⟨Tryz.f265,Tryz.func265,by kernel_rfl,by kernel_rfl⟩
theorem Za0 : Enters Tg 280 := ⟨Tryz.f280,Tryz.func280,by kernel_rfl,by kernel_rfl⟩
theorem Z51 : Enters Tg 266 := ⟨Tryz.f266,Tryz.func266,by kernel_rfl,by kernel_rfl⟩
theorem Zb6 : Enters Tg 245 := ⟨Tryz.f245,Tryz.func245,by kernel_rfl,by kernel_rfl⟩
theorem Zb7 : Enters Tg 246 := ⟨Tryz.f246,Tryz.func246,by kernel_rfl,by kernel_rfl⟩
theorem Zhr : Enters Tg 117 := ⟨Tryz.f117,Tryz.func117,by kernel_rfl,by kernel_rfl⟩
theorem Zfw : Enters Tg 247 := ⟨Tryz.f247,Tryz.func247,by kernel_rfl,by kernel_rfl⟩
theorem Zf2 : Enters Tg 267 := ⟨Tryz.f267,Tryz.func267,by kernel_rfl,by kernel_rfl⟩
theorem Zdy : Enters Tg 281 := ⟨Tryz.f281,Tryz.func281,by kernel_rfl,by kernel_rfl⟩
theorem Z7l : Enters Tg 282 := ⟨Tryz.f282,Tryz.func282,by kernel_rfl,by kernel_rfl⟩
theorem Zj8 : Enters Tg 291 := ⟨Tryz.f291,Tryz.func291,by kernel_rfl,by kernel_rfl⟩
theorem Zgl : Enters Tg 298 := ⟨Tryz.f298,Tryz.func298,by kernel_rfl,by kernel_rfl⟩
theorem Zgm : Enters Tg 292 := ⟨Tryz.f292,Tryz.func292,by kernel_rfl,by kernel_rfl⟩
theorem Zgn : Enters Tg 293 := ⟨Tryz.f293,Tryz.func293,by kernel_rfl,by kernel_rfl⟩
theorem Zb8 : Enters Tg 248 := ⟨Tryz.f248,Tryz.func248,by kernel_rfl,by kernel_rfl⟩
noncomputable def Zdz : Hints := ⟨[(215,Zem),(264,Z61),(277,Z5j),(278,Z69),(285,Zd5)],[(213,Tryz.f213,Z3r),(238,Tryz.f238,Zav),(239,Tryz.f239,Zaw),(240,Tryz.f240,Zax),(241,Tryz.f241,Z8r),(242,Tryz.f242,Zay),(243,Tryz.f243,Zc4),(263,Tryz.f263,Z98),(276,Tryz.f276,Z5t),(288,Tryz.f288,Z6a),(244,Tryz.f244,Z8a),(265,Tryz.f265,Ze9),(280,Tryz.f280,Z9z),(266,Tryz.f266,Z50),(245,Tryz.f245,Zaz),(246,Tryz.f246,Zb0),(117,Tryz.f117,Zhq),(247,Tryz.f247,Zfv),(267,Tryz.f267,Zf1),(281,Tryz.f281,Zdx),(282,Tryz.f282,Z7k),(291,Tryz.f291,Zj7),(298,Tryz.f298,Zgi),(292,Tryz.f292,Zgj),(293,Tryz.f293,Zgk),(248,Tryz.f248,Zb1)],[303,305,306,308,253]⟩
theorem Zom {m n : Nat} {ds : List D} {d : D} (h : funD Tg Zdz m n Z3r Tryz.f213 ds = some d) : DataSem Tg 213 ds d := Zo (H := Zdz) (SpOk.cons Zqm (SpOk.cons Zi3 (SpOk.cons Zdw (SpOk.cons Zj6 (SpOk.cons Zku SpOk.nil))))) mixed (InlOk.cons Tryz.func213 Z59 (InlOk.cons Tryz.func238 Zb2 (InlOk.cons Tryz.func239 Zb3 (InlOk.cons Tryz.func240 Zb4 (InlOk.cons Tryz.func241 Z8s (InlOk.cons Tryz.func242 Zb5 (InlOk.cons Tryz.func243 Zc5 (InlOk.cons Tryz.func263 Z99 (InlOk.cons Tryz.func276 Z5u (InlOk.cons Tryz.func288 Z6b (InlOk.cons Tryz.func244 Z8b (InlOk.cons Tryz.func265 Zea (InlOk.cons Tryz.func280 Za0 (InlOk.cons Tryz.func266 Z51 (InlOk.cons Tryz.func245 Zb6 (InlOk.cons Tryz.func246 Zb7 (InlOk.cons Tryz.func117 Zhr (InlOk.cons Tryz.func247 Zfw (InlOk.cons Tryz.func267 Zf2 (InlOk.cons Tryz.func281 Zdy (InlOk.cons Tryz.func282 Z7l (InlOk.cons Tryz.func291 Zj8 (InlOk.cons Tryz.func298 Zgl (InlOk.cons Tryz.func292 Zgm (InlOk.cons Tryz.func293 Zgn (InlOk.cons Tryz.func248 Zb8 InlOk.nil)))))))))))))))))))))))))) Tryz.func213 Z59 h
def Zj9 : List D := []
def Zja : D := (D.agg [(D.v .nilFunc),(D.v .nilFunc),(D.v .nilFunc),(D.fn 238 []),(D.fn 239 []),(D.fn 240 []),(D.fn 242 []),(D.fn 243 []),(D.fn 244 []),(D.fn 245 []),(D.fn 246 []),(D.fn 248 [])])
theorem Zs8 : funD Tg Zdz 100000 60 Z3r Tryz.f213 Zj9 = some Zja := by kernel_rfl
def Zf3 (ds : List D) : Option D := if isT Zj9 ds then some Zja else (none)
theorem Zul : ∀ ds d,Zf3 ds = some d → DataSem Tg 213 ds d := by
 intro ds d h
 unfold Zf3 at h
 split at h
 ·rename_i ha; obtain rfl := isT_eq ha; cases h; exact Zom Zs8
 cases h
def Z62 : FnH := ⟨[(8,⟨(bm 939524140 43),[(2,1),(27,1),(1002000,1)],none,none⟩),(11,⟨(bm 939524140 43),[],none,none⟩)],[]⟩
def Zon : FnH := ⟨[(6,⟨(bm 1924145348608 47),[(38,1)],none,none⟩)],[]⟩
def Zpz : FnH := ⟨[],[]⟩
def Zb9 : FnH := ⟨[],[]⟩
def Znv : FnH := ⟨[],[]⟩
def Zli : FnH := ⟨[(1,⟨(bm 11 31),[],none,none⟩),(3,⟨(bm 11 31),[],none,none⟩)],[]⟩
def Zf4 : FnH := ⟨[],[]⟩
theorem Zi6 : Enters Tg 216 := ⟨Tryz.f216,Tryz.func216,by kernel_rfl,by kernel_rfl⟩
theorem Zoo : Enters Tg 117 := ⟨Tryz.f117,Tryz.func117,by kernel_rfl,by kernel_rfl⟩
theorem Zq0 : Enters Tg 178 := ⟨Tryz.f178,Tryz.func178,by kernel_rfl,by kernel_rfl⟩
theorem Zba : Enters Tg 249 := ⟨Tryz.f249,Tryz.func249,by kernel_rfl,by kernel_rfl⟩
theorem Znw : Enters Tg 250 := ⟨Tryz.f250,Tryz.func250,by kernel_rfl,by kernel_rfl⟩
theorem Zlj : Enters Tg 268 := ⟨Tryz.f268,Tryz.func268,by kernel_rfl,by kernel_rfl⟩
theorem Zf5 : Enters Tg 241 := ⟨Tryz.f241,Tryz.func241,by kernel_rfl,by kernel_rfl⟩
noncomputable def Zmz : Hints := ⟨[],[(216,Tryz.f216,Z62),(117,Tryz.f117,Zon),(178,Tryz.f178,Zpz),(249,Tryz.f249,Zb9),(250,Tryz.f250,Znv),(268,Tryz.f268,Zli),(241,Tryz.f241,Zf4)],[303,305,306,308,253]⟩
theorem Zqn {m n : Nat} {ds : List D} {d : D} (h : funD Tg Zmz m n Z62 Tryz.f216 ds = some d) : DataSem Tg 216 ds d := Zo (H := Zmz) SpOk.nil mixed (InlOk.cons Tryz.func216 Zi6 (InlOk.cons Tryz.func117 Zoo (InlOk.cons Tryz.func178 Zq0 (InlOk.cons Tryz.func249 Zba (InlOk.cons Tryz.func250 Znw (InlOk.cons Tryz.func268 Zlj (InlOk.cons Tryz.func241 Zf5 InlOk.nil))))))) Tryz.func216 Zi6 h
def Zw5 : List D := [(D.agg [(D.v (.int .u8 (9 : Int))),(D.v (.int .u32 (1 : Int))),(D.v (.int .u32 (3 : Int))),(D.v (.int .u32 (6 : Int))),(D.v (.int .u32 (1 : Int))),(D.v (.int .u32 (5 : Int))),(D.v (.int .u32 (5 : Int))),(D.v (.int .u32 (7 : Int))),(D.v (.int .u32 (2 : Int))),(D.v (.int .u32 (1 : Int))),zU,zU,zU,zU,zU,zU,zU])]
def Zw6 : D := (D.tup [(D.list 8 (some 8) [(D.v (.int .u8 (43 : Int))),(D.v (.int .u8 (6 : Int))),(D.v (.int .u8 (1 : Int))),(D.v (.int .u8 (5 : Int))),(D.v (.int .u8 (5 : Int))),(D.v (.int .u8 (7 : Int))),(D.v (.int .u8 (2 : Int))),(D.v (.int .u8 (1 : Int)))]),zI])
def Zw7 : List D := [(D.agg [(D.v (.int .u8 (9 : Int))),(D.v (.int .u32 (1 : Int))),(D.v (.int .u32 (3 : Int))),(D.v (.int .u32 (6 : Int))),(D.v (.int .u32 (1 : Int))),(D.v (.int .u32 (5 : Int))),(D.v (.int .u32 (5 : Int))),(D.v (.int .u32 (7 : Int))),(D.v (.int .u32 (2 : Int))),(D.v (.int .u32 (2 : Int))),zU,zU,zU,zU,zU,zU,zU])]
def Zw8 : D := (D.tup [(D.list 8 (some 8) [(D.v (.int .u8 (43 : Int))),(D.v (.int .u8 (6 : Int))),(D.v (.int .u8 (1 : Int))),(D.v (.int .u8 (5 : Int))),(D.v (.int .u8 (5 : Int))),(D.v (.int .u8 (7 : Int))),(D.v (.int .u8 (2 : Int))),(D.v (.int .u8 (2 : Int)))]),zI])
theorem Z17l : funD Tg Zmz 100000 60 Z62 Tryz.f216 Zw5 = some Zw6 := by kernel_rfl
theorem Z17m : funD Tg Zmz 100000 60 Z62 Tryz.f216 Zw7 = some Zw8 := by kernel_rfl
def Zum (ds : List D) : Option D := if isT Zw5 ds then some Zw6 else (if isT Zw7 ds then some Zw8 else (none))
theorem Z1cb : ∀ ds d,Zum ds = some d → DataSem Tg 216 ds d := by
 intro ds d h
 unfold Zum at h
 split at h
 ·rename_i ha; obtain rfl := isT_eq ha; cases h; exact Zqn Z17l
 split at h
 ·rename_i ha; obtain rfl := isT_eq ha; cases h; exact Zqn Z17m
 cases h
def Z2m : FnH := ⟨[],[]⟩
def Zbb : FnH := ⟨[],[]⟩
def Zf6 : FnH := ⟨[],[]⟩
def Ze0 : FnH := ⟨[(5,⟨(bm 3670026 34),[(19,5)],none,none⟩)],[]⟩
theorem Z5a : Enters Tg 269 := ⟨Tryz.f269,Tryz.func269,by kernel_rfl,by kernel_rfl⟩
theorem Zbc : Enters Tg 284 := ⟨Tryz.f284,Tryz.func284,by kernel_rfl,by kernel_rfl⟩
theorem Zf7 : Enters Tg 283 := ⟨Tryz.f283,Tryz.func283,by kernel_rfl,by kernel_rfl⟩
theorem Ze1 : Enters Tg 294 := ⟨Tryz.f294,Tryz.func294,by kernel_rfl,by kernel_rfl⟩
noncomputable def Z7c : Hints := ⟨[(285,Zd5)],[(269,Tryz.f269,Z2m),(284,Tryz.f284,Zbb),(283,Tryz.f283,Zf6),(294,Tryz.f294,Ze0)],[303,305,306,308,253]⟩
theorem Zfp {m n : Nat} {ds : List D} {d : D} (h : funD Tg Z7c m n Z2m Tryz.f269 ds = some d) : DataSem Tg 269 ds d := Zo (H := Z7c) (SpOk.cons Zku SpOk.nil) mixed (InlOk.cons Tryz.func269 Z5a (InlOk.cons Tryz.func284 Zbc (InlOk.cons Tryz.func283 Zf7 (InlOk.cons Tryz.func294 Ze1 InlOk.nil)))) Tryz.func269 Z5a h
def Zjb : List D := [(D.agg [(D.v (.int .u8 (0 : Int))),(D.v (.bool true)),(D.v (.int .u32 (16 : Int))),(D.list 0 (some 0) []),(D.list 2 (some 2) [(D.v (.int .u8 (0 : Int))),(D.v (.bool false)),(D.v (.int .u32 (6 : Int))),(D.list 8 (some 8) [(D.v (.int .u8 (43 : Int))),(D.v (.int .u8 (6 : Int))),(D.v (.int .u8 (1 : Int))),(D.v (.int .u8 (5 : Int))),(D.v (.int .u8 (5 : Int))),(D.v (.int .u8 (7 : Int))),(D.v (.int .u8 (2 : Int))),(D.v (.int .u8 (1 : Int)))]),(D.list 0 (some 0) []),(D.v (.int .u8 (0 : Int))),(D.v (.bool false)),(D.v (.int .u32 (22 : Int))),(D.list 8 (some 8) [(D.v (.int .u8 (104 : Int))),(D.v (.int .u8 (116 : Int))),(D.v (.int .u8 (116 : Int))),(D.v (.int .u8 (112 : Int))),(D.v (.int .u8 (58 : Int))),(D.v (.int .u8 (47 : Int))),(D.v (.int .u8 (47 : Int))),(D.v (.int .u8 (97 : Int)))]),(D.list 0 (some 0) [])])])]
def Zjc : D := (D.tup [zI,(D.v (.int .i64 (3 : Int))),(D.v (.int .i64 (2 : Int)))])
def Zjd : List D := [(D.agg [(D.v (.int .u8 (0 : Int))),(D.v (.bool true)),(D.v (.int .u32 (16 : Int))),(D.list 0 (some 0) []),(D.list 2 (some 2) [(D.v (.int .u8 (0 : Int))),(D.v (.bool false)),(D.v (.int .u32 (6 : Int))),(D.list 8 (some 8) [(D.v (.int .u8 (43 : Int))),(D.v (.int .u8 (6 : Int))),(D.v (.int .u8 (1 : Int))),(D.v (.int .u8 (5 : Int))),(D.v (.int .u8 (5 : Int))),(D.v (.int .u8 (7 : Int))),(D.v (.int .u8 (2 : Int))),(D.v (.int .u8 (2 : Int)))]),(D.list 0 (some 0) []),(D.v (.int .u8 (0 : Int))),(D.v (.bool true)),(D.v (.int .u32 (16 : Int))),(D.list 0 (some 0) []),(D.list 1 (some 1) [(D.v (.int .u8 (0 : Int))),(D.v (.bool false)),(D.v (.int .u32 (12 : Int))),(D.list 1 (some 1) [(D.v (.int .u8 (98 : Int)))]),(D.list 0 (some 0) [])])])])]
def Zje : D := (D.tup [zI,(D.v (.int .i64 (4 : Int))),(D.v (.int .i64 (3 : Int)))])
theorem Zs9 : funD Tg Z7c 100000 60 Z2m Tryz.f269 Zjb = some Zjc := by kernel_rfl
theorem Zsa : funD Tg Z7c 100000 60 Z2m Tryz.f269 Zjd = some Zje := by kernel_rfl
def Zf8 (ds : List D) : Option D := if isT Zjb ds then some Zjc else (if isT Zjd ds then some Zje else (none))
theorem Zun : ∀ ds d,Zf8 ds = some d → DataSem Tg 269 ds d := by
 intro ds d h
 unfold Zf8 at h
 split at h
 ·rename_i ha; obtain rfl := isT_eq ha; cases h; exact Zfp Zs9
 split at h
 ·rename_i ha; obtain rfl := isT_eq ha; cases h; exact Zfp Zsa
 cases h
def Z27 : FnH := ⟨[],[]⟩
def Zd6 : FnH := ⟨[],[]⟩
theorem Za7 : Enters Tg 274 := ⟨Tryz.f274,Tryz.func274,by kernel_rfl,by kernel_rfl⟩
theorem Zd7 : Enters Tg 241 := ⟨Tryz.f241,Tryz.func241,by kernel_rfl,by kernel_rfl⟩
noncomputable def Z5v : Hints := ⟨[],[(274,Tryz.f274,Z27),(241,Tryz.f241,Zd6)],[303,305,306,308,253]⟩
theorem Z5w {m n : Nat} {ds : List D} {d : D} (h : funD Tg Z5v m n Z27 Tryz.f274 ds = some d) : DataSem Tg 274 ds d := Zo (H := Z5v) SpOk.nil mixed (InlOk.cons Tryz.func274 Za7 (InlOk.cons Tryz.func241 Zd7 InlOk.nil)) Tryz.func274 Za7 h
def Zqo : List D := [(D.v (.int .i64 (8 : Int)))]
def Zqp : D := (D.tup [(D.list 1 (some 1) [(D.v (.int .u8 (8 : Int)))]),zI])
def Zqq : List D := [(D.v (.int .i64 (20 : Int)))]
def Zqr : D := (D.tup [(D.list 1 (some 1) [(D.v (.int .u8 (20 : Int)))]),zI])
def Zqs : List D := [(D.v (.int .i64 (1 : Int)))]
def Zqt : D := (D.tup [(D.list 1 (some 1) [(D.v (.int .u8 (1 : Int)))]),zI])
def Zqu : List D := [(D.v (.int .i64 (3 : Int)))]
def Zqv : D := (D.tup [(D.list 1 (some 1) [(D.v (.int .u8 (3 : Int)))]),zI])
def Zqw : List D := [(D.v (.int .i64 (15 : Int)))]
def Zqx : D := (D.tup [(D.list 1 (some 1) [(D.v (.int .u8 (15 : Int)))]),zI])
theorem Z10k : funD Tg Z5v 100000 60 Z27 Tryz.f274 Zqo = some Zqp := by kernel_rfl
theorem Z10l : funD Tg Z5v 100000 60 Z27 Tryz.f274 Zqq = some Zqr := by kernel_rfl
theorem Z10m : funD Tg Z5v 100000 60 Z27 Tryz.f274 Zqs = some Zqt := by kernel_rfl
theorem Z10n : funD Tg Z5v 100000 60 Z27 Tryz.f274 Zqu = some Zqv := by kernel_rfl
theorem Z10o : funD Tg Z5v 100000 60 Z27 Tryz.f274 Zqw = some Zqx := by kernel_rfl
def Zit (ds : List D) : Option D := if isT Zqo ds then some Zqp else (if isT Zqq ds then some Zqr else (if isT Zqs ds then some Zqt else (if isT Zqu ds then some Zqv else (if isT Zqw ds then some Zqx else (none)))))
theorem Zu3 : ∀ ds d,Zit ds = some d → DataSem Tg 274 ds d := by
 intro ds d h
 unfold Zit at h
 split at h
 ·rename_i ha; obtain rfl := isT_eq ha; cases h; exact Z5w Z10k
 split at h
 ·rename_i ha; obtain rfl := isT_eq ha; cases h; exact Z5w Z10l
 split at h
 ·rename_i ha; obtain rfl := isT_eq ha; cases h; exact Z5w Z10m
 split at h
 ·rename_i ha; obtain rfl := isT_eq ha; cases h; exact Z5w Z10n
 split at h
 ·rename_i ha; obtain rfl := isT_eq ha; cases h; exact Z5w Z10o
 cases h
def Z1r : FnH := ⟨[],[]⟩
def Zie : FnH := ⟨[],[]⟩
theorem Z6x : Enters Tg 271 := ⟨Tryz.f271,Tryz.func271,by kernel_rfl,by kernel_rfl⟩
theorem Zif : Enters Tg 286 := ⟨Tryz.f286,Tryz.func286,by kernel_rfl,by kernel_rfl⟩
noncomputable def Z4r : Hints := ⟨[(274,Zit)],[(271,Tryz.f271,Z1r),(286,Tryz.f286,Zie)],[303,305,306,308,253]⟩
theorem Z52 {m n : Nat} {ds : List D} {d : D} (h : funD Tg Z4r m n Z1r Tryz.f271 ds = some d) : DataSem Tg 271 ds d := Zo (H := Z4r) (SpOk.cons Zu3 SpOk.nil) mixed (InlOk.cons Tryz.func271 Z6x (InlOk.cons Tryz.func286 Zif InlOk.nil)) Tryz.func271 Z6x h
def Zn0 : List D := [(D.v (.int .i64 (1 : Int))),(D.v (.int .i64 (8 : Int)))]
def Zn1 : D := (D.v (.int .i64 (10 : Int)))
def Zn2 : List D := [(D.v (.int .i64 (1 : Int))),(D.v (.int .i64 (20 : Int)))]
def Zn3 : D := (D.v (.int .i64 (22 : Int)))
def Zn4 : List D := [(D.v (.int .i64 (1 : Int))),(D.v (.int .i64 (1 : Int)))]
def Zn5 : D := (D.v (.int .i64 (3 : Int)))
def Zn6 : List D := [(D.v (.int .i64 (1 : Int))),(D.v (.int .i64 (3 : Int)))]
def Zn7 : D := (D.v (.int .i64 (5 : Int)))
def Zn8 : List D := [(D.v (.int .i64 (1 : Int))),(D.v (.int .i64 (15 : Int)))]
def Zn9 : D := (D.v (.int .i64 (17 : Int)))
theorem Zw9 : funD Tg Z4r 100000 60 Z1r Tryz.f271 Zn0 = some Zn1 := by kernel_rfl
theorem Zwa : funD Tg Z4r 100000 60 Z1r Tryz.f271 Zn2 = some Zn3 := by kernel_rfl
theorem Zwb : funD Tg Z4r 100000 60 Z1r Tryz.f271 Zn4 = some Zn5 := by kernel_rfl
theorem Zwc : funD Tg Z4r 100000 60 Z1r Tryz.f271 Zn6 = some Zn7 := by kernel_rfl
theorem Zwd : funD Tg Z4r 100000 60 Z1r Tryz.f271 Zn8 = some Zn9 := by kernel_rfl
def Zen (ds : List D) : Option D := if isT Zn0 ds then some Zn1 else (if isT Zn2 ds then some Zn3 else (if isT Zn4 ds then some Zn5 else (if isT Zn6 ds then some Zn7 else (if isT Zn8 ds then some Zn9 else (none)))))
theorem Zqy : ∀ ds d,Zen ds = some d → DataSem Tg 271 ds d := by
 intro ds d h
 unfold Zen at h
 split at h
 ·rename_i ha; obtain rfl := isT_eq ha; cases h; exact Z52 Zw9
 split at h
 ·rename_i ha; obtain rfl := isT_eq ha; cases h; exact Z52 Zwa
 split at h
 ·rename_i ha; obtain rfl := isT_eq ha; cases h; exact Z52 Zwb
 split at h
 ·rename_i ha; obtain rfl := isT_eq ha; cases h; exact Z52 Zwc
 split at h
 ·rename_i ha; obtain rfl := isT_eq ha; cases h; exact Z52 Zwd
 cases h
def Z3x : FnH := ⟨[(11,⟨(bm 76 42),[],none,none⟩)],[]⟩
def Znx : FnH := ⟨[],[]⟩
def Zlk : FnH := ⟨[(1,⟨(bm 11 29),[],none,none⟩),(3,⟨(bm 11 29),[],none,none⟩)],[]⟩
def Zf9 : FnH := ⟨[],[]⟩
theorem Zi7 : Enters Tg 273 := ⟨Tryz.f273,Tryz.func273,by kernel_rfl,by kernel_rfl⟩
theorem Zny : Enters Tg 287 := ⟨Tryz.f287,Tryz.func287,by kernel_rfl,by kernel_rfl⟩
theorem Zll : Enters Tg 295 := ⟨Tryz.f295,Tryz.func295,by kernel_rfl,by kernel_rfl⟩
theorem Zfa : Enters Tg 241 := ⟨Tryz.f241,Tryz.func241,by kernel_rfl,by kernel_rfl⟩
noncomputable def Zfq : Hints := ⟨[(285,Zd5)],[(273,Tryz.f273,Z3x),(287,Tryz.f287,Znx),(295,Tryz.f295,Zlk),(241,Tryz.f241,Zf9)],[303,305,306,308,253]⟩
theorem Zeo {m n : Nat} {ds : List D} {d : D} (h : funD Tg Zfq m n Z3x Tryz.f273 ds = some d) : DataSem Tg 273 ds d := Zo (H := Zfq) (SpOk.cons Zku SpOk.nil) mixed (InlOk.cons Tryz.func273 Zi7 (InlOk.cons Tryz.func287 Zny (InlOk.cons Tryz.func295 Zll (InlOk.cons Tryz.func241 Zfa InlOk.nil)))) Tryz.func273 Zi7 h
def Zwe : List D := [(D.agg [(D.v (.int .u8 (0 : Int))),(D.v (.bool false)),(D.v (.int .u32 (6 : Int)))])]
def Zwf : D := (D.tup [(D.list 1 (some 1) [(D.v (.int .u8 (6 : Int)))]),zI])
def Zwg : List D := [(D.agg [(D.v (.int .u8 (0 : Int))),(D.v (.bool false)),(D.v (.int .u32 (22 : Int)))])]
def Zwh : D := (D.tup [(D.list 1 (some 1) [(D.v (.int .u8 (22 : Int)))]),zI])
def Zwi : List D := [(D.agg [(D.v (.int .u8 (0 : Int))),(D.v (.bool true)),(D.v (.int .u32 (16 : Int)))])]
def Zwj : D := (D.tup [(D.list 1 (some 1) [(D.v (.int .u8 (48 : Int)))]),zI])
def Zwk : List D := [(D.agg [(D.v (.int .u8 (0 : Int))),(D.v (.bool false)),(D.v (.int .u32 (12 : Int)))])]
def Zwl : D := (D.tup [(D.list 1 (some 1) [(D.v (.int .u8 (12 : Int)))]),zI])
theorem Z17n : funD Tg Zfq 100000 60 Z3x Tryz.f273 Zwe = some Zwf := by kernel_rfl
theorem Z17o : funD Tg Zfq 100000 60 Z3x Tryz.f273 Zwg = some Zwh := by kernel_rfl
theorem Z17p : funD Tg Zfq 100000 60 Z3x Tryz.f273 Zwi = some Zwj := by kernel_rfl
theorem Z17q : funD Tg Zfq 100000 60 Z3x Tryz.f273 Zwk = some Zwl := by kernel_rfl
def Zq1 (ds : List D) : Option D := if isT Zwe ds then some Zwf else (if isT Zwg ds then some Zwh else (if isT Zwi ds then some Zwj else (if isT Zwk ds then some Zwl else (none))))
theorem Z13j : ∀ ds d,Zq1 ds = some d → DataSem Tg 273 ds d := by
 intro ds d h
 unfold Zq1 at h
 split at h
 ·rename_i ha; obtain rfl := isT_eq ha; cases h; exact Zeo Z17n
 split at h
 ·rename_i ha; obtain rfl := isT_eq ha; cases h; exact Zeo Z17o
 split at h
 ·rename_i ha; obtain rfl := isT_eq ha; cases h; exact Zeo Z17p
 split at h
 ·rename_i ha; obtain rfl := isT_eq ha; cases h; exact Zeo Z17q
 cases h
def Z3f : FnH := ⟨[],[]⟩
theorem Zfr : Enters Tg 272 := ⟨Tryz.f272,Tryz.func272,by kernel_rfl,by kernel_rfl⟩
noncomputable def Zd8 : Hints := ⟨[(273,Zq1)],[(272,Tryz.f272,Z3f)],[303,305,306,308,253]⟩
theorem Zd9 {m n : Nat} {ds : List D} {d : D} (h : funD Tg Zd8 m n Z3f Tryz.f272 ds = some d) : DataSem Tg 272 ds d := Zo (H := Zd8) (SpOk.cons Z13j SpOk.nil) mixed (InlOk.cons Tryz.func272 Zfr InlOk.nil) Tryz.func272 Zfr h
def Zu4 : List D := [(D.agg [(D.v (.int .u8 (0 : Int))),(D.v (.bool false)),(D.v (.int .u32 (6 : Int)))])]
def Zu5 : D := (D.v (.int .i64 (1 : Int)))
def Zu6 : List D := [(D.agg [(D.v (.int .u8 (0 : Int))),(D.v (.bool false)),(D.v (.int .u32 (22 : Int)))])]
def Zu7 : D := (D.v (.int .i64 (1 : Int)))
def Zu8 : List D := [(D.agg [(D.v (.int .u8 (0 : Int))),(D.v (.bool true)),(D.v (.int .u32 (16 : Int)))])]
def Zu9 : D := (D.v (.int .i64 (1 : Int)))
def Zua : List D := [(D.agg [(D.v (.int .u8 (0 : Int))),(D.v (.bool false)),(D.v (.int .u32 (12 : Int)))])]
def Zub : D := (D.v (.int .i64 (1 : Int)))
theorem Z150 : funD Tg Zd8 100000 60 Z3f Tryz.f272 Zu4 = some Zu5 := by kernel_rfl
theorem Z151 : funD Tg Zd8 100000 60 Z3f Tryz.f272 Zu6 = some Zu7 := by kernel_rfl
theorem Z152 : funD Tg Zd8 100000 60 Z3f Tryz.f272 Zu8 = some Zu9 := by kernel_rfl
theorem Z153 : funD Tg Zd8 100000 60 Z3f Tryz.f272 Zua = some Zub := by kernel_rfl
def Zna (ds : List D) : Option D := if isT Zu4 ds then some Zu5 else (if isT Zu6 ds then some Zu7 else (if isT Zu8 ds then some Zu9 else (if isT Zua ds then some Zub else (none))))
theorem Z10e : ∀ ds d,Zna ds = some d → DataSem Tg 272 ds d := by
 intro ds d h
 unfold Zna at h
 split at h
 ·rename_i ha; obtain rfl := isT_eq ha; cases h; exact Zd9 Z150
 split at h
 ·rename_i ha; obtain rfl := isT_eq ha; cases h; exact Zd9 Z151
 split at h
 ·rename_i ha; obtain rfl := isT_eq ha; cases h; exact Zd9 Z152
 split at h
 ·rename_i ha; obtain rfl := isT_eq ha; cases h; exact Zd9 Z153
 cases h
def Zt : FnH := ⟨[(5,⟨(bm 114696 27),[(14,5)],none,none⟩)],[]⟩
def Zfb : FnH := ⟨[],[]⟩
theorem Z5b : Enters Tg 270 := ⟨Tryz.f270,Tryz.func270,by kernel_rfl,by kernel_rfl⟩
theorem Zfc : Enters Tg 252 := ⟨Tryz.f252,Tryz.func252,by kernel_rfl,by kernel_rfl⟩
noncomputable def Z2r : Hints := ⟨[(271,Zen),(272,Zna)],[(270,Tryz.f270,Zt),(252,Tryz.f252,Zfb)],[303,305,306,308,253]⟩
theorem Z2t {m n : Nat} {ds : List D} {d : D} (h : funD Tg Z2r m n Zt Tryz.f270 ds = some d) : DataSem Tg 270 ds d := Zo (H := Z2r) (SpOk.cons Zqy (SpOk.cons Z10e SpOk.nil)) mixed (InlOk.cons Tryz.func270 Z5b (InlOk.cons Tryz.func252 Zfc InlOk.nil)) Tryz.func270 Z5b h
def Zjf : List D := [(D.agg [(D.v (.int .u8 (0 : Int))),(D.v (.bool true)),(D.v (.int .u32 (16 : Int))),(D.list 0 (some 0) []),(D.list 2 (some 2) [(D.v (.int .u8 (0 : Int))),(D.v (.bool false)),(D.v (.int .u32 (6 : Int))),(D.list 8 (some 8) [(D.v (.int .u8 (43 : Int))),(D.v (.int .u8 (6 : Int))),(D.v (.int .u8 (1 : Int))),(D.v (.int .u8 (5 : Int))),(D.v (.int .u8 (5 : Int))),(D.v (.int .u8 (7 : Int))),(D.v (.int .u8 (2 : Int))),(D.v (.int .u8 (1 : Int)))]),(D.list 0 (some 0) []),(D.v (.int .u8 (0 : Int))),(D.v (.bool false)),(D.v (.int .u32 (22 : Int))),(D.list 8 (some 8) [(D.v (.int .u8 (104 : Int))),(D.v (.int .u8 (116 : Int))),(D.v (.int .u8 (116 : Int))),(D.v (.int .u8 (112 : Int))),(D.v (.int .u8 (58 : Int))),(D.v (.int .u8 (47 : Int))),(D.v (.int .u8 (47 : Int))),(D.v (.int .u8 (97 : Int)))]),(D.list 0 (some 0) [])])])]
def Zjg : D := (D.v (.int .i64 (20 : Int)))
def Zjh : List D := [(D.agg [(D.v (.int .u8 (0 : Int))),(D.v (.bool false)),(D.v (.int .u32 (6 : Int))),(D.list 8 (some 8) [(D.v (.int .u8 (43 : Int))),(D.v (.int .u8 (6 : Int))),(D.v (.int .u8 (1 : Int))),(D.v (.int .u8 (5 : Int))),(D.v (.int .u8 (5 : Int))),(D.v (.int .u8 (7 : Int))),(D.v (.int .u8 (2 : Int))),(D.v (.int .u8 (1 : Int)))]),(D.list 0 (some 0) [])])]
def Zji : D := (D.v (.int .i64 (8 : Int)))
def Zjj : List D := [(D.agg [(D.v (.int .u8 (0 : Int))),(D.v (.bool false)),(D.v (.int .u32 (22 : Int))),(D.list 8 (some 8) [(D.v (.int .u8 (104 : Int))),(D.v (.int .u8 (116 : Int))),(D.v (.int .u8 (116 : Int))),(D.v (.int .u8 (112 : Int))),(D.v (.int .u8 (58 : Int))),(D.v (.int .u8 (47 : Int))),(D.v (.int .u8 (47 : Int))),(D.v (.int .u8 (97 : Int)))]),(D.list 0 (some 0) [])])]
def Zjk : D := (D.v (.int .i64 (8 : Int)))
def Zjl : List D := [(D.agg [(D.v (.int .u8 (0 : Int))),(D.v (.bool true)),(D.v (.int .u32 (16 : Int))),(D.list 0 (some 0) []),(D.list 2 (some 2) [(D.v (.int .u8 (0 : Int))),(D.v (.bool false)),(D.v (.int .u32 (6 : Int))),(D.list 8 (some 8) [(D.v (.int .u8 (43 : Int))),(D.v (.int .u8 (6 : Int))),(D.v (.int .u8 (1 : Int))),(D.v (.int .u8 (5 : Int))),(D.v (.int .u8 (5 : Int))),(D.v (.int .u8 (7 : Int))),(D.v (.int .u8 (2 : Int))),(D.v (.int .u8 (2 : Int)))]),(D.list 0 (some 0) []),(D.v (.int .u8 (0 : Int))),(D.v (.bool true)),(D.v (.int .u32 (16 : Int))),(D.list 0 (some 0) []),(D.list 1 (some 1) [(D.v (.int .u8 (0 : Int))),(D.v (.bool false)),(D.v (.int .u32 (12 : Int))),(D.list 1 (some 1) [(D.v (.int .u8 (98 : Int)))]),(D.list 0 (some 0) [])])])])]
def Zjm : D := (D.v (.int .i64 (15 : Int)))
def Zjn : List D := [(D.agg [(D.v (.int .u8 (0 : Int))),(D.v (.bool false)),(D.v (.int .u32 (6 : Int))),(D.list 8 (some 8) [(D.v (.int .u8 (43 : Int))),(D.v (.int .u8 (6 : Int))),(D.v (.int .u8 (1 : Int))),(D.v (.int .u8 (5 : Int))),(D.v (.int .u8 (5 : Int))),(D.v (.int .u8 (7 : Int))),(D.v (.int .u8 (2 : Int))),(D.v (.int .u8 (2 : Int)))]),(D.list 0 (some 0) [])])]
def Zjo : D := (D.v (.int .i64 (8 : Int)))
def Zjp : List D := [(D.agg [(D.v (.int .u8 (0 : Int))),(D.v (.bool true)),(D.v (.int .u32 (16 : Int))),(D.list 0 (some 0) []),(D.list 1 (some 1) [(D.v (.int .u8 (0 : Int))),(D.v (.bool false)),(D.v (.int .u32 (12 : Int))),(D.list 1 (some 1) [(D.v (.int .u8 (98 : Int)))]),(D.list 0 (some 0) [])])])]
def Zjq : D := (D.v (.int .i64 (3 : Int)))
def Zjr : List D := [(D.agg [(D.v (.int .u8 (0 : Int))),(D.v (.bool false)),(D.v (.int .u32 (12 : Int))),(D.list 1 (some 1) [(D.v (.int .u8 (98 : Int)))]),(D.list 0 (some 0) [])])]
def Zjs : D := (D.v (.int .i64 (1 : Int)))
theorem Zsb : funD Tg Z2r 100000 60 Zt Tryz.f270 Zjf = some Zjg := by kernel_rfl
theorem Zsc : funD Tg Z2r 100000 60 Zt Tryz.f270 Zjh = some Zji := by kernel_rfl
theorem Zsd : funD Tg Z2r 100000 60 Zt Tryz.f270 Zjj = some Zjk := by kernel_rfl
theorem Zse : funD Tg Z2r 100000 60 Zt Tryz.f270 Zjl = some Zjm := by kernel_rfl
theorem Zsf : funD Tg Z2r 100000 60 Zt Tryz.f270 Zjn = some Zjo := by kernel_rfl
theorem Zsg : funD Tg Z2r 100000 60 Zt Tryz.f270 Zjp = some Zjq := by kernel_rfl
theorem Zsh : funD Tg Z2r 100000 60 Zt Tryz.f270 Zjr = some Zjs := by kernel_rfl
def Zfd (ds : List D) : Option D := if isT Zjf ds then some Zjg else (if isT Zjh ds then some Zji else (if isT Zjj ds then some Zjk else (if isT Zjl ds then some Zjm else (if isT Zjn ds then some Zjo else (if isT Zjp ds then some Zjq else (if isT Zjr ds then some Zjs else (none)))))))
theorem Zuo : ∀ ds d,Zfd ds = some d → DataSem Tg 270 ds d := by
 intro ds d h
 unfold Zfd at h
 split at h
 ·rename_i ha; obtain rfl := isT_eq ha; cases h; exact Z2t Zsb
 split at h
 ·rename_i ha; obtain rfl := isT_eq ha; cases h; exact Z2t Zsc
 split at h
 ·rename_i ha; obtain rfl := isT_eq ha; cases h; exact Z2t Zsd
 split at h
 ·rename_i ha; obtain rfl := isT_eq ha; cases h; exact Z2t Zse
 split at h
 ·rename_i ha; obtain rfl := isT_eq ha; cases h; exact Z2t Zsf
 split at h
 ·rename_i ha; obtain rfl := isT_eq ha; cases h; exact Z2t Zsg
 split at h
 ·rename_i ha; obtain rfl := isT_eq ha; cases h; exact Z2t Zsh
 cases h
def Z2n : FnH := ⟨[],[]⟩
def Zeb : FnH := ⟨[],[]⟩
def Zbd : FnH := ⟨[],[]⟩
def Zbe : FnH := ⟨[(4,⟨(bm 14336 24),[(11,1)],none,none⟩)],[]⟩
def Zbf : FnH := ⟨[],[]⟩
def Z8t : FnH := ⟨[],[]⟩
def Zbg : FnH := ⟨[],[]⟩
def Zc6 : FnH := ⟨[],[]⟩
def Z9a : FnH := ⟨[],[]⟩
def Z5x : FnH := ⟨[],[]⟩
def Z6c : FnH := ⟨[(2,⟨(bm 387 19),[],none,none⟩)],[]⟩
def Z8c : FnH := ⟨[(8,⟨(bm 3758096566 83),[(29,1)],none,none⟩)],[]⟩
def Zec : FnH := ⟨[(3,⟨(bm 73 25),[],none,none⟩),(8,⟨(bm 32 25),[(5,1)],none,none⟩)],[]⟩
def Za1 : FnH := ⟨[],[]⟩
def Z53 : FnH := ⟨[],[]⟩
def Zbh : FnH := ⟨[],[]⟩
def Zbi : FnH := ⟨[],[]⟩
def Zhs : FnH := ⟨[(6,⟨(bm 1924145348608 47),[(38,1)],none,none⟩)],[]⟩
def Zfx : FnH := ⟨[],[]⟩
def Zfe : FnH := ⟨[],[]⟩
def Ze2 : FnH := ⟨[],[]⟩
def Z7m : FnH := ⟨[(25,⟨(bm 16655 151),[],none,none⟩)],[]⟩
def Zjt : FnH := ⟨[],[]⟩
def Zgo : FnH := ⟨[(3,⟨(bm 13 43),[],none,none⟩)],[]⟩
def Zgp : FnH := ⟨[],[]⟩
def Zgq : FnH := ⟨[],[]⟩
def Zbj : FnH := ⟨[],[]⟩
def Ze3 : FnH := ⟨[],[]⟩
def Zfy : FnH := ⟨[],[]⟩
def Zed : FnH := ⟨[],[]⟩
def Zff : FnH := ⟨[],[]⟩
def Zfz : FnH := ⟨[(6,⟨(bm 60129542145 44),[(0,1),(33,5)],none,none⟩)],[]⟩
theorem Z5c : Enters Tg 160 := ⟨Tryz.f160,Tryz.func160,by kernel_rfl,by kernel_rfl⟩
theorem Zee : Enters Tg 188 := ⟨Tryz.f188,Tryz.func188,by kernel_rfl,by kernel_rfl⟩
theorem Zbk : Enters Tg 238 := ⟨Tryz.f238,Tryz.func238,by kernel_rfl,by kernel_rfl⟩
theorem Zbl : Enters Tg 239 := ⟨Tryz.f239,Tryz.func239,by kernel_rfl,by kernel_rfl⟩
theorem Zbm : Enters Tg 240 := ⟨Tryz.f240,Tryz.func240,by kernel_rfl,by kernel_rfl⟩
theorem Z8u : Enters Tg 241 := ⟨Tryz.f241,Tryz.func241,by kernel_rfl,by kernel_rfl⟩
theorem Zbn : Enters Tg 242 := ⟨Tryz.f242,Tryz.func242,by kernel_rfl,by kernel_rfl⟩
theorem Zc7 : Enters Tg 243 := ⟨Tryz.f243,Tryz.func243,by kernel_rfl,by kernel_rfl⟩
theorem Z9b : Enters Tg 263 := ⟨Tryz.f263,Tryz.func263,by kernel_rfl,by kernel_rfl⟩
theorem Z5y : Enters Tg 276 := ⟨Tryz.f276,Tryz.func276,by kernel_rfl,by kernel_rfl⟩
theorem Z6d : Enters Tg 288 := ⟨Tryz.f288,Tryz.func288,by kernel_rfl,by kernel_rfl⟩
theorem Z8d : Enters Tg 244 := ⟨Tryz.f244,Tryz.func244,by kernel_rfl,by kernel_rfl⟩
theorem Zef : Enters Tg 265 := ⟨Tryz.f265,Tryz.func265,by kernel_rfl,by kernel_rfl⟩
theorem Za2 : Enters Tg 280 := ⟨Tryz.f280,Tryz.func280,by kernel_rfl,by kernel_rfl⟩
theorem Z54 : Enters Tg 266 := ⟨Tryz.f266,Tryz.func266,by kernel_rfl,by kernel_rfl⟩
theorem Zbo : Enters Tg 245 := ⟨Tryz.f245,Tryz.func245,by kernel_rfl,by kernel_rfl⟩
theorem Zbp : Enters Tg 246 := ⟨Tryz.f246,Tryz.func246,by kernel_rfl,by kernel_rfl⟩
theorem Zht : Enters Tg 117 := ⟨Tryz.f117,Tryz.func117,by kernel_rfl,by kernel_rfl⟩
theorem Zg0 : Enters Tg 247 := ⟨Tryz.f247,Tryz.func247,by kernel_rfl,by kernel_rfl⟩
theorem Zfg : Enters Tg 267 := ⟨Tryz.f267,Tryz.func267,by kernel_rfl,by kernel_rfl⟩
theorem Ze4 : Enters Tg 281 := ⟨Tryz.f281,Tryz.func281,by kernel_rfl,by kernel_rfl⟩
theorem Z7n : Enters Tg 282 := ⟨Tryz.f282,Tryz.func282,by kernel_rfl,by kernel_rfl⟩
theorem Zju : Enters Tg 291 := ⟨Tryz.f291,Tryz.func291,by kernel_rfl,by kernel_rfl⟩
theorem Zgr : Enters Tg 298 := ⟨Tryz.f298,Tryz.func298,by kernel_rfl,by kernel_rfl⟩
theorem Zgs : Enters Tg 292 := ⟨Tryz.f292,Tryz.func292,by kernel_rfl,by kernel_rfl⟩
theorem Zgt : Enters Tg 293 := ⟨Tryz.f293,Tryz.func293,by kernel_rfl,by kernel_rfl⟩
theorem Zbq : Enters Tg 248 := ⟨Tryz.f248,Tryz.func248,by kernel_rfl,by kernel_rfl⟩
theorem Ze5 : Enters Tg 214 := ⟨Tryz.f214,Tryz.func214,by kernel_rfl,by kernel_rfl⟩
theorem Zg1 : Enters Tg 217 := ⟨Tryz.f217,Tryz.func217,by kernel_rfl,by kernel_rfl⟩
theorem Zeg : Enters Tg 251 := ⟨Tryz.f251,Tryz.func251,by kernel_rfl,by kernel_rfl⟩
theorem Zfh : Enters Tg 252 := ⟨Tryz.f252,Tryz.func252,by kernel_rfl,by kernel_rfl⟩
theorem Zg2 : Enters Tg 253 := ⟨Tryz.f253,Tryz.func253,by kernel_rfl,by kernel_rfl⟩
noncomputable def Z7d : Hints := ⟨[(213,Zf3),(215,Zem),(216,Zum),(264,Z61),(269,Zf8),(270,Zfd),(271,Zen),(272,Zna),(273,Zq1),(274,Zit),(277,Z5j),(278,Z69),(285,Zd5)],[(160,Tryz.f160,Z2n),(188,Tryz.f188,Zeb),(238,Tryz.f238,Zbd),(239,Tryz.f239,Zbe),(240,Tryz.f240,Zbf),(241,Tryz.f241,Z8t),(242,Tryz.f242,Zbg),(243,Tryz.f243,Zc6),(263,Tryz.f263,Z9a),(276,Tryz.f276,Z5x),(288,Tryz.f288,Z6c),(244,Tryz.f244,Z8c),(265,Tryz.f265,Zec),(280,Tryz.f280,Za1),(266,Tryz.f266,Z53),(245,Tryz.f245,Zbh),(246,Tryz.f246,Zbi),(117,Tryz.f117,Zhs),(247,Tryz.f247,Zfx),(267,Tryz.f267,Zfe),(281,Tryz.f281,Ze2),(282,Tryz.f282,Z7m),(291,Tryz.f291,Zjt),(298,Tryz.f298,Zgo),(292,Tryz.f292,Zgp),(293,Tryz.f293,Zgq),(248,Tryz.f248,Zbj),(214,Tryz.f214,Ze3),(217,Tryz.f217,Zfy),(251,Tryz.f251,Zed),(252,Tryz.f252,Zff),(253,Tryz.f253,Zfz)],[303,305,306,308,253]⟩
theorem Zfs {m n : Nat} {ds : List D} {d : D} (h : funD Tg Z7d m n Z2n Tryz.f160 ds = some d) : DataSem Tg 160 ds d := Zo (H := Z7d) (SpOk.cons Zul (SpOk.cons Zqm (SpOk.cons Z1cb (SpOk.cons Zi3 (SpOk.cons Zun (SpOk.cons Zuo (SpOk.cons Zqy (SpOk.cons Z10e (SpOk.cons Z13j (SpOk.cons Zu3 (SpOk.cons Zdw (SpOk.cons Zj6 (SpOk.cons Zku SpOk.nil))))))))))))) mixed (InlOk.cons Tryz.func160 Z5c (InlOk.cons Tryz.func188 Zee (InlOk.cons Tryz.func238 Zbk (InlOk.cons Tryz.func239 Zbl (InlOk.cons Tryz.func240 Zbm (InlOk.cons Tryz.func241 Z8u (InlOk.cons Tryz.func242 Zbn (InlOk.cons Tryz.func243 Zc7 (InlOk.cons Tryz.func263 Z9b (InlOk.cons Tryz.func276 Z5y (InlOk.cons Tryz.func288 Z6d (InlOk.cons Tryz.func244 Z8d (InlOk.cons Tryz.func265 Zef (InlOk.cons Tryz.func280 Za2 (InlOk.cons Tryz.func266 Z54 (InlOk.cons Tryz.func245 Zbo (InlOk.cons Tryz.func246 Zbp (InlOk.cons Tryz.func117 Zht (InlOk.cons Tryz.func247 Zg0 (InlOk.cons Tryz.func267 Zfg (InlOk.cons Tryz.func281 Ze4 (InlOk.cons Tryz.func282 Z7n (InlOk.cons Tryz.func291 Zju (InlOk.cons Tryz.func298 Zgr (InlOk.cons Tryz.func292 Zgs (InlOk.cons Tryz.func293 Zgt (InlOk.cons Tryz.func248 Zbq (InlOk.cons Tryz.func214 Ze5 (InlOk.cons Tryz.func217 Zg1 (InlOk.cons Tryz.func251 Zeg (InlOk.cons Tryz.func252 Zfh (InlOk.cons Tryz.func253 Zg2 InlOk.nil)))))))))))))))))))))))))))))))) Tryz.func160 Z5c h
def Zjv : List D := [(D.agg [(D.v (.int .u8 (1 : Int))),(D.v (.string (ByteArray.mk #[104,116,116,112,58,47,47,97]))),(D.v (.bool false)),zU,(D.v (.string (ByteArray.mk #[]))),(D.list 0 (some 0) []),(D.v (.bool false)),zU,(D.v (.string (ByteArray.mk #[]))),(D.v (.int .u8 (0 : Int))),zU,zU,zU,zU,zU,zU,zU,zU,zU,zU,zU,zU,zU,zU,zU,zU,(D.list 0 (some 0) [])])]
def Zjw : D := zI
def Zjx : List D := [(D.agg [(D.v (.int .u8 (2 : Int))),(D.v (.string (ByteArray.mk #[]))),(D.v (.bool false)),zU,(D.v (.string (ByteArray.mk #[]))),(D.list 0 (some 0) []),(D.v (.bool true)),(D.v (.int .u32 (12 : Int))),(D.v (.string (ByteArray.mk #[98]))),(D.v (.int .u8 (0 : Int))),zU,zU,zU,zU,zU,zU,zU,zU,zU,zU,zU,zU,zU,zU,zU,zU,(D.list 0 (some 0) [])])]
def Zjy : D := zI
theorem Zsi : funD Tg Z7d 100000 60 Z2n Tryz.f160 Zjv = some Zjw := by kernel_rfl
theorem Zsj : funD Tg Z7d 100000 60 Z2n Tryz.f160 Zjx = some Zjy := by kernel_rfl
def Z42 (ds : List D) : Option D := if isT Zjv ds then some Zjw else (if isT Zjx ds then some Zjy else (none))
theorem Zup : ∀ ds d,Z42 ds = some d → DataSem Tg 160 ds d := by
 intro ds d h
 unfold Z42 at h
 split at h
 ·rename_i ha; obtain rfl := isT_eq ha; cases h; exact Zfs Zsi
 split at h
 ·rename_i ha; obtain rfl := isT_eq ha; cases h; exact Zfs Zsj
 cases h
end Go.Ev