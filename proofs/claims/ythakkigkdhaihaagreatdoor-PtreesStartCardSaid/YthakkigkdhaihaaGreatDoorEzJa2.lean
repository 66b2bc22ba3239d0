/- The examples of the chapter on the state machine of the tree,evaluated: each call at the arguments that come up. No conditions. -/
import Derived.Test.YthakkigkdhaihaaGreatDoorEzJa1
set_option linter.unusedVariables false
set_option maxRecDepth 1000000
set_option maxHeartbeats 4000000
namespace Go.Ev
open Go Go.Proofs
def Zz : FnH := ⟨[(10,⟨(bm 234881024 37),[(25,27)],none,none⟩)],[]⟩
def Zrr : FnH := ⟨[(6,⟨(bm 1924145348608 47),[(38,1)],none,none⟩)],[]⟩
def Zoi : FnH := ⟨[(4,⟨(bm 7169 38),[(10,17)],none,none⟩)],[]⟩
def Zjm : FnH := ⟨[],[]⟩
def Zna : FnH := ⟨[],[]⟩
def Zjn : FnH := ⟨[],[]⟩
def Zgc : FnH := ⟨[],[]⟩
def Zgd : FnH := ⟨[(4,⟨(bm 14336 24),[(11,1)],none,none⟩)],[]⟩
def Zge : FnH := ⟨[],[]⟩
def Zc9 : FnH := ⟨[],[]⟩
def Zgf : FnH := ⟨[],[]⟩
def Zia : FnH := ⟨[],[]⟩
def Zdv : FnH := ⟨[],[]⟩
def Z6s : FnH := ⟨[],[]⟩
def Z7z : FnH := ⟨[(2,⟨(bm 387 19),[],none,none⟩)],[]⟩
def Zib : FnH := ⟨[],[]⟩
def Zic : FnH := ⟨[],[]⟩
def Zjo : FnH := ⟨[],[]⟩
def Zid : FnH := ⟨[],[]⟩
def Zez : FnH := ⟨[],[]⟩
def Zca : FnH := ⟨[],[]⟩
def Zkz : FnH := ⟨[],[]⟩
def Zac : FnH := ⟨[],[]⟩
def Zcb : FnH := ⟨[],[]⟩
def Zdw : FnH := ⟨[],[]⟩
def Zie : FnH := ⟨[(38,⟨(bm 47890485652059026823698344598447161988085597568237568 187),[],none,none⟩),(5,⟨(bm 1923 187),[],none,none⟩),(12,⟨(bm 6019 187),[],none,none⟩),(25,⟨(bm 50049 187),[],none,none⟩),(29,⟨(bm 115585 187),[],none,none⟩)],[]⟩
def Zif : FnH := ⟨[],[]⟩
def Zcc : FnH := ⟨[],[]⟩
def Znb : FnH := ⟨[],[]⟩
def Zl0 : FnH := ⟨[],[]⟩
def Zl1 : FnH := ⟨[],[]⟩
def Zl2 : FnH := ⟨[],[]⟩
def Zgg : FnH := ⟨[],[]⟩
def Z34 : FnH := ⟨[(2,⟨(bm 387 19),[],none,none⟩)],[]⟩
def Zdx : FnH := ⟨[(4,⟨(bm 2052 20),[],none,none⟩)],[]⟩
def Zjp : FnH := ⟨[(1,⟨(bm 1 169),[],none,none⟩),(9,⟨(bm 1 169),[],none,none⟩)],[]⟩
def Zjq : FnH := ⟨[],[]⟩
def Zgh : FnH := ⟨[],[]⟩
def Zb0 : FnH := ⟨[(2,⟨(bm 20 10),[],none,none⟩)],[]⟩
def Zb1 : FnH := ⟨[(8,⟨(bm 3758096566 83),[(29,1)],none,none⟩)],[]⟩
def Zf0 : FnH := ⟨[],[]⟩
def Zl3 : FnH := ⟨[(6,⟨(bm 524368 30),[(6,1)],none,none⟩)],[]⟩
def Znc : FnH := ⟨[(3,⟨(bm 73 25),[],none,none⟩),(8,⟨(bm 32 25),[(5,1)],none,none⟩)],[]⟩
def Zf1 : FnH := ⟨[],[]⟩
def Z5h : FnH := ⟨[],[]⟩
def Zgi : FnH := ⟨[],[]⟩
def Zgj : FnH := ⟨[],[]⟩
def Zoj : FnH := ⟨[],[]⟩
def Zpl : FnH := ⟨[],[]⟩
def Zok : FnH := ⟨[],[]⟩
def Zl4 : FnH := ⟨[],[]⟩
def Zad : FnH := ⟨[(25,⟨(bm 16655 151),[],none,none⟩)],[]⟩
def Zun : FnH := ⟨[],[]⟩
def Zqo : FnH := ⟨[(3,⟨(bm 13 43),[],none,none⟩)],[]⟩
def Zrs : FnH := ⟨[],[]⟩
def Zqp : FnH := ⟨[],[]⟩
def Zqq : FnH := ⟨[],[]⟩
def Zgk : FnH := ⟨[],[]⟩
def Zl5 : FnH := ⟨[],[]⟩
def Zuo : FnH := ⟨[(8,⟨(bm 939524140 43),[(2,1),(27,1)],none,none⟩),(11,⟨(bm 939524140 43),[],none,none⟩)],[]⟩
def Zsm : FnH := ⟨[],[]⟩
def Z80 : FnH := ⟨[],[]⟩
def Zqr : FnH := ⟨[],[]⟩
def Zol : FnH := ⟨[(1,⟨(bm 11 31),[],none,none⟩),(3,⟨(bm 11 31),[],none,none⟩)],[]⟩
def Zpm : FnH := ⟨[],[]⟩
def Znd : FnH := ⟨[],[]⟩
def Zjr : FnH := ⟨[],[]⟩
def Zgl : FnH := ⟨[],[]⟩
def Zom : FnH := ⟨[],[]⟩
def Zl6 : FnH := ⟨[(5,⟨(bm 3670026 34),[(19,5)],none,none⟩)],[]⟩
def Zon : FnH := ⟨[],[]⟩
def Zjs : FnH := ⟨[(5,⟨(bm 114696 27),[(14,5)],none,none⟩)],[]⟩
def Zsn : FnH := ⟨[],[]⟩
def Zup : FnH := ⟨[(11,⟨(bm 76 42),[],none,none⟩)],[]⟩
def Zqs : FnH := ⟨[],[]⟩
def Zoo : FnH := ⟨[(1,⟨(bm 11 29),[],none,none⟩),(3,⟨(bm 11 29),[],none,none⟩)],[]⟩
def Zop : FnH := ⟨[],[]⟩
def Zpn : FnH := ⟨[],[]⟩
def Zqt : FnH := ⟨[],[]⟩
def Zpo : FnH := ⟨[(6,⟨(bm 60129542145 44),[(0,1),(33,5)],none,none⟩)],[]⟩
theorem Z9u : Enters Tg 212 := ⟨Tryz.f212,Tryz.func212,by kernel_rfl,by kernel_rfl⟩
theorem Zrt : Enters Tg 117 := ⟨Tryz.f117,Tryz.func117,by kernel_rfl,by kernel_rfl⟩
theorem Zoq : Enters Tg 153 := ⟨Tryz.f153,Tryz.func153,by kernel_rfl,by kernel_rfl⟩
theorem Zjt : Enters Tg 160 := ⟨Tryz.f160,Tryz.func160,by kernel_rfl,by kernel_rfl⟩
theorem Zne : Enters Tg 188 := ⟨Tryz.f188,Tryz.func188,by kernel_rfl,by kernel_rfl⟩
theorem Zju : Enters Tg 213 := ⟨Tryz.f213,Tryz.func213,by kernel_rfl,by kernel_rfl⟩
theorem Zgm : Enters Tg 238 := ⟨Tryz.f238,Tryz.func238,by kernel_rfl,by kernel_rfl⟩
theorem Zgn : Enters Tg 239 := ⟨Tryz.f239,Tryz.func239,by kernel_rfl,by kernel_rfl⟩
theorem Zgo : Enters Tg 240 := ⟨Tryz.f240,Tryz.func240,by kernel_rfl,by kernel_rfl⟩
theorem Zcd : Enters Tg 241 := ⟨Tryz.f241,Tryz.func241,by kernel_rfl,by kernel_rfl⟩
theorem Zgp : Enters Tg 242 := ⟨Tryz.f242,Tryz.func242,by kernel_rfl,by kernel_rfl⟩
theorem Zig : Enters Tg 243 := ⟨Tryz.f243,Tryz.func243,by kernel_rfl,by kernel_rfl⟩
theorem Zdy : Enters Tg 263 := ⟨Tryz.f263,Tryz.func263,by kernel_rfl,by kernel_rfl⟩
theorem Z6t : Enters Tg 276 := ⟨Tryz.f276,Tryz.func276,by kernel_rfl,by kernel_rfl⟩
theorem Z81 : Enters Tg 288 := ⟨Tryz.f288,Tryz.func288,by kernel_rfl,by kernel_rfl⟩
theorem Zih : Enters Tg 277 := ⟨Tryz.f277,Tryz.func277,by kernel_rfl,by kernel_rfl⟩
theorem Zii : Enters Tg 289 := ⟨Tryz.f289,Tryz.func289,by kernel_rfl,by kernel_rfl⟩
theorem Zjv : Enters Tg 296 := ⟨Tryz.f296,Tryz.func296,by kernel_rfl,by kernel_rfl⟩
theorem Zij : Enters Tg 299 := ⟨Tryz.f299,Tryz.func299,by kernel_rfl,by kernel_rfl⟩
theorem Zf2 : Enters Tg 302 := ⟨Tryz.f302,Tryz.func302,by kernel_rfl,by kernel_rfl⟩
theorem Zce : Enters Tg 307 := ⟨Tryz.f307,Tryz.func307,by kernel_rfl,by kernel_rfl⟩
theorem Zl7 : Enters Tg 303 := ⟨Tryz.f303,Tryz.func303,by kernel_rfl,by kernel_rfl⟩
theorem Zae : Enters Tg 308 := ⟨Tryz.f308,Tryz.func308,by kernel_rfl,by kernel_rfl⟩
theorem Zcf : Enters Tg 304 := ⟨Tryz.f304,Tryz.func304,by kernel_rfl,by kernel_rfl⟩
theorem Zdz : Enters Tg 309 := ⟨Tryz.f309,Tryz.func309,by kernel_rfl,by kernel_rfl⟩
theorem Zik : Enters Tg 310 := ⟨Tryz.f310,Tryz.func310,by kernel_rfl,by kernel_rfl⟩
theorem Zil : Enters Tg 311 := ⟨Tryz.f311,Tryz.func311,by kernel_rfl,by kernel_rfl⟩
theorem Zcg : Enters Tg 315 := ⟨Tryz.f315,Tryz.func315,by kernel_rfl,by kernel_rfl⟩
theorem Znf : Enters Tg 312 := ⟨Tryz.f312,Tryz.func312,by kernel_rfl,by kernel_rfl⟩
theorem Zl8 : Enters Tg 313 := ⟨Tryz.f313,Tryz.func313,by kernel_rfl,by kernel_rfl⟩
theorem Zl9 : Enters Tg 305 := ⟨Tryz.f305,Tryz.func305,by kernel_rfl,by kernel_rfl⟩
theorem Zla : Enters Tg 306 := ⟨Tryz.f306,Tryz.func306,by kernel_rfl,by kernel_rfl⟩
theorem Zgq : Enters Tg 301 := ⟨Tryz.f301,Tryz.func301,by kernel_rfl,by kernel_rfl⟩
theorem Z35 : Enters Tg 300 := ⟨Tryz.f300,Tryz.func300,by kernel_rfl,by kernel_rfl⟩
theorem Ze0 : Enters Tg 297 := ⟨Tryz.f297,Tryz.func297,by kernel_rfl,by kernel_rfl⟩
theorem Zjw : Enters Tg 228 := ⟨Tryz.f228,Tryz.func228,by kernel_rfl,by kernel_rfl⟩
theorem Zjx : Enters Tg 259 := ⟨Tryz.f259,Tryz.func259,by kernel_rfl,by kernel_rfl⟩
theorem Zgr : Enters Tg 278 := ⟨Tryz.f278,Tryz.func278,by kernel_rfl,by kernel_rfl⟩
theorem Zb2 : Enters Tg 290 := ⟨Tryz.f290,Tryz.func290,by kernel_rfl,by kernel_rfl⟩
theorem Zb3 : Enters Tg 244 := ⟨Tryz.f244,Tryz.func244,by kernel_rfl,by kernel_rfl⟩
theorem Zf3 : Enters Tg 264 := ⟨Tryz.f264,Tryz.func264,by kernel_rfl,by kernel_rfl⟩
theorem Zlb : Enters Tg 279 := ⟨Tryz.f279,Tryz.func279,by kernel_rfl,by kernel_rfl⟩
theorem Zng : Enters Tg 265 := ⟨Tryz.f265,Tryz.func265,by kernel_rfl,by kernel_rfl⟩
theorem Zf4 : Enters Tg 280 := ⟨Tryz.f280,Tryz.func280,by kernel_rfl,by kernel_rfl⟩
theorem Z5i : Enters Tg 266 := ⟨Tryz.f266,Tryz.func266,by kernel_rfl,by kernel_rfl⟩
theorem Zgs : Enters Tg 245 := ⟨Tryz.f245,Tryz.func245,by kernel_rfl,by kernel_rfl⟩
theorem Zgt : Enters Tg 246 := ⟨Tryz.f246,Tryz.func246,by kernel_rfl,by kernel_rfl⟩
theorem Zor : Enters Tg 215 := ⟨Tryz.f215,Tryz.func215,by kernel_rfl,by kernel_rfl⟩
theorem Zpp : Enters Tg 247 := ⟨Tryz.f247,Tryz.func247,by kernel_rfl,by kernel_rfl⟩
theorem Zos : Enters Tg 267 := ⟨Tryz.f267,Tryz.func267,by kernel_rfl,by kernel_rfl⟩
theorem Zlc : Enters Tg 281 := ⟨Tryz.f281,Tryz.func281,by kernel_rfl,by kernel_rfl⟩
theorem Zaf : Enters Tg 282 := ⟨Tryz.f282,Tryz.func282,by kernel_rfl,by kernel_rfl⟩
theorem Zuq : Enters Tg 291 := ⟨Tryz.f291,Tryz.func291,by kernel_rfl,by kernel_rfl⟩
theorem Zqu : Enters Tg 298 := ⟨Tryz.f298,Tryz.func298,by kernel_rfl,by kernel_rfl⟩
theorem Zru : Enters Tg 285 := ⟨Tryz.f285,Tryz.func285,by kernel_rfl,by kernel_rfl⟩
theorem Zqv : Enters Tg 292 := ⟨Tryz.f292,Tryz.func292,by kernel_rfl,by kernel_rfl⟩
theorem Zqw : Enters Tg 293 := ⟨Tryz.f293,Tryz.func293,by kernel_rfl,by kernel_rfl⟩
theorem Zgu : Enters Tg 248 := ⟨Tryz.f248,Tryz.func248,by kernel_rfl,by kernel_rfl⟩
theorem Zld : Enters Tg 214 := ⟨Tryz.f214,Tryz.func214,by kernel_rfl,by kernel_rfl⟩
theorem Zur : Enters Tg 216 := ⟨Tryz.f216,Tryz.func216,by kernel_rfl,by kernel_rfl⟩
theorem Zso : Enters Tg 178 := ⟨Tryz.f178,Tryz.func178,by kernel_rfl,by kernel_rfl⟩
theorem Z82 : Enters Tg 249 := ⟨Tryz.f249,Tryz.func249,by kernel_rfl,by kernel_rfl⟩
theorem Zqx : Enters Tg 250 := ⟨Tryz.f250,Tryz.func250,by kernel_rfl,by kernel_rfl⟩
theorem Zot : Enters Tg 268 := ⟨Tryz.f268,Tryz.func268,by kernel_rfl,by kernel_rfl⟩
theorem Zpq : Enters Tg 217 := ⟨Tryz.f217,Tryz.func217,by kernel_rfl,by kernel_rfl⟩
theorem Znh : Enters Tg 251 := ⟨Tryz.f251,Tryz.func251,by kernel_rfl,by kernel_rfl⟩
theorem Zjy : Enters Tg 269 := ⟨Tryz.f269,Tryz.func269,by kernel_rfl,by kernel_rfl⟩
theorem Zgv : Enters Tg 284 := ⟨Tryz.f284,Tryz.func284,by kernel_rfl,by kernel_rfl⟩
theorem Zou : Enters Tg 283 := ⟨Tryz.f283,Tryz.func283,by kernel_rfl,by kernel_rfl⟩
theorem Zle : Enters Tg 294 := ⟨Tryz.f294,Tryz.func294,by kernel_rfl,by kernel_rfl⟩
theorem Zov : Enters Tg 252 := ⟨Tryz.f252,Tryz.func252,by kernel_rfl,by kernel_rfl⟩
theorem Zjz : Enters Tg 270 := ⟨Tryz.f270,Tryz.func270,by kernel_rfl,by kernel_rfl⟩
theorem Zsp : Enters Tg 272 := ⟨Tryz.f272,Tryz.func272,by kernel_rfl,by kernel_rfl⟩
theorem Zus : Enters Tg 273 := ⟨Tryz.f273,Tryz.func273,by kernel_rfl,by kernel_rfl⟩
theorem Zqy : Enters Tg 287 := ⟨Tryz.f287,Tryz.func287,by kernel_rfl,by kernel_rfl⟩
theorem Zow : Enters Tg 295 := ⟨Tryz.f295,Tryz.func295,by kernel_rfl,by kernel_rfl⟩
theorem Zox : Enters Tg 271 := ⟨Tryz.f271,Tryz.func271,by kernel_rfl,by kernel_rfl⟩
theorem Zpr : Enters Tg 286 := ⟨Tryz.f286,Tryz.func286,by kernel_rfl,by kernel_rfl⟩
theorem Zqz : Enters Tg 274 := ⟨Tryz.f274,Tryz.func274,by kernel_rfl,by kernel_rfl⟩
theorem Zps : Enters Tg 253 := ⟨Tryz.f253,Tryz.func253,by kernel_rfl,by kernel_rfl⟩
noncomputable def Z5l : Hints := ⟨[(144,Z2t),(157,Zvy)],[(212,Tryz.f212,Zz),(117,Tryz.f117,Zrr),(153,Tryz.f153,Zoi),(160,Tryz.f160,Zjm),(188,Tryz.f188,Zna),(213,Tryz.f213,Zjn),(238,Tryz.f238,Zgc),(239,Tryz.f239,Zgd),(240,Tryz.f240,Zge),(241,Tryz.f241,Zc9),(242,Tryz.f242,Zgf),(243,Tryz.f243,Zia),(263,Tryz.f263,Zdv),(276,Tryz.f276,Z6s),(288,Tryz.f288,Z7z),(277,Tryz.f277,Zib),(289,Tryz.f289,Zic),(296,Tryz.f296,Zjo),(299,Tryz.f299,Zid),(302,Tryz.f302,Zez),(307,Tryz.f307,Zca),(303,Tryz.f303,Zkz),(308,Tryz.f308,Zac),(304,Tryz.f304,Zcb),(309,Tryz.f309,Zdw),(310,Tryz.f310,Zie),(311,Tryz.f311,Zif),(315,Tryz.f315,Zcc),(312,Tryz.f312,Znb),(313,Tryz.f313,Zl0),(305,Tryz.f305,Zl1),(306,Tryz.f306,Zl2),(301,Tryz.f301,Zgg),(300,Tryz.f300,Z34),(297,Tryz.f297,Zdx),(228,Tryz.f228,Zjp),(259,Tryz.f259,Zjq),(278,Tryz.f278,Zgh),(290,Tryz.f290,Zb0),(244,Tryz.f244,Zb1),(264,Tryz.f264,Zf0),(279,Tryz.f279,Zl3),(265,Tryz.f265,Znc),(280,Tryz.f280,Zf1),(266,Tryz.f266,Z5h),(245,Tryz.f245,Zgi),(246,Tryz.f246,Zgj),(215,Tryz.f215,Zoj),(247,Tryz.f247,Zpl),(267,Tryz.f267,Zok),(281,Tryz.f281,Zl4),(282,Tryz.f282,Zad),(291,Tryz.f291,Zun),(298,Tryz.f298,Zqo),(285,Tryz.f285,Zrs),(292,Tryz.f292,Zqp),(293,Tryz.f293,Zqq),(248,Tryz.f248,Zgk),(214,Tryz.f214,Zl5),(216,Tryz.f216,Zuo),(178,Tryz.f178,Zsm),(249,Tryz.f249,Z80),(250,Tryz.f250,Zqr),(268,Tryz.f268,Zol),(217,Tryz.f217,Zpm),(251,Tryz.f251,Znd),(269,Tryz.f269,Zjr),(284,Tryz.f284,Zgl),(283,Tryz.f283,Zom),(294,Tryz.f294,Zl6),(252,Tryz.f252,Zon),(270,Tryz.f270,Zjs),(272,Tryz.f272,Zsn),(273,Tryz.f273,Zup),(287,Tryz.f287,Zqs),(295,Tryz.f295,Zoo),(271,Tryz.f271,Zop),(286,Tryz.f286,Zpn),(274,Tryz.f274,Zqt),(253,Tryz.f253,Zpo)],[303,305,306,308,253,1000032,1000060,2000026,2000040,2000062,2000034]⟩
theorem Z5m {m n : Nat} {ds : List D} {d : D} (h : funD Tg Z5l m n Zz Tryz.f212 ds = some d) : DataSem Tg 212 ds d := Z0 (H := Z5l) (SpOk.cons td_oids_Compare (SpOk.cons td_oids_Of SpOk.nil)) mixed (InlOk.cons Tryz.func212 Z9u (InlOk.cons Tryz.func117 Zrt (InlOk.cons Tryz.func153 Zoq (InlOk.cons Tryz.func160 Zjt (InlOk.cons Tryz.func188 Zne (InlOk.cons Tryz.func213 Zju (InlOk.cons Tryz.func238 Zgm (InlOk.cons Tryz.func239 Zgn (InlOk.cons Tryz.func240 Zgo (InlOk.cons Tryz.func241 Zcd (InlOk.cons Tryz.func242 Zgp (InlOk.cons Tryz.func243 Zig (InlOk.cons Tryz.func263 Zdy (InlOk.cons Tryz.func276 Z6t (InlOk.cons Tryz.func288 Z81 (InlOk.cons Tryz.func277 Zih (InlOk.cons Tryz.func289 Zii (InlOk.cons Tryz.func296 Zjv (InlOk.cons Tryz.func299 Zij (InlOk.cons Tryz.func302 Zf2 (InlOk.cons Tryz.func307 Zce (InlOk.cons Tryz.func303 Zl7 (InlOk.cons Tryz.func308 Zae (InlOk.cons Tryz.func304 Zcf (InlOk.cons Tryz.func309 Zdz (InlOk.cons Tryz.func310 Zik (InlOk.cons Tryz.func311 Zil (InlOk.cons Tryz.func315 Zcg (InlOk.cons Tryz.func312 Znf (InlOk.cons Tryz.func313 Zl8 (InlOk.cons Tryz.func305 Zl9 (InlOk.cons Tryz.func306 Zla (InlOk.cons Tryz.func301 Zgq (InlOk.cons Tryz.func300 Z35 (InlOk.cons Tryz.func297 Ze0 (InlOk.cons Tryz.func228 Zjw (InlOk.cons Tryz.func259 Zjx (InlOk.cons Tryz.func278 Zgr (InlOk.cons Tryz.func290 Zb2 (InlOk.cons Tryz.func244 Zb3 (InlOk.cons Tryz.func264 Zf3 (InlOk.cons Tryz.func279 Zlb (InlOk.cons Tryz.func265 Zng (InlOk.cons Tryz.func280 Zf4 (InlOk.cons Tryz.func266 Z5i (InlOk.cons Tryz.func245 Zgs (InlOk.cons Tryz.func246 Zgt (InlOk.cons Tryz.func215 Zor (InlOk.cons Tryz.func247 Zpp (InlOk.cons Tryz.func267 Zos (InlOk.cons Tryz.func281 Zlc (InlOk.cons Tryz.func282 Zaf (InlOk.cons Tryz.func291 Zuq (InlOk.cons Tryz.func298 Zqu (InlOk.cons Tryz.func285 Zru (InlOk.cons Tryz.func292 Zqv (InlOk.cons Tryz.func293 Zqw (InlOk.cons Tryz.func248 Zgu (InlOk.cons Tryz.func214 Zld (InlOk.cons Tryz.func216 Zur (InlOk.cons Tryz.func178 Zso (InlOk.cons Tryz.func249 Z82 (InlOk.cons Tryz.func250 Zqx (InlOk.cons Tryz.func268 Zot (InlOk.cons Tryz.func217 Zpq (InlOk.cons Tryz.func251 Znh (InlOk.cons Tryz.func269 Zjy (InlOk.cons Tryz.func284 Zgv (InlOk.cons Tryz.func283 Zou (InlOk.cons Tryz.func294 Zle (InlOk.cons Tryz.func252 Zov (InlOk.cons Tryz.func270 Zjz (InlOk.cons Tryz.func272 Zsp (InlOk.cons Tryz.func273 Zus (InlOk.cons Tryz.func287 Zqy (InlOk.cons Tryz.func295 Zow (InlOk.cons Tryz.func271 Zox (InlOk.cons Tryz.func286 Zpr (InlOk.cons Tryz.func274 Zqz (InlOk.cons Tryz.func253 Zps InlOk.nil)))))))))))))))))))))))))))))))))))))))))))))))))))))))))))))))))))))))))))))))) Tryz.func212 Z9u h
def Zyw : List D := [(D.agg [(D.v (.int .i64 (-1 : Int))),(D.v (.int .u8 (5 : Int))),w2,w5,w29,w32,z0,z0,z0,z0,z0,z0,z0,z0,z0,z0,z0,z0,(D.list 1 (some 1) [(D.v (.int .u8 (5 : Int))),w2,w5,w29,w32,z0,z0,z0,z0,z0,z0,z0,z0,z0,z0,z0,z0]),n0l])]
def Zyx : D := zI
def Zyy : List D := [(D.agg [zI,(D.v (.int .u8 (3 : Int))),w1,w2,w3,z0,z0,z0,z0,z0,z0,z0,z0,z0,z0,z0,z0,z0,(D.list 1 (some 1) [(D.v (.int .u8 (3 : Int))),w1,w2,w3,z0,z0,z0,z0,z0,z0,z0,z0,z0,z0,z0,z0,z0]),n0l])]
def Zyz : D := zI
def Zz0 : List D := [(D.agg [zI,(D.v (.int .u8 (5 : Int))),w2,w5,w29,w32,z0,z0,z0,z0,z0,z0,z0,z0,z0,z0,z0,z0,(D.list 1 (some 1) [(D.v (.int .u8 (5 : Int))),w2,w5,w29,w32,z0,z0,z0,z0,z0,z0,z0,z0,z0,z0,z0,z0]),n0l])]
def Zz1 : D := zI
def Zz2 : List D := [(D.agg [zI,(D.v (.int .u8 (3 : Int))),w1,w2,w3,z0,z0,z0,z0,z0,z0,z0,z0,z0,z0,z0,z0,z0,(D.list 1 (some 1) [(D.v (.int .u8 (3 : Int))),w1,w2,w4,z0,z0,z0,z0,z0,z0,z0,z0,z0,z0,z0,z0,z0]),n0l])]
def Zz3 : D := zI
def Zz4 : List D := [(D.agg [(D.v (.int .i64 (1 : Int))),(D.v (.int .u8 (3 : Int))),w1,w2,w4,z0,z0,z0,z0,z0,z0,z0,z0,z0,z0,z0,z0,z0,(D.list 1 (some 1) [(D.v (.int .u8 (3 : Int))),w1,w2,w4,z0,z0,z0,z0,z0,z0,z0,z0,z0,z0,z0,z0,z0]),n0l])]
def Zz5 : D := zI
theorem Z19m : funD Tg Z5l 100000 60 Zz Tryz.f212 Zyw = some Zyx := by kernel_rfl
theorem Z19n : funD Tg Z5l 100000 60 Zz Tryz.f212 Zyy = some Zyz := by kernel_rfl
theorem Z19o : funD Tg Z5l 100000 60 Zz Tryz.f212 Zz0 = some Zz1 := by kernel_rfl
theorem Z19p : funD Tg Z5l 100000 60 Zz Tryz.f212 Zz2 = some Zz3 := by kernel_rfl
theorem Z19q : funD Tg Z5l 100000 60 Zz Tryz.f212 Zz4 = some Zz5 := by kernel_rfl
def Zut (ds : List D) : Option D := if isT Zyw ds then some Zyx else (if isT Zyy ds then some Zyz else (if isT Zz0 ds then some Zz1 else (if isT Zz2 ds then some Zz3 else (if isT Zz4 ds then some Zz5 else (none)))))
theorem td_trees_valid : ∀ ds d,Zut ds = some d → DataSem Tg 212 ds d := by
 intro ds d h
 unfold Zut at h
 split at h
 ·rename_i ha; obtain rfl := isT_eq ha; cases h; exact Z5m Z19m
 split at h
 ·rename_i ha; obtain rfl := isT_eq ha; cases h; exact Z5m Z19n
 split at h
 ·rename_i ha; obtain rfl := isT_eq ha; cases h; exact Z5m Z19o
 split at h
 ·rename_i ha; obtain rfl := isT_eq ha; cases h; exact Z5m Z19p
 split at h
 ·rename_i ha; obtain rfl := isT_eq ha; cases h; exact Z5m Z19q
 cases h
def Z4 : FnH := ⟨[(5,⟨(bm 1835026 40),[(4,1),(18,20)],none,none⟩)],[]⟩
def Zoy : FnH := ⟨[],[]⟩
theorem Z6m : Enters Tg 182 := ⟨Tryz.f182,Tryz.func182,by kernel_rfl,by kernel_rfl⟩
theorem Zoz : Enters Tg 211 := ⟨Tryz.f211,Tryz.func211,by kernel_rfl,by kernel_rfl⟩
noncomputable def Z1b : Hints := ⟨[(144,Z2t),(212,Zut)],[(182,Tryz.f182,Z4),(211,Tryz.f211,Zoy)],[303,305,306,308,253,1000032,1000060,2000026,2000040,2000062,2000034]⟩
theorem Z11 {m n : Nat} {ds : List D} {d : D} (h : funD Tg Z1b m n Z4 Tryz.f182 ds = some d) : DataSem Tg 182 ds d := Z0 (H := Z1b) (SpOk.cons td_oids_Compare (SpOk.cons td_trees_valid SpOk.nil)) mixed (InlOk.cons Tryz.func182 Z6m (InlOk.cons Tryz.func211 Zoz InlOk.nil)) Tryz.func182 Z6m h
def Zte : List D := [(D.agg [(D.list 1 (some 1) [(D.v (.int .i64 (-1 : Int))),(D.v (.int .u8 (5 : Int))),w2,w5,w29,w32,z0,z0,z0,z0,z0,z0,z0,z0,z0,z0,z0,z0,(D.list 1 (some 1) [(D.v (.int .u8 (5 : Int))),w2,w5,w29,w32,z0,z0,z0,z0,z0,z0,z0,z0,z0,z0,z0,z0]),n0l])])]
def Ztf : D := (D.tup [(D.list 1 (some 1) [zI]),zI])
def Ztg : List D := [(D.agg [(D.list 3 none [(D.v (.int .i64 (-1 : Int))),(D.v (.int .u8 (5 : Int))),w2,w5,w29,w32,z0,z0,z0,z0,z0,z0,z0,z0,z0,z0,z0,z0,(D.list 1 (some 1) [(D.v (.int .u8 (5 : Int))),w2,w5,w29,w32,z0,z0,z0,z0,z0,z0,z0,z0,z0,z0,z0,z0]),n0l,zI,(D.v (.int .u8 (3 : Int))),w1,w2,w3,z0,z0,z0,z0,z0,z0,z0,z0,z0,z0,z0,z0,z0,(D.list 1 (some 1) [(D.v (.int .u8 (3 : Int))),w1,w2,w3,z0,z0,z0,z0,z0,z0,z0,z0,z0,z0,z0,z0,z0]),n0l,zI,(D.v (.int .u8 (5 : Int))),w2,w5,w29,w32,z0,z0,z0,z0,z0,z0,z0,z0,z0,z0,z0,z0,(D.list 1 (some 1) [(D.v (.int .u8 (5 : Int))),w2,w5,w29,w32,z0,z0,z0,z0,z0,z0,z0,z0,z0,z0,z0,z0]),n0l])])]
def Zth : D := (D.tup [(D.list 3 (some 3) [zI,(D.v (.int .i64 (1 : Int))),(D.v (.int .i64 (1 : Int)))]),zI])
def Zti : List D := [(D.agg [(D.list 3 (some 3) [(D.v (.int .i64 (-1 : Int))),(D.v (.int .u8 (5 : Int))),w2,w5,w29,w32,z0,z0,z0,z0,z0,z0,z0,z0,z0,z0,z0,z0,(D.list 1 (some 1) [(D.v (.int .u8 (5 : Int))),w2,w5,w29,w32,z0,z0,z0,z0,z0,z0,z0,z0,z0,z0,z0,z0]),n0l,zI,(D.v (.int .u8 (3 : Int))),w1,w2,w3,z0,z0,z0,z0,z0,z0,z0,z0,z0,z0,z0,z0,z0,(D.list 1 (some 1) [(D.v (.int .u8 (3 : Int))),w1,w2,w3,z0,z0,z0,z0,z0,z0,z0,z0,z0,z0,z0,z0,z0]),n0l,zI,(D.v (.int .u8 (5 : Int))),w2,w5,w29,w32,z0,z0,z0,z0,z0,z0,z0,z0,z0,z0,z0,z0,(D.list 1 (some 1) [(D.v (.int .u8 (5 : Int))),w2,w5,w29,w32,z0,z0,z0,z0,z0,z0,z0,z0,z0,z0,z0,z0]),n0l])])]
def Ztj : D := (D.tup [(D.list 3 (some 3) [zI,(D.v (.int .i64 (1 : Int))),(D.v (.int .i64 (1 : Int)))]),zI])
def Ztk : List D := [(D.agg [(D.list 3 none [(D.v (.int .i64 (-1 : Int))),(D.v (.int .u8 (5 : Int))),w2,w5,w29,w32,z0,z0,z0,z0,z0,z0,z0,z0,z0,z0,z0,z0,(D.list 1 (some 1) [(D.v (.int .u8 (5 : Int))),w2,w5,w29,w32,z0,z0,z0,z0,z0,z0,z0,z0,z0,z0,z0,z0]),n0l,zI,(D.v (.int .u8 (3 : Int))),w1,w2,w3,z0,z0,z0,z0,z0,z0,z0,z0,z0,z0,z0,z0,z0,(D.list 1 (some 1) [(D.v (.int .u8 (3 : Int))),w1,w2,w4,z0,z0,z0,z0,z0,z0,z0,z0,z0,z0,z0,z0,z0]),n0l,zI,(D.v (.int .u8 (5 : Int))),w2,w5,w29,w32,z0,z0,z0,z0,z0,z0,z0,z0,z0,z0,z0,z0,(D.list 1 (some 1) [(D.v (.int .u8 (5 : Int))),w2,w5,w29,w32,z0,z0,z0,z0,z0,z0,z0,z0,z0,z0,z0,z0]),n0l])])]
def Ztl : D := (D.tup [(D.list 3 (some 3) [zI,(D.v (.int .i64 (1 : Int))),(D.v (.int .i64 (1 : Int)))]),zI])
def Ztm : List D := [(D.agg [(D.list 4 none [(D.v (.int .i64 (-1 : Int))),(D.v (.int .u8 (5 : Int))),w2,w5,w29,w32,z0,z0,z0,z0,z0,z0,z0,z0,z0,z0,z0,z0,(D.list 1 (some 1) [(D.v (.int .u8 (5 : Int))),w2,w5,w29,w32,z0,z0,z0,z0,z0,z0,z0,z0,z0,z0,z0,z0]),n0l,zI,(D.v (.int .u8 (3 : Int))),w1,w2,w3,z0,z0,z0,z0,z0,z0,z0,z0,z0,z0,z0,z0,z0,(D.list 1 (some 1) [(D.v (.int .u8 (3 : Int))),w1,w2,w4,z0,z0,z0,z0,z0,z0,z0,z0,z0,z0,z0,z0,z0]),n0l,zI,(D.v (.int .u8 (5 : Int))),w2,w5,w29,w32,z0,z0,z0,z0,z0,z0,z0,z0,z0,z0,z0,z0,(D.list 1 (some 1) [(D.v (.int .u8 (5 : Int))),w2,w5,w29,w32,z0,z0,z0,z0,z0,z0,z0,z0,z0,z0,z0,z0]),n0l,(D.v (.int .i64 (1 : Int))),(D.v (.int .u8 (3 : Int))),w1,w2,w4,z0,z0,z0,z0,z0,z0,z0,z0,z0,z0,z0,z0,z0,(D.list 1 (some 1) [(D.v (.int .u8 (3 : Int))),w1,w2,w4,z0,z0,z0,z0,z0,z0,z0,z0,z0,z0,z0,z0,z0]),n0l])])]
def Ztn : D := (D.tup [(D.list 4 (some 4) [zI,(D.v (.int .i64 (1 : Int))),(D.v (.int .i64 (1 : Int))),(D.v (.int .i64 (2 : Int)))]),zI])
def Zto : List D := [(D.agg [(D.list 3 (some 3) [(D.v (.int .i64 (-1 : Int))),(D.v (.int .u8 (5 : Int))),w2,w5,w29,w32,z0,z0,z0,z0,z0,z0,z0,z0,z0,z0,z0,z0,(D.list 1 (some 1) [(D.v (.int .u8 (5 : Int))),w2,w5,w29,w32,z0,z0,z0,z0,z0,z0,z0,z0,z0,z0,z0,z0]),n0l,zI,(D.v (.int .u8 (3 : Int))),w1,w2,w3,z0,z0,z0,z0,z0,z0,z0,z0,z0,z0,z0,z0,z0,(D.list 1 (some 1) [(D.v (.int .u8 (3 : Int))),w1,w2,w4,z0,z0,z0,z0,z0,z0,z0,z0,z0,z0,z0,z0,z0]),n0l,(D.v (.int .i64 (1 : Int))),(D.v (.int .u8 (3 : Int))),w1,w2,w4,z0,z0,z0,z0,z0,z0,z0,z0,z0,z0,z0,z0,z0,(D.list 1 (some 1) [(D.v (.int .u8 (3 : Int))),w1,w2,w4,z0,z0,z0,z0,z0,z0,z0,z0,z0,z0,z0,z0,z0]),n0l])])]
def Ztp : D := (D.tup [(D.list 3 (some 3) [zI,(D.v (.int .i64 (1 : Int))),(D.v (.int .i64 (2 : Int)))]),zI])
def Ztq : List D := [(D.agg [(D.list 2 (some 2) [(D.v (.int .i64 (-1 : Int))),(D.v (.int .u8 (5 : Int))),w2,w5,w29,w32,z0,z0,z0,z0,z0,z0,z0,z0,z0,z0,z0,z0,(D.list 1 (some 1) [(D.v (.int .u8 (5 : Int))),w2,w5,w29,w32,z0,z0,z0,z0,z0,z0,z0,z0,z0,z0,z0,z0]),n0l,zI,(D.v (.int .u8 (5 : Int))),w2,w5,w29,w32,z0,z0,z0,z0,z0,z0,z0,z0,z0,z0,z0,z0,(D.list 1 (some 1) [(D.v (.int .u8 (5 : Int))),w2,w5,w29,w32,z0,z0,z0,z0,z0,z0,z0,z0,z0,z0,z0,z0]),n0l])])]
def Ztr : D := (D.tup [(D.list 2 (some 2) [zI,(D.v (.int .i64 (1 : Int)))]),zI])
def Zts : List D := [(D.agg [(D.list 3 none [(D.v (.int .i64 (-1 : Int))),(D.v (.int .u8 (5 : Int))),w2,w5,w29,w32,z0,z0,z0,z0,z0,z0,z0,z0,z0,z0,z0,z0,(D.list 1 (some 1) [(D.v (.int .u8 (5 : Int))),w2,w5,w29,w32,z0,z0,z0,z0,z0,z0,z0,z0,z0,z0,z0,z0]),n0l,zI,(D.v (.int .u8 (5 : Int))),w2,w5,w29,w32,z0,z0,z0,z0,z0,z0,z0,z0,z0,z0,z0,z0,(D.list 1 (some 1) [(D.v (.int .u8 (5 : Int))),w2,w5,w29,w32,z0,z0,z0,z0,z0,z0,z0,z0,z0,z0,z0,z0]),n0l,(D.v (.int .i64 (1 : Int))),(D.v (.int .u8 (3 : Int))),w1,w2,w4,z0,z0,z0,z0,z0,z0,z0,z0,z0,z0,z0,z0,z0,(D.list 1 (some 1) [(D.v (.int .u8 (3 : Int))),w1,w2,w4,z0,z0,z0,z0,z0,z0,z0,z0,z0,z0,z0,z0,z0]),n0l])])]
def Ztt : D := (D.tup [(D.list 3 (some 3) [zI,(D.v (.int .i64 (1 : Int))),(D.v (.int .i64 (2 : Int)))]),zI])
def Ztu : List D := [(D.agg [(D.list 3 (some 3) [(D.v (.int .i64 (-1 : Int))),(D.v (.int .u8 (5 : Int))),w2,w5,w29,w32,z0,z0,z0,z0,z0,z0,z0,z0,z0,z0,z0,z0,(D.list 1 (some 1) [(D.v (.int .u8 (5 : Int))),w2,w5,w29,w32,z0,z0,z0,z0,z0,z0,z0,z0,z0,z0,z0,z0]),n0l,zI,(D.v (.int .u8 (5 : Int))),w2,w5,w29,w32,z0,z0,z0,z0,z0,z0,z0,z0,z0,z0,z0,z0,(D.list 1 (some 1) [(D.v (.int .u8 (5 : Int))),w2,w5,w29,w32,z0,z0,z0,z0,z0,z0,z0,z0,z0,z0,z0,z0]),n0l,(D.v (.int .i64 (1 : Int))),(D.v (.int .u8 (3 : Int))),w1,w2,w4,z0,z0,z0,z0,z0,z0,z0,z0,z0,z0,z0,z0,z0,(D.list 1 (some 1) [(D.v (.int .u8 (3 : Int))),w1,w2,w4,z0,z0,z0,z0,z0,z0,z0,z0,z0,z0,z0,z0,z0]),n0l])])]
def Ztv : D := (D.tup [(D.list 3 (some 3) [zI,(D.v (.int .i64 (1 : Int))),(D.v (.int .i64 (2 : Int)))]),zI])
def Ztw : List D := [(D.agg [n0l])]
def Ztx : D := (D.tup [n0l,zI])
theorem Z16b : funD Tg Z1b 100000 60 Z4 Tryz.f182 Zte = some Ztf := by kernel_rfl
theorem Z16c : funD Tg Z1b 100000 60 Z4 Tryz.f182 Ztg = some Zth := by kernel_rfl
theorem Z16d : funD Tg Z1b 100000 60 Z4 Tryz.f182 Zti = some Ztj := by kernel_rfl
theorem Z16e : funD Tg Z1b 100000 60 Z4 Tryz.f182 Ztk = some Ztl := by kernel_rfl
theorem Z16f : funD Tg Z1b 100000 60 Z4 Tryz.f182 Ztm = some Ztn := by kernel_rfl
theorem Z16g : funD Tg Z1b 100000 60 Z4 Tryz.f182 Zto = some Ztp := by kernel_rfl
theorem Z16h : funD Tg Z1b 100000 60 Z4 Tryz.f182 Ztq = some Ztr := by kernel_rfl
theorem Z16i : funD Tg Z1b 100000 60 Z4 Tryz.f182 Zts = some Ztt := by kernel_rfl
theorem Z16j : funD Tg Z1b 100000 60 Z4 Tryz.f182 Ztu = some Ztv := by kernel_rfl
theorem Z16k : funD Tg Z1b 100000 60 Z4 Tryz.f182 Ztw = some Ztx := by kernel_rfl
def Zft (ds : List D) : Option D := if isT Zte ds then some Ztf else (if isT Ztg ds then some Zth else (if isT Zti ds then some Ztj else (if isT Ztk ds then some Ztl else (if isT Ztm ds then some Ztn else (if isT Zto ds then some Ztp else (if isT Ztq ds then some Ztr else (if isT Zts ds then some Ztt else (if isT Ztu ds then some Ztv else (if isT Ztw ds then some Ztx else (none))))))))))
theorem td_trees_examine : ∀ ds d,Zft ds = some d → DataSem Tg 182 ds d := by
 intro ds d h
 unfold Zft at h
 split at h
 ·rename_i ha; obtain rfl := isT_eq ha; cases h; exact Z11 Z16b
 split at h
 ·rename_i ha; obtain rfl := isT_eq ha; cases h; exact Z11 Z16c
 split at h
 ·rename_i ha; obtain rfl := isT_eq ha; cases h; exact Z11 Z16d
 split at h
 ·rename_i ha; obtain rfl := isT_eq ha; cases h; exact Z11 Z16e
 split at h
 ·rename_i ha; obtain rfl := isT_eq ha; cases h; exact Z11 Z16f
 split at h
 ·rename_i ha; obtain rfl := isT_eq ha; cases h; exact Z11 Z16g
 split at h
 ·rename_i ha; obtain rfl := isT_eq ha; cases h; exact Z11 Z16h
 split at h
 ·rename_i ha; obtain rfl := isT_eq ha; cases h; exact Z11 Z16i
 split at h
 ·rename_i ha; obtain rfl := isT_eq ha; cases h; exact Z11 Z16j
 split at h
 ·rename_i ha; obtain rfl := isT_eq ha; cases h; exact Z11 Z16k
 cases h
def Z9 : FnH := ⟨[],[]⟩
theorem Z9v : Enters Tg 149 := ⟨Tryz.f149,Tryz.func149,by kernel_rfl,by kernel_rfl⟩
noncomputable def Z21 : Hints := ⟨[(182,Zft)],[(149,Tryz.f149,Z9)],[303,305,306,308,253,1000032,1000060,2000026,2000040,2000062,2000034]⟩
theorem Z1g {m n : Nat} {ds : List D} {d : D} (h : funD Tg Z21 m n Z9 Tryz.f149 ds = some d) : DataSem Tg 149 ds d := Z0 (H := Z21) (SpOk.cons td_trees_examine SpOk.nil) mixed (InlOk.cons Tryz.func149 Z9v InlOk.nil) Tryz.func149 Z9v h
def Zz6 : List D := [(D.agg [(D.list 3 none [(D.v (.int .i64 (-1 : Int))),(D.v (.int .u8 (5 : Int))),w2,w5,w29,w32,z0,z0,z0,z0,z0,z0,z0,z0,z0,z0,z0,z0,(D.list 1 (some 1) [(D.v (.int .u8 (5 : Int))),w2,w5,w29,w32,z0,z0,z0,z0,z0,z0,z0,z0,z0,z0,z0,z0]),n0l,zI,(D.v (.int .u8 (3 : Int))),w1,w2,w3,z0,z0,z0,z0,z0,z0,z0,z0,z0,z0,z0,z0,z0,(D.list 1 (some 1) [(D.v (.int .u8 (3 : Int))),w1,w2,w3,z0,z0,z0,z0,z0,z0,z0,z0,z0,z0,z0,z0,z0]),n0l,zI,(D.v (.int .u8 (5 : Int))),w2,w5,w29,w32,z0,z0,z0,z0,z0,z0,z0,z0,z0,z0,z0,z0,(D.list 1 (some 1) [(D.v (.int .u8 (5 : Int))),w2,w5,w29,w32,z0,z0,z0,z0,z0,z0,z0,z0,z0,z0,z0,z0]),n0l])])]
def Zz7 : D := zI
def Zz8 : List D := [(D.agg [(D.list 4 none [(D.v (.int .i64 (-1 : Int))),(D.v (.int .u8 (5 : Int))),w2,w5,w29,w32,z0,z0,z0,z0,z0,z0,z0,z0,z0,z0,z0,z0,(D.list 1 (some 1) [(D.v (.int .u8 (5 : Int))),w2,w5,w29,w32,z0,z0,z0,z0,z0,z0,z0,z0,z0,z0,z0,z0]),n0l,zI,(D.v (.int .u8 (3 : Int))),w1,w2,w3,z0,z0,z0,z0,z0,z0,z0,z0,z0,z0,z0,z0,z0,(D.list 1 (some 1) [(D.v (.int .u8 (3 : Int))),w1,w2,w4,z0,z0,z0,z0,z0,z0,z0,z0,z0,z0,z0,z0,z0]),n0l,zI,(D.v (.int .u8 (5 : Int))),w2,w5,w29,w32,z0,z0,z0,z0,z0,z0,z0,z0,z0,z0,z0,z0,(D.list 1 (some 1) [(D.v (.int .u8 (5 : Int))),w2,w5,w29,w32,z0,z0,z0,z0,z0,z0,z0,z0,z0,z0,z0,z0]),n0l,(D.v (.int .i64 (1 : Int))),(D.v (.int .u8 (3 : Int))),w1,w2,w4,z0,z0,z0,z0,z0,z0,z0,z0,z0,z0,z0,z0,z0,(D.list 1 (some 1) [(D.v (.int .u8 (3 : Int))),w1,w2,w4,z0,z0,z0,z0,z0,z0,z0,z0,z0,z0,z0,z0,z0]),n0l])])]
def Zz9 : D := zI
def Zza : List D := [(D.agg [(D.list 1 (some 1) [(D.v (.int .i64 (-1 : Int))),(D.v (.int .u8 (5 : Int))),w2,w5,w29,w32,z0,z0,z0,z0,z0,z0,z0,z0,z0,z0,z0,z0,(D.list 1 (some 1) [(D.v (.int .u8 (5 : Int))),w2,w5,w29,w32,z0,z0,z0,z0,z0,z0,z0,z0,z0,z0,z0,z0]),n0l])])]
def Zzb : D := zI
def Zzc : List D := [(D.agg [(D.list 3 (some 3) [(D.v (.int .i64 (-1 : Int))),(D.v (.int .u8 (5 : Int))),w2,w5,w29,w32,z0,z0,z0,z0,z0,z0,z0,z0,z0,z0,z0,z0,(D.list 1 (some 1) [(D.v (.int .u8 (5 : Int))),w2,w5,w29,w32,z0,z0,z0,z0,z0,z0,z0,z0,z0,z0,z0,z0]),n0l,zI,(D.v (.int .u8 (3 : Int))),w1,w2,w3,z0,z0,z0,z0,z0,z0,z0,z0,z0,z0,z0,z0,z0,(D.list 1 (some 1) [(D.v (.int .u8 (3 : Int))),w1,w2,w3,z0,z0,z0,z0,z0,z0,z0,z0,z0,z0,z0,z0,z0]),n0l,zI,(D.v (.int .u8 (5 : Int))),w2,w5,w29,w32,z0,z0,z0,z0,z0,z0,z0,z0,z0,z0,z0,z0,(D.list 1 (some 1) [(D.v (.int .u8 (5 : Int))),w2,w5,w29,w32,z0,z0,z0,z0,z0,z0,z0,z0,z0,z0,z0,z0]),n0l])])]
def Zzd : D := zI
def Zze : List D := [(D.agg [(D.list 3 none [(D.v (.int .i64 (-1 : Int))),(D.v (.int .u8 (5 : Int))),w2,w5,w29,w32,z0,z0,z0,z0,z0,z0,z0,z0,z0,z0,z0,z0,(D.list 1 (some 1) [(D.v (.int .u8 (5 : Int))),w2,w5,w29,w32,z0,z0,z0,z0,z0,z0,z0,z0,z0,z0,z0,z0]),n0l,zI,(D.v (.int .u8 (3 : Int))),w1,w2,w3,z0,z0,z0,z0,z0,z0,z0,z0,z0,z0,z0,z0,z0,(D.list 1 (some 1) [(D.v (.int .u8 (3 : Int))),w1,w2,w4,z0,z0,z0,z0,z0,z0,z0,z0,z0,z0,z0,z0,z0]),n0l,zI,(D.v (.int .u8 (5 : Int))),w2,w5,w29,w32,z0,z0,z0,z0,z0,z0,z0,z0,z0,z0,z0,z0,(D.list 1 (some 1) [(D.v (.int .u8 (5 : Int))),w2,w5,w29,w32,z0,z0,z0,z0,z0,z0,z0,z0,z0,z0,z0,z0]),n0l])])]
def Zzf : D := zI
def Zzg : List D := [(D.agg [(D.list 3 (some 3) [(D.v (.int .i64 (-1 : Int))),(D.v (.int .u8 (5 : Int))),w2,w5,w29,w32,z0,z0,z0,z0,z0,z0,z0,z0,z0,z0,z0,z0,(D.list 1 (some 1) [(D.v (.int .u8 (5 : Int))),w2,w5,w29,w32,z0,z0,z0,z0,z0,z0,z0,z0,z0,z0,z0,z0]),n0l,zI,(D.v (.int .u8 (3 : Int))),w1,w2,w3,z0,z0,z0,z0,z0,z0,z0,z0,z0,z0,z0,z0,z0,(D.list 1 (some 1) [(D.v (.int .u8 (3 : Int))),w1,w2,w4,z0,z0,z0,z0,z0,z0,z0,z0,z0,z0,z0,z0,z0]),n0l,(D.v (.int .i64 (1 : Int))),(D.v (.int .u8 (3 : Int))),w1,w2,w4,z0,z0,z0,z0,z0,z0,z0,z0,z0,z0,z0,z0,z0,(D.list 1 (some 1) [(D.v (.int .u8 (3 : Int))),w1,w2,w4,z0,z0,z0,z0,z0,z0,z0,z0,z0,z0,z0,z0,z0]),n0l])])]
def Zzh : D := zI
def Zzi : List D := [(D.agg [(D.list 2 (some 2) [(D.v (.int .i64 (-1 : Int))),(D.v (.int .u8 (5 : Int))),w2,w5,w29,w32,z0,z0,z0,z0,z0,z0,z0,z0,z0,z0,z0,z0,(D.list 1 (some 1) [(D.v (.int .u8 (5 : Int))),w2,w5,w29,w32,z0,z0,z0,z0,z0,z0,z0,z0,z0,z0,z0,z0]),n0l,zI,(D.v (.int .u8 (5 : Int))),w2,w5,w29,w32,z0,z0,z0,z0,z0,z0,z0,z0,z0,z0,z0,z0,(D.list 1 (some 1) [(D.v (.int .u8 (5 : Int))),w2,w5,w29,w32,z0,z0,z0,z0,z0,z0,z0,z0,z0,z0,z0,z0]),n0l])])]
def Zzj : D := zI
def Zzk : List D := [(D.agg [(D.list 3 none [(D.v (.int .i64 (-1 : Int))),(D.v (.int .u8 (5 : Int))),w2,w5,w29,w32,z0,z0,z0,z0,z0,z0,z0,z0,z0,z0,z0,z0,(D.list 1 (some 1) [(D.v (.int .u8 (5 : Int))),w2,w5,w29,w32,z0,z0,z0,z0,z0,z0,z0,z0,z0,z0,z0,z0]),n0l,zI,(D.v (.int .u8 (5 : Int))),w2,w5,w29,w32,z0,z0,z0,z0,z0,z0,z0,z0,z0,z0,z0,z0,(D.list 1 (some 1) [(D.v (.int .u8 (5 : Int))),w2,w5,w29,w32,z0,z0,z0,z0,z0,z0,z0,z0,z0,z0,z0,z0]),n0l,(D.v (.int .i64 (1 : Int))),(D.v (.int .u8 (3 : Int))),w1,w2,w4,z0,z0,z0,z0,z0,z0,z0,z0,z0,z0,z0,z0,z0,(D.list 1 (some 1) [(D.v (.int .u8 (3 : Int))),w1,w2,w4,z0,z0,z0,z0,z0,z0,z0,z0,z0,z0,z0,z0,z0]),n0l])])]
def Zzl : D := zI
def Zzm : List D := [(D.agg [(D.list 3 (some 3) [(D.v (.int .i64 (-1 : Int))),(D.v (.int .u8 (5 : Int))),w2,w5,w29,w32,z0,z0,z0,z0,z0,z0,z0,z0,z0,z0,z0,z0,(D.list 1 (some 1) [(D.v (.int .u8 (5 : Int))),w2,w5,w29,w32,z0,z0,z0,z0,z0,z0,z0,z0,z0,z0,z0,z0]),n0l,zI,(D.v (.int .u8 (5 : Int))),w2,w5,w29,w32,z0,z0,z0,z0,z0,z0,z0,z0,z0,z0,z0,z0,(D.list 1 (some 1) [(D.v (.int .u8 (5 : Int))),w2,w5,w29,w32,z0,z0,z0,z0,z0,z0,z0,z0,z0,z0,z0,z0]),n0l,(D.v (.int .i64 (1 : Int))),(D.v (.int .u8 (3 : Int))),w1,w2,w4,z0,z0,z0,z0,z0,z0,z0,z0,z0,z0,z0,z0,z0,(D.list 1 (some 1) [(D.v (.int .u8 (3 : Int))),w1,w2,w4,z0,z0,z0,z0,z0,z0,z0,z0,z0,z0,z0,z0,z0]),n0l])])]
def Zzn : D := zI
def Zzo : List D := [(D.agg [n0l])]
def Zzp : D := zI
theorem Z19r : funD Tg Z21 100000 60 Z9 Tryz.f149 Zz6 = some Zz7 := by kernel_rfl
theorem Z19s : funD Tg Z21 100000 60 Z9 Tryz.f149 Zz8 = some Zz9 := by kernel_rfl
theorem Z19t : funD Tg Z21 100000 60 Z9 Tryz.f149 Zza = some Zzb := by kernel_rfl
theorem Z19u : funD Tg Z21 100000 60 Z9 Tryz.f149 Zzc = some Zzd := by kernel_rfl
theorem Z19v : funD Tg Z21 100000 60 Z9 Tryz.f149 Zze = some Zzf := by kernel_rfl
theorem Z19w : funD Tg Z21 100000 60 Z9 Tryz.f149 Zzg = some Zzh := by kernel_rfl
theorem Z19x : funD Tg Z21 100000 60 Z9 Tryz.f149 Zzi = some Zzj := by kernel_rfl
theorem Z19y : funD Tg Z21 100000 60 Z9 Tryz.f149 Zzk = some Zzl := by kernel_rfl
theorem Z19z : funD Tg Z21 100000 60 Z9 Tryz.f149 Zzm = some Zzn := by kernel_rfl
theorem Z1a0 : funD Tg Z21 100000 60 Z9 Tryz.f149 Zzo = some Zzp := by kernel_rfl
def Znu (ds : List D) : Option D := if isT Zz6 ds then some Zz7 else (if isT Zz8 ds then some Zz9 else (if isT Zza ds then some Zzb else (if isT Zzc ds then some Zzd else (if isT Zze ds then some Zzf else (if isT Zzg ds then some Zzh else (if isT Zzi ds then some Zzj else (if isT Zzk ds then some Zzl else (if isT Zzm ds then some Zzn else (if isT Zzo ds then some Zzp else (none))))))))))
theorem td_trees_Check : ∀ ds d,Znu ds = some d → DataSem Tg 149 ds d := by
 intro ds d h
 unfold Znu at h
 split at h
 ·rename_i ha; obtain rfl := isT_eq ha; cases h; exact Z1g Z19r
 split at h
 ·rename_i ha; obtain rfl := isT_eq ha; cases h; exact Z1g Z19s
 split at h
 ·rename_i ha; obtain rfl := isT_eq ha; cases h; exact Z1g Z19t
 split at h
 ·rename_i ha; obtain rfl := isT_eq ha; cases h; exact Z1g Z19u
 split at h
 ·rename_i ha; obtain rfl := isT_eq ha; cases h; exact Z1g Z19v
 split at h
 ·rename_i ha; obtain rfl := isT_eq ha; cases h; exact Z1g Z19w
 split at h
 ·rename_i ha; obtain rfl := isT_eq ha; cases h; exact Z1g Z19x
 split at h
 ·rename_i ha; obtain rfl := isT_eq ha; cases h; exact Z1g Z19y
 split at h
 ·rename_i ha; obtain rfl := isT_eq ha; cases h; exact Z1g Z19z
 split at h
 ·rename_i ha; obtain rfl := isT_eq ha; cases h; exact Z1g Z1a0
 cases h
def Zj : FnH := ⟨[],[]⟩
theorem Z3g : Enters Tg 183 := ⟨Tryz.f183,Tryz.func183,by kernel_rfl,by kernel_rfl⟩
noncomputable def Z3o : Hints := ⟨[],[(183,Tryz.f183,Zj)],[303,305,306,308,253,1000032,1000060,2000026,2000040,2000062,2000034]⟩
theorem Z5n {m n : Nat} {ds : List D} {d : D} (h : funD Tg Z3o m n Zj Tryz.f183 ds = some d) : DataSem Tg 183 ds d := Z0 (H := Z3o) SpOk.nil mixed (InlOk.cons Tryz.func183 Z3g InlOk.nil) Tryz.func183 Z3g h
def Zhe : List D := [(D.list 1 (some 1) [(D.v (.int .u8 (5 : Int))),w2,w5,w29,w32,z0,z0,z0,z0,z0,z0,z0,z0,z0,z0,z0,z0])]
def Zhf : D := (D.list 1 (some 1) [(D.v (.int .u8 (5 : Int))),w2,w5,w29,w32,z0,z0,z0,z0,z0,z0,z0,z0,z0,z0,z0,z0])
def Zhg : List D := [(D.list 1 (some 1) [(D.v (.int .u8 (3 : Int))),w1,w2,w3,z0,z0,z0,z0,z0,z0,z0,z0,z0,z0,z0,z0,z0])]
def Zhh : D := (D.list 1 (some 1) [(D.v (.int .u8 (3 : Int))),w1,w2,w3,z0,z0,z0,z0,z0,z0,z0,z0,z0,z0,z0,z0,z0])
def Zhi : List D := [(D.list 1 (some 1) [(D.v (.int .u8 (3 : Int))),w1,w2,w4,z0,z0,z0,z0,z0,z0,z0,z0,z0,z0,z0,z0,z0])]
def Zhj : D := (D.list 1 (some 1) [(D.v (.int .u8 (3 : Int))),w1,w2,w4,z0,z0,z0,z0,z0,z0,z0,z0,z0,z0,z0,z0,z0])
theorem Zw7 : funD Tg Z3o 100000 60 Zj Tryz.f183 Zhe = some Zhf := by kernel_rfl
theorem Zw8 : funD Tg Z3o 100000 60 Zj Tryz.f183 Zhg = some Zhh := by kernel_rfl
theorem Zw9 : funD Tg Z3o 100000 60 Zj Tryz.f183 Zhi = some Zhj := by kernel_rfl
def Z9l (ds : List D) : Option D := if isT Zhe ds then some Zhf else (if isT Zhg ds then some Zhh else (if isT Zhi ds then some Zhj else (none)))
theorem td_trees_clone_api_OID : ∀ ds d,Z9l ds = some d → DataSem Tg 183 ds d := by
 intro ds d h
 unfold Z9l at h
 split at h
 ·rename_i ha; obtain rfl := isT_eq ha; cases h; exact Z5n Zw7
 split at h
 ·rename_i ha; obtain rfl := isT_eq ha; cases h; exact Z5n Zw8
 split at h
 ·rename_i ha; obtain rfl := isT_eq ha; cases h; exact Z5n Zw9
 cases h
def Zt : FnH := ⟨[(4,⟨(bm 114694 39),[(14,27)],none,none⟩)],[]⟩
def Z83 : FnH := ⟨[],[]⟩
theorem Z7s : Enters Tg 150 := ⟨Tryz.f150,Tryz.func150,by kernel_rfl,by kernel_rfl⟩
theorem Z84 : Enters Tg 184 := ⟨Tryz.f184,Tryz.func184,by kernel_rfl,by kernel_rfl⟩
noncomputable def Z50 : Hints := ⟨[(183,Z9l),(185,fun _ => none),(186,fun _ => none)],[(150,Tryz.f150,Zt),(184,Tryz.f184,Z83)],[303,305,306,308,253,1000032,1000060,2000026,2000040,2000062,2000034]⟩
theorem Z53 {m n : Nat} {ds : List D} {d : D} (h : funD Tg Z50 m n Zt Tryz.f150 ds = some d) : DataSem Tg 150 ds d := Z0 (H := Z50) (SpOk.cons td_trees_clone_api_OID (SpOk.cons (fun _ _ h => by cases h) (SpOk.cons (fun _ _ h => by cases h) SpOk.nil))) mixed (InlOk.cons Tryz.func150 Z7s (InlOk.cons Tryz.func184 Z84 InlOk.nil)) Tryz.func150 Z7s h
def Zwa : List D := [(D.agg [(D.v (.int .i64 (-1 : Int))),(D.v (.int .u8 (5 : Int))),w2,w5,w29,w32,z0,z0,z0,z0,z0,z0,z0,z0,z0,z0,z0,z0,(D.list 1 (some 1) [(D.v (.int .u8 (5 : Int))),w2,w5,w29,w32,z0,z0,z0,z0,z0,z0,z0,z0,z0,z0,z0,z0]),n0l])]
def Zwb : D := (D.agg [(D.v (.int .i64 (-1 : Int))),(D.v (.int .u8 (5 : Int))),w2,w5,w29,w32,z0,z0,z0,z0,z0,z0,z0,z0,z0,z0,z0,z0,(D.list 1 (some 1) [(D.v (.int .u8 (5 : Int))),w2,w5,w29,w32,z0,z0,z0,z0,z0,z0,z0,z0,z0,z0,z0,z0]),n0l])
def Zwc : List D := [(D.agg [zI,(D.v (.int .u8 (3 : Int))),w1,w2,w3,z0,z0,z0,z0,z0,z0,z0,z0,z0,z0,z0,z0,z0,(D.list 1 (some 1) [(D.v (.int .u8 (3 : Int))),w1,w2,w3,z0,z0,z0,z0,z0,z0,z0,z0,z0,z0,z0,z0,z0]),n0l])]
def Zwd : D := (D.agg [zI,(D.v (.int .u8 (3 : Int))),w1,w2,w3,z0,z0,z0,z0,z0,z0,z0,z0,z0,z0,z0,z0,z0,(D.list 1 (some 1) [(D.v (.int .u8 (3 : Int))),w1,w2,w3,z0,z0,z0,z0,z0,z0,z0,z0,z0,z0,z0,z0,z0]),n0l])
def Zwe : List D := [(D.agg [zI,(D.v (.int .u8 (5 : Int))),w2,w5,w29,w32,z0,z0,z0,z0,z0,z0,z0,z0,z0,z0,z0,z0,(D.list 1 (some 1) [(D.v (.int .u8 (5 : Int))),w2,w5,w29,w32,z0,z0,z0,z0,z0,z0,z0,z0,z0,z0,z0,z0]),n0l])]
def Zwf : D := (D.agg [zI,(D.v (.int .u8 (5 : Int))),w2,w5,w29,w32,z0,z0,z0,z0,z0,z0,z0,z0,z0,z0,z0,z0,(D.list 1 (some 1) [(D.v (.int .u8 (5 : Int))),w2,w5,w29,w32,z0,z0,z0,z0,z0,z0,z0,z0,z0,z0,z0,z0]),n0l])
def Zwg : List D := [(D.agg [zI,(D.v (.int .u8 (3 : Int))),w1,w2,w3,z0,z0,z0,z0,z0,z0,z0,z0,z0,z0,z0,z0,z0,(D.list 1 (some 1) [(D.v (.int .u8 (3 : Int))),w1,w2,w4,z0,z0,z0,z0,z0,z0,z0,z0,z0,z0,z0,z0,z0]),n0l])]
def Zwh : D := (D.agg [zI,(D.v (.int .u8 (3 : Int))),w1,w2,w3,z0,z0,z0,z0,z0,z0,z0,z0,z0,z0,z0,z0,z0,(D.list 1 (some 1) [(D.v (.int .u8 (3 : Int))),w1,w2,w4,z0,z0,z0,z0,z0,z0,z0,z0,z0,z0,z0,z0,z0]),n0l])
def Zwi : List D := [(D.agg [(D.v (.int .i64 (1 : Int))),(D.v (.int .u8 (3 : Int))),w1,w2,w4,z0,z0,z0,z0,z0,z0,z0,z0,z0,z0,z0,z0,z0,(D.list 1 (some 1) [(D.v (.int .u8 (3 : Int))),w1,w2,w4,z0,z0,z0,z0,z0,z0,z0,z0,z0,z0,z0,z0,z0]),n0l])]
def Zwj : D := (D.agg [(D.v (.int .i64 (1 : Int))),(D.v (.int .u8 (3 : Int))),w1,w2,w4,z0,z0,z0,z0,z0,z0,z0,z0,z0,z0,z0,z0,z0,(D.list 1 (some 1) [(D.v (.int .u8 (3 : Int))),w1,w2,w4,z0,z0,z0,z0,z0,z0,z0,z0,z0,z0,z0,z0,z0]),n0l])
theorem Z185 : funD Tg Z50 100000 60 Zt Tryz.f150 Zwa = some Zwb := by kernel_rfl
theorem Z186 : funD Tg Z50 100000 60 Zt Tryz.f150 Zwc = some Zwd := by kernel_rfl
theorem Z187 : funD Tg Z50 100000 60 Zt Tryz.f150 Zwe = some Zwf := by kernel_rfl
theorem Z188 : funD Tg Z50 100000 60 Zt Tryz.f150 Zwg = some Zwh := by kernel_rfl
theorem Z189 : funD Tg Z50 100000 60 Zt Tryz.f150 Zwi = some Zwj := by kernel_rfl
def Zrv (ds : List D) : Option D := if isT Zwa ds then some Zwb else (if isT Zwc ds then some Zwd else (if isT Zwe ds then some Zwf else (if isT Zwg ds then some Zwh else (if isT Zwi ds then some Zwj else (none)))))
theorem td_trees_copied : ∀ ds d,Zrv ds = some d → DataSem Tg 150 ds d := by
 intro ds d h
 unfold Zrv at h
 split at h
 ·rename_i ha; obtain rfl := isT_eq ha; cases h; exact Z53 Z185
 split at h
 ·rename_i ha; obtain rfl := isT_eq ha; cases h; exact Z53 Z186
 split at h
 ·rename_i ha; obtain rfl := isT_eq ha; cases h; exact Z53 Z187
 split at h
 ·rename_i ha; obtain rfl := isT_eq ha; cases h; exact Z53 Z188
 split at h
 ·rename_i ha; obtain rfl := isT_eq ha; cases h; exact Z53 Z189
 cases h
def Z2 : FnH := ⟨[],[]⟩
theorem Z2g : Enters Tg 151 := ⟨Tryz.f151,Tryz.func151,by kernel_rfl,by kernel_rfl⟩
noncomputable def Zn : Hints := ⟨[],[(151,Tryz.f151,Z2)],[303,305,306,308,253,1000032,1000060,2000026,2000040,2000062,2000034]⟩
theorem Zu {m n : Nat} {ds : List D} {d : D} (h : funD Tg Zn m n Z2 Tryz.f151 ds = some d) : DataSem Tg 151 ds d := Z0 (H := Zn) SpOk.nil mixed (InlOk.cons Tryz.func151 Z2g InlOk.nil) Tryz.func151 Z2g h
def Zb4 : List D := [(D.list 3 none [(D.v (.int .i64 (-1 : Int))),(D.v (.int .u8 (5 : Int))),w2,w5,w29,w32,z0,z0,z0,z0,z0,z0,z0,z0,z0,z0,z0,z0,(D.list 1 (some 1) [(D.v (.int .u8 (5 : Int))),w2,w5,w29,w32,z0,z0,z0,z0,z0,z0,z0,z0,z0,z0,z0,z0]),n0l,zI,(D.v (.int .u8 (3 : Int))),w1,w2,w3,z0,z0,z0,z0,z0,z0,z0,z0,z0,z0,z0,z0,z0,(D.list 1 (some 1) [(D.v (.int .u8 (3 : Int))),w1,w2,w3,z0,z0,z0,z0,z0,z0,z0,z0,z0,z0,z0,z0,z0]),n0l,zI,(D.v (.int .u8 (5 : Int))),w2,w5,w29,w32,z0,z0,z0,z0,z0,z0,z0,z0,z0,z0,z0,z0,(D.list 1 (some 1) [(D.v (.int .u8 (5 : Int))),w2,w5,w29,w32,z0,z0,z0,z0,z0,z0,z0,z0,z0,z0,z0,z0]),n0l])]
def Zb5 : D := (D.list 3 (some 3) [(D.v (.int .i64 (-1 : Int))),(D.v (.int .u8 (5 : Int))),w2,w5,w29,w32,z0,z0,z0,z0,z0,z0,z0,z0,z0,z0,z0,z0,(D.list 1 (some 1) [(D.v (.int .u8 (5 : Int))),w2,w5,w29,w32,z0,z0,z0,z0,z0,z0,z0,z0,z0,z0,z0,z0]),n0l,zI,(D.v (.int .u8 (3 : Int))),w1,w2,w3,z0,z0,z0,z0,z0,z0,z0,z0,z0,z0,z0,z0,z0,(D.list 1 (some 1) [(D.v (.int .u8 (3 : Int))),w1,w2,w3,z0,z0,z0,z0,z0,z0,z0,z0,z0,z0,z0,z0,z0]),n0l,zI,(D.v (.int .u8 (5 : Int))),w2,w5,w29,w32,z0,z0,z0,z0,z0,z0,z0,z0,z0,z0,z0,z0,(D.list 1 (some 1) [(D.v (.int .u8 (5 : Int))),w2,w5,w29,w32,z0,z0,z0,z0,z0,z0,z0,z0,z0,z0,z0,z0]),n0l])
def Zb6 : List D := [(D.list 3 none [(D.v (.int .i64 (-1 : Int))),(D.v (.int .u8 (5 : Int))),w2,w5,w29,w32,z0,z0,z0,z0,z0,z0,z0,z0,z0,z0,z0,z0,(D.list 1 (some 1) [(D.v (.int .u8 (5 : Int))),w2,w5,w29,w32,z0,z0,z0,z0,z0,z0,z0,z0,z0,z0,z0,z0]),n0l,zI,(D.v (.int .u8 (3 : Int))),w1,w2,w3,z0,z0,z0,z0,z0,z0,z0,z0,z0,z0,z0,z0,z0,(D.list 1 (some 1) [(D.v (.int .u8 (3 : Int))),w1,w2,w4,z0,z0,z0,z0,z0,z0,z0,z0,z0,z0,z0,z0,z0]),n0l,(D.v (.int .i64 (1 : Int))),(D.v (.int .u8 (3 : Int))),w1,w2,w4,z0,z0,z0,z0,z0,z0,z0,z0,z0,z0,z0,z0,z0,(D.list 1 (some 1) [(D.v (.int .u8 (3 : Int))),w1,w2,w4,z0,z0,z0,z0,z0,z0,z0,z0,z0,z0,z0,z0,z0]),n0l])]
def Zb7 : D := (D.list 3 (some 3) [(D.v (.int .i64 (-1 : Int))),(D.v (.int .u8 (5 : Int))),w2,w5,w29,w32,z0,z0,z0,z0,z0,z0,z0,z0,z0,z0,z0,z0,(D.list 1 (some 1) [(D.v (.int .u8 (5 : Int))),w2,w5,w29,w32,z0,z0,z0,z0,z0,z0,z0,z0,z0,z0,z0,z0]),n0l,zI,(D.v (.int .u8 (3 : Int))),w1,w2,w3,z0,z0,z0,z0,z0,z0,z0,z0,z0,z0,z0,z0,z0,(D.list 1 (some 1) [(D.v (.int .u8 (3 : Int))),w1,w2,w4,z0,z0,z0,z0,z0,z0,z0,z0,z0,z0,z0,z0,z0]),n0l,(D.v (.int .i64 (1 : Int))),(D.v (.int .u8 (3 : Int))),w1,w2,w4,z0,z0,z0,z0,z0,z0,z0,z0,z0,z0,z0,z0,z0,(D.list 1 (some 1) [(D.v (.int .u8 (3 : Int))),w1,w2,w4,z0,z0,z0,z0,z0,z0,z0,z0,z0,z0,z0,z0,z0]),n0l])
def Zb8 : List D := [(D.list 1 none [(D.v (.int .i64 (-1 : Int))),(D.v (.int .u8 (5 : Int))),w2,w5,w29,w32,z0,z0,z0,z0,z0,z0,z0,z0,z0,z0,z0,z0,(D.list 1 (some 1) [(D.v (.int .u8 (5 : Int))),w2,w5,w29,w32,z0,z0,z0,z0,z0,z0,z0,z0,z0,z0,z0,z0]),n0l])]
def Zb9 : D := (D.list 1 (some 1) [(D.v (.int .i64 (-1 : Int))),(D.v (.int .u8 (5 : Int))),w2,w5,w29,w32,z0,z0,z0,z0,z0,z0,z0,z0,z0,z0,z0,z0,(D.list 1 (some 1) [(D.v (.int .u8 (5 : Int))),w2,w5,w29,w32,z0,z0,z0,z0,z0,z0,z0,z0,z0,z0,z0,z0]),n0l])
def Zba : List D := [(D.list 3 none [(D.v (.int .i64 (-1 : Int))),(D.v (.int .u8 (5 : Int))),w2,w5,w29,w32,z0,z0,z0,z0,z0,z0,z0,z0,z0,z0,z0,z0,(D.list 1 (some 1) [(D.v (.int .u8 (5 : Int))),w2,w5,w29,w32,z0,z0,z0,z0,z0,z0,z0,z0,z0,z0,z0,z0]),n0l,zI,(D.v (.int .u8 (3 : Int))),w1,w2,w3,z0,z0,z0,z0,z0,z0,z0,z0,z0,z0,z0,z0,z0,(D.list 1 (some 1) [(D.v (.int .u8 (3 : Int))),w1,w2,w4,z0,z0,z0,z0,z0,z0,z0,z0,z0,z0,z0,z0,z0]),n0l,zI,(D.v (.int .u8 (5 : Int))),w2,w5,w29,w32,z0,z0,z0,z0,z0,z0,z0,z0,z0,z0,z0,z0,(D.list 1 (some 1) [(D.v (.int .u8 (5 : Int))),w2,w5,w29,w32,z0,z0,z0,z0,z0,z0,z0,z0,z0,z0,z0,z0]),n0l])]
def Zbb : D := (D.list 3 (some 3) [(D.v (.int .i64 (-1 : Int))),(D.v (.int .u8 (5 : Int))),w2,w5,w29,w32,z0,z0,z0,z0,z0,z0,z0,z0,z0,z0,z0,z0,(D.list 1 (some 1) [(D.v (.int .u8 (5 : Int))),w2,w5,w29,w32,z0,z0,z0,z0,z0,z0,z0,z0,z0,z0,z0,z0]),n0l,zI,(D.v (.int .u8 (3 : Int))),w1,w2,w3,z0,z0,z0,z0,z0,z0,z0,z0,z0,z0,z0,z0,z0,(D.list 1 (some 1) [(D.v (.int .u8 (3 : Int))),w1,w2,w4,z0,z0,z0,z0,z0,z0,z0,z0,z0,z0,z0,z0,z0]),n0l,zI,(D.v (.int .u8 (5 : Int))),w2,w5,w29,w32,z0,z0,z0,z0,z0,z0,z0,z0,z0,z0,z0,z0,(D.list 1 (some 1) [(D.v (.int .u8 (5 : Int))),w2,w5,w29,w32,z0,z0,z0,z0,z0,z0,z0,z0,z0,z0,z0,z0]),n0l])
def Zbc : List D := [(D.list 2 none [(D.v (.int .i64 (-1 : Int))),(D.v (.int .u8 (5 : Int))),w2,w5,w29,w32,z0,z0,z0,z0,z0,z0,z0,z0,z0,z0,z0,z0,(D.list 1 (some 1) [(D.v (.int .u8 (5 : Int))),w2,w5,w29,w32,z0,z0,z0,z0,z0,z0,z0,z0,z0,z0,z0,z0]),n0l,zI,(D.v (.int .u8 (5 : Int))),w2,w5,w29,w32,z0,z0,z0,z0,z0,z0,z0,z0,z0,z0,z0,z0,(D.list 1 (some 1) [(D.v (.int .u8 (5 : Int))),w2,w5,w29,w32,z0,z0,z0,z0,z0,z0,z0,z0,z0,z0,z0,z0]),n0l])]
def Zbd : D := (D.list 2 (some 2) [(D.v (.int .i64 (-1 : Int))),(D.v (.int .u8 (5 : Int))),w2,w5,w29,w32,z0,z0,z0,z0,z0,z0,z0,z0,z0,z0,z0,z0,(D.list 1 (some 1) [(D.v (.int .u8 (5 : Int))),w2,w5,w29,w32,z0,z0,z0,z0,z0,z0,z0,z0,z0,z0,z0,z0]),n0l,zI,(D.v (.int .u8 (5 : Int))),w2,w5,w29,w32,z0,z0,z0,z0,z0,z0,z0,z0,z0,z0,z0,z0,(D.list 1 (some 1) [(D.v (.int .u8 (5 : Int))),w2,w5,w29,w32,z0,z0,z0,z0,z0,z0,z0,z0,z0,z0,z0,z0]),n0l])
def Zbe : List D := [(D.list 3 none [(D.v (.int .i64 (-1 : Int))),(D.v (.int .u8 (5 : Int))),w2,w5,w29,w32,z0,z0,z0,z0,z0,z0,z0,z0,z0,z0,z0,z0,(D.list 1 (some 1) [(D.v (.int .u8 (5 : Int))),w2,w5,w29,w32,z0,z0,z0,z0,z0,z0,z0,z0,z0,z0,z0,z0]),n0l,zI,(D.v (.int .u8 (5 : Int))),w2,w5,w29,w32,z0,z0,z0,z0,z0,z0,z0,z0,z0,z0,z0,z0,(D.list 1 (some 1) [(D.v (.int .u8 (5 : Int))),w2,w5,w29,w32,z0,z0,z0,z0,z0,z0,z0,z0,z0,z0,z0,z0]),n0l,(D.v (.int .i64 (1 : Int))),(D.v (.int .u8 (3 : Int))),w1,w2,w4,z0,z0,z0,z0,z0,z0,z0,z0,z0,z0,z0,z0,z0,(D.list 1 (some 1) [(D.v (.int .u8 (3 : Int))),w1,w2,w4,z0,z0,z0,z0,z0,z0,z0,z0,z0,z0,z0,z0,z0]),n0l])]
def Zbf : D := (D.list 3 (some 3) [(D.v (.int .i64 (-1 : Int))),(D.v (.int .u8 (5 : Int))),w2,w5,w29,w32,z0,z0,z0,z0,z0,z0,z0,z0,z0,z0,z0,z0,(D.list 1 (some 1) [(D.v (.int .u8 (5 : Int))),w2,w5,w29,w32,z0,z0,z0,z0,z0,z0,z0,z0,z0,z0,z0,z0]),n0l,zI,(D.v (.int .u8 (5 : Int))),w2,w5,w29,w32,z0,z0,z0,z0,z0,z0,z0,z0,z0,z0,z0,z0,(D.list 1 (some 1) [(D.v (.int .u8 (5 : Int))),w2,w5,w29,w32,z0,z0,z0,z0,z0,z0,z0,z0,z0,z0,z0,z0]),n0l,(D.v (.int .i64 (1 : Int))),(D.v (.int .u8 (3 : Int))),w1,w2,w4,z0,z0,z0,z0,z0,z0,z0,z0,z0,z0,z0,z0,z0,(D.list 1 (some 1) [(D.v (.int .u8 (3 : Int))),w1,w2,w4,z0,z0,z0,z0,z0,z0,z0,z0,z0,z0,z0,z0,z0]),n0l])
def Zbg : List D := [(D.list 0 none [])]
def Zbh : D := n0l
theorem Zrw : funD Tg Zn 100000 60 Z2 Tryz.f151 Zb4 = some Zb5 := by kernel_rfl
theorem Zrx : funD Tg Zn 100000 60 Z2 Tryz.f151 Zb6 = some Zb7 := by kernel_rfl
theorem Zry : funD Tg Zn 100000 60 Z2 Tryz.f151 Zb8 = some Zb9 := by kernel_rfl
theorem Zrz : funD Tg Zn 100000 60 Z2 Tryz.f151 Zba = some Zbb := by kernel_rfl
theorem Zs0 : funD Tg Zn 100000 60 Z2 Tryz.f151 Zbc = some Zbd := by kernel_rfl
theorem Zs1 : funD Tg Zn 100000 60 Z2 Tryz.f151 Zbe = some Zbf := by kernel_rfl
theorem Zs2 : funD Tg Zn 100000 60 Z2 Tryz.f151 Zbg = some Zbh := by kernel_rfl
def Z6h (ds : List D) : Option D := if isT Zb4 ds then some Zb5 else (if isT Zb6 ds then some Zb7 else (if isT Zb8 ds then some Zb9 else (if isT Zba ds then some Zbb else (if isT Zbc ds then some Zbd else (if isT Zbe ds then some Zbf else (if isT Zbg ds then some Zbh else (none)))))))
theorem td_trees_clone_trees_Node : ∀ ds d,Z6h ds = some d → DataSem Tg 151 ds d := by
 intro ds d h
 unfold Z6h at h
 split at h
 ·rename_i ha; obtain rfl := isT_eq ha; cases h; exact Zu Zrw
 split at h
 ·rename_i ha; obtain rfl := isT_eq ha; cases h; exact Zu Zrx
 split at h
 ·rename_i ha; obtain rfl := isT_eq ha; cases h; exact Zu Zry
 split at h
 ·rename_i ha; obtain rfl := isT_eq ha; cases h; exact Zu Zrz
 split at h
 ·rename_i ha; obtain rfl := isT_eq ha; cases h; exact Zu Zs0
 split at h
 ·rename_i ha; obtain rfl := isT_eq ha; cases h; exact Zu Zs1
 split at h
 ·rename_i ha; obtain rfl := isT_eq ha; cases h; exact Zu Zs2
 cases h
end Go.Ev