/- Closed calls of the program at the two qualifiers of the examples. No conditions. -/
import Derived.Test.YtkefahdbckjajaaGreatDoorEzI
set_option linter.unusedVariables false
set_option maxRecDepth 1000000
namespace Go.Ev
open Go Go.Proofs
def Z4f : FnH := ⟨[],[]⟩
def Zqk : FnH := ⟨[],[]⟩
def Zne : FnH := ⟨[(6,⟨(bm 1924145348608 47),[(38,1)],none⟩)],[]⟩
theorem Z8o : Enters Tg 154 := ⟨Tryz.f154,Tryz.func154,by kernel_rfl,by kernel_rfl⟩
theorem Zql : Enters Tg 128 := ⟨Tryz.f128,Tryz.func128,by kernel_rfl,by kernel_rfl⟩
theorem Znf : Enters Tg 109 := ⟨Tryz.f109,Tryz.func109,by kernel_rfl,by kernel_rfl⟩
noncomputable def Zen : Hints := ⟨[],[(154,Tryz.f154,Z4f),(128,Tryz.f128,Zqk),(109,Tryz.f109,Zne)],[233,235,236,238,183]⟩
theorem Zm8 {m n : Nat} {ds : List D} {d : D} (h : funD Tg Zen m n Z4f Tryz.f154 ds = some d) : DataSem Tg 154 ds d := Z8 (H := Zen) SpOk.nil mixed (InlOk.cons Tryz.func154 Z8o (InlOk.cons Tryz.func128 Zql (InlOk.cons Tryz.func109 Znf InlOk.nil))) Tryz.func154 Z8o h
def Zqx : List D := [(D.v (.int .u8 (1 : Int)))]
def Zqy : D := (D.agg [(D.v (.int .u8 (9 : Int))),(D.v (.int .u32 (1 : Int))),(D.v (.int .u32 (3 : Int))),(D.v (.int .u32 (6 : Int))),(D.v (.int .u32 (1 : Int))),(D.v (.int .u32 (5 : Int))),(D.v (.int .u32 (5 : Int))),(D.v (.int .u32 (7 : Int))),(D.v (.int .u32 (2 : Int))),(D.v (.int .u32 (1 : Int))),zU,zU,zU,zU,zU,zU,zU])
def Zqz : List D := [(D.v (.int .u8 (2 : Int)))]
def Zr0 : D := (D.agg [(D.v (.int .u8 (9 : Int))),(D.v (.int .u32 (1 : Int))),(D.v (.int .u32 (3 : Int))),(D.v (.int .u32 (6 : Int))),(D.v (.int .u32 (1 : Int))),(D.v (.int .u32 (5 : Int))),(D.v (.int .u32 (5 : Int))),(D.v (.int .u32 (7 : Int))),(D.v (.int .u32 (2 : Int))),(D.v (.int .u32 (2 : Int))),zU,zU,zU,zU,zU,zU,zU])
theorem Z11x : funD Tg Zen 100000 60 Z4f Tryz.f154 Zqx = some Zqy := by kernel_rfl
theorem Z11y : funD Tg Zen 100000 60 Z4f Tryz.f154 Zqz = some Zr0 := by kernel_rfl
def Zgs (ds : List D) : Option D := if isT Zqx ds then some Zqy else (if isT Zqz ds then some Zr0 else (none))
theorem Zux : ∀ ds d,Zgs ds = some d → DataSem Tg 154 ds d := by
  intro ds d h
  unfold Zgs at h
  split at h
  · rename_i ha; obtain rfl := isT_eq ha; cases h; exact Zm8 Z11x
  split at h
  · rename_i ha; obtain rfl := isT_eq ha; cases h; exact Zm8 Z11y
  cases h

def Z3m : FnH := ⟨[],[]⟩
def Zcb : FnH := ⟨[(6,⟨(bm 524368 30),[(6,1)],none⟩)],[]⟩
def Zay : FnH := ⟨[],[]⟩
def Zbo : FnH := ⟨[],[]⟩
def Zaz : FnH := ⟨[],[]⟩
def Z9s : FnH := ⟨[],[]⟩
def Z8v : FnH := ⟨[],[]⟩
def Zcc : FnH := ⟨[],[]⟩
def Z8b : FnH := ⟨[],[]⟩
def Z8w : FnH := ⟨[],[]⟩
def Z9b : FnH := ⟨[],[]⟩
def Zb0 : FnH := ⟨[(38,⟨(bm 47890485652059026823698344598447161988085597568237568 187),[],none⟩),(5,⟨(bm 1923 187),[],none⟩),(12,⟨(bm 6019 187),[],none⟩),(25,⟨(bm 50049 187),[],none⟩),(29,⟨(bm 115585 187),[],none⟩)],[]⟩
def Zb1 : FnH := ⟨[],[]⟩
def Z8x : FnH := ⟨[],[]⟩
def Zdr : FnH := ⟨[],[]⟩
def Zcd : FnH := ⟨[],[]⟩
def Zce : FnH := ⟨[],[]⟩
def Zcf : FnH := ⟨[],[]⟩
def Zae : FnH := ⟨[],[]⟩
def Z4i : FnH := ⟨[(2,⟨(bm 387 19),[],none⟩)],[]⟩
def Z9c : FnH := ⟨[(4,⟨(bm 2052 20),[],none⟩)],[]⟩
def Zbp : FnH := ⟨[(1,⟨(bm 1 169),[],none⟩),(9,⟨(bm 1 169),[],none⟩)],[]⟩
def Zbq : FnH := ⟨[],[]⟩
def Z8y : FnH := ⟨[],[]⟩
theorem Z5g : Enters Tg 193 := ⟨Tryz.f193,Tryz.func193,by kernel_rfl,by kernel_rfl⟩
theorem Zcg : Enters Tg 209 := ⟨Tryz.f209,Tryz.func209,by kernel_rfl,by kernel_rfl⟩
theorem Zb2 : Enters Tg 219 := ⟨Tryz.f219,Tryz.func219,by kernel_rfl,by kernel_rfl⟩
theorem Zbr : Enters Tg 226 := ⟨Tryz.f226,Tryz.func226,by kernel_rfl,by kernel_rfl⟩
theorem Zb3 : Enters Tg 229 := ⟨Tryz.f229,Tryz.func229,by kernel_rfl,by kernel_rfl⟩
theorem Z9t : Enters Tg 232 := ⟨Tryz.f232,Tryz.func232,by kernel_rfl,by kernel_rfl⟩
theorem Z8z : Enters Tg 237 := ⟨Tryz.f237,Tryz.func237,by kernel_rfl,by kernel_rfl⟩
theorem Zch : Enters Tg 233 := ⟨Tryz.f233,Tryz.func233,by kernel_rfl,by kernel_rfl⟩
theorem Z8c : Enters Tg 238 := ⟨Tryz.f238,Tryz.func238,by kernel_rfl,by kernel_rfl⟩
theorem Z90 : Enters Tg 234 := ⟨Tryz.f234,Tryz.func234,by kernel_rfl,by kernel_rfl⟩
theorem Z9d : Enters Tg 239 := ⟨Tryz.f239,Tryz.func239,by kernel_rfl,by kernel_rfl⟩
theorem Zb4 : Enters Tg 240 := ⟨Tryz.f240,Tryz.func240,by kernel_rfl,by kernel_rfl⟩
theorem Zb5 : Enters Tg 241 := ⟨Tryz.f241,Tryz.func241,by kernel_rfl,by kernel_rfl⟩
theorem Z91 : Enters Tg 245 := ⟨Tryz.f245,Tryz.func245,by kernel_rfl,by kernel_rfl⟩
theorem Zds : Enters Tg 242 := ⟨Tryz.f242,Tryz.func242,by kernel_rfl,by kernel_rfl⟩
theorem Zci : Enters Tg 243 := ⟨Tryz.f243,Tryz.func243,by kernel_rfl,by kernel_rfl⟩
theorem Zcj : Enters Tg 235 := ⟨Tryz.f235,Tryz.func235,by kernel_rfl,by kernel_rfl⟩
theorem Zck : Enters Tg 236 := ⟨Tryz.f236,Tryz.func236,by kernel_rfl,by kernel_rfl⟩
theorem Zaf : Enters Tg 231 := ⟨Tryz.f231,Tryz.func231,by kernel_rfl,by kernel_rfl⟩
theorem Z4j : Enters Tg 230 := ⟨Tryz.f230,Tryz.func230,by kernel_rfl,by kernel_rfl⟩
theorem Z9e : Enters Tg 227 := ⟨Tryz.f227,Tryz.func227,by kernel_rfl,by kernel_rfl⟩
theorem Zbs : Enters Tg 163 := ⟨Tryz.f163,Tryz.func163,by kernel_rfl,by kernel_rfl⟩
theorem Zbt : Enters Tg 189 := ⟨Tryz.f189,Tryz.func189,by kernel_rfl,by kernel_rfl⟩
theorem Z92 : Enters Tg 171 := ⟨Tryz.f171,Tryz.func171,by kernel_rfl,by kernel_rfl⟩
noncomputable def Zag : Hints := ⟨[],[(193,Tryz.f193,Z3m),(209,Tryz.f209,Zcb),(219,Tryz.f219,Zay),(226,Tryz.f226,Zbo),(229,Tryz.f229,Zaz),(232,Tryz.f232,Z9s),(237,Tryz.f237,Z8v),(233,Tryz.f233,Zcc),(238,Tryz.f238,Z8b),(234,Tryz.f234,Z8w),(239,Tryz.f239,Z9b),(240,Tryz.f240,Zb0),(241,Tryz.f241,Zb1),(245,Tryz.f245,Z8x),(242,Tryz.f242,Zdr),(243,Tryz.f243,Zcd),(235,Tryz.f235,Zce),(236,Tryz.f236,Zcf),(231,Tryz.f231,Zae),(230,Tryz.f230,Z4i),(227,Tryz.f227,Z9c),(163,Tryz.f163,Zbp),(189,Tryz.f189,Zbq),(171,Tryz.f171,Z8y)],[233,235,236,238,183]⟩
theorem Zpm {m n : Nat} {ds : List D} {d : D} (h : funD Tg Zag m n Z3m Tryz.f193 ds = some d) : DataSem Tg 193 ds d := Z8 (H := Zag) SpOk.nil mixed (InlOk.cons Tryz.func193 Z5g (InlOk.cons Tryz.func209 Zcg (InlOk.cons Tryz.func219 Zb2 (InlOk.cons Tryz.func226 Zbr (InlOk.cons Tryz.func229 Zb3 (InlOk.cons Tryz.func232 Z9t (InlOk.cons Tryz.func237 Z8z (InlOk.cons Tryz.func233 Zch (InlOk.cons Tryz.func238 Z8c (InlOk.cons Tryz.func234 Z90 (InlOk.cons Tryz.func239 Z9d (InlOk.cons Tryz.func240 Zb4 (InlOk.cons Tryz.func241 Zb5 (InlOk.cons Tryz.func245 Z91 (InlOk.cons Tryz.func242 Zds (InlOk.cons Tryz.func243 Zci (InlOk.cons Tryz.func235 Zcj (InlOk.cons Tryz.func236 Zck (InlOk.cons Tryz.func231 Zaf (InlOk.cons Tryz.func230 Z4j (InlOk.cons Tryz.func227 Z9e (InlOk.cons Tryz.func163 Zbs (InlOk.cons Tryz.func189 Zbt (InlOk.cons Tryz.func171 Z92 InlOk.nil)))))))))))))))))))))))) Tryz.func193 Z5g h
def Zhx : List D := [(D.agg [(D.v (.int .u32 (12 : Int))),(D.v (.string (ByteArray.mk #[98])))])]
def Zhy : D := (D.tup [(D.agg [(D.v (.int .u8 (0 : Int))),(D.v (.bool false)),(D.v (.int .u32 (12 : Int))),(D.list 1 (some 1) [(D.v (.int .u8 (98 : Int)))]),(D.list 0 (some 0) [])]),zI])
theorem Zsy : funD Tg Zag 100000 60 Z3m Tryz.f193 Zhx = some Zhy := by kernel_rfl
def Z7x (ds : List D) : Option D := if isT Zhx ds then some Zhy else (none)
theorem Zkp : ∀ ds d,Z7x ds = some d → DataSem Tg 193 ds d := by
  intro ds d h
  unfold Z7x at h
  split at h
  · rename_i ha; obtain rfl := isT_eq ha; cases h; exact Zpm Zsy
  cases h

def Z4c : FnH := ⟨[],[]⟩
def Zcl : FnH := ⟨[],[]⟩
def Zdt : FnH := ⟨[],[]⟩
def Zcm : FnH := ⟨[],[]⟩
def Zb6 : FnH := ⟨[],[]⟩
def Z9u : FnH := ⟨[],[]⟩
def Zeo : FnH := ⟨[],[]⟩
def Z93 : FnH := ⟨[],[]⟩
def Z9v : FnH := ⟨[],[]⟩
def Zah : FnH := ⟨[],[]⟩
def Zcn : FnH := ⟨[(38,⟨(bm 47890485652059026823698344598447161988085597568237568 187),[],none⟩),(5,⟨(bm 1923 187),[],none⟩),(12,⟨(bm 6019 187),[],none⟩),(25,⟨(bm 50049 187),[],none⟩),(29,⟨(bm 115585 187),[],none⟩)],[]⟩
def Zco : FnH := ⟨[],[]⟩
def Z9w : FnH := ⟨[],[]⟩
def Zfk : FnH := ⟨[],[]⟩
def Zep : FnH := ⟨[],[]⟩
def Zeq : FnH := ⟨[],[]⟩
def Zer : FnH := ⟨[],[]⟩
def Zbu : FnH := ⟨[],[]⟩
def Z4l : FnH := ⟨[(2,⟨(bm 387 19),[],none⟩)],[]⟩
def Zai : FnH := ⟨[(4,⟨(bm 2052 20),[],none⟩)],[]⟩
def Zdu : FnH := ⟨[(1,⟨(bm 1 169),[],none⟩),(9,⟨(bm 1 169),[],none⟩)],[]⟩
def Zdv : FnH := ⟨[],[]⟩
theorem Z6c : Enters Tg 207 := ⟨Tryz.f207,Tryz.func207,by kernel_rfl,by kernel_rfl⟩
theorem Zcp : Enters Tg 219 := ⟨Tryz.f219,Tryz.func219,by kernel_rfl,by kernel_rfl⟩
theorem Zdw : Enters Tg 226 := ⟨Tryz.f226,Tryz.func226,by kernel_rfl,by kernel_rfl⟩
theorem Zcq : Enters Tg 229 := ⟨Tryz.f229,Tryz.func229,by kernel_rfl,by kernel_rfl⟩
theorem Zb7 : Enters Tg 232 := ⟨Tryz.f232,Tryz.func232,by kernel_rfl,by kernel_rfl⟩
theorem Z9x : Enters Tg 237 := ⟨Tryz.f237,Tryz.func237,by kernel_rfl,by kernel_rfl⟩
theorem Zes : Enters Tg 233 := ⟨Tryz.f233,Tryz.func233,by kernel_rfl,by kernel_rfl⟩
theorem Z94 : Enters Tg 238 := ⟨Tryz.f238,Tryz.func238,by kernel_rfl,by kernel_rfl⟩
theorem Z9y : Enters Tg 234 := ⟨Tryz.f234,Tryz.func234,by kernel_rfl,by kernel_rfl⟩
theorem Zaj : Enters Tg 239 := ⟨Tryz.f239,Tryz.func239,by kernel_rfl,by kernel_rfl⟩
theorem Zcr : Enters Tg 240 := ⟨Tryz.f240,Tryz.func240,by kernel_rfl,by kernel_rfl⟩
theorem Zcs : Enters Tg 241 := ⟨Tryz.f241,Tryz.func241,by kernel_rfl,by kernel_rfl⟩
theorem Z9z : Enters Tg 245 := ⟨Tryz.f245,Tryz.func245,by kernel_rfl,by kernel_rfl⟩
theorem Zfl : Enters Tg 242 := ⟨Tryz.f242,Tryz.func242,by kernel_rfl,by kernel_rfl⟩
theorem Zet : Enters Tg 243 := ⟨Tryz.f243,Tryz.func243,by kernel_rfl,by kernel_rfl⟩
theorem Zeu : Enters Tg 235 := ⟨Tryz.f235,Tryz.func235,by kernel_rfl,by kernel_rfl⟩
theorem Zev : Enters Tg 236 := ⟨Tryz.f236,Tryz.func236,by kernel_rfl,by kernel_rfl⟩
theorem Zbv : Enters Tg 231 := ⟨Tryz.f231,Tryz.func231,by kernel_rfl,by kernel_rfl⟩
theorem Z4m : Enters Tg 230 := ⟨Tryz.f230,Tryz.func230,by kernel_rfl,by kernel_rfl⟩
theorem Zak : Enters Tg 227 := ⟨Tryz.f227,Tryz.func227,by kernel_rfl,by kernel_rfl⟩
theorem Zdx : Enters Tg 163 := ⟨Tryz.f163,Tryz.func163,by kernel_rfl,by kernel_rfl⟩
theorem Zdy : Enters Tg 189 := ⟨Tryz.f189,Tryz.func189,by kernel_rfl,by kernel_rfl⟩
noncomputable def Zdz : Hints := ⟨[],[(207,Tryz.f207,Z4c),(219,Tryz.f219,Zcl),(226,Tryz.f226,Zdt),(229,Tryz.f229,Zcm),(232,Tryz.f232,Zb6),(237,Tryz.f237,Z9u),(233,Tryz.f233,Zeo),(238,Tryz.f238,Z93),(234,Tryz.f234,Z9v),(239,Tryz.f239,Zah),(240,Tryz.f240,Zcn),(241,Tryz.f241,Zco),(245,Tryz.f245,Z9w),(242,Tryz.f242,Zfk),(243,Tryz.f243,Zep),(235,Tryz.f235,Zeq),(236,Tryz.f236,Zer),(231,Tryz.f231,Zbu),(230,Tryz.f230,Z4l),(227,Tryz.f227,Zai),(163,Tryz.f163,Zdu),(189,Tryz.f189,Zdv)],[233,235,236,238,183]⟩
theorem Zs4 {m n : Nat} {ds : List D} {d : D} (h : funD Tg Zdz m n Z4c Tryz.f207 ds = some d) : DataSem Tg 207 ds d := Z8 (H := Zdz) SpOk.nil mixed (InlOk.cons Tryz.func207 Z6c (InlOk.cons Tryz.func219 Zcp (InlOk.cons Tryz.func226 Zdw (InlOk.cons Tryz.func229 Zcq (InlOk.cons Tryz.func232 Zb7 (InlOk.cons Tryz.func237 Z9x (InlOk.cons Tryz.func233 Zes (InlOk.cons Tryz.func238 Z94 (InlOk.cons Tryz.func234 Z9y (InlOk.cons Tryz.func239 Zaj (InlOk.cons Tryz.func240 Zcr (InlOk.cons Tryz.func241 Zcs (InlOk.cons Tryz.func245 Z9z (InlOk.cons Tryz.func242 Zfl (InlOk.cons Tryz.func243 Zet (InlOk.cons Tryz.func235 Zeu (InlOk.cons Tryz.func236 Zev (InlOk.cons Tryz.func231 Zbv (InlOk.cons Tryz.func230 Z4m (InlOk.cons Tryz.func227 Zak (InlOk.cons Tryz.func163 Zdx (InlOk.cons Tryz.func189 Zdy InlOk.nil)))))))))))))))))))))) Tryz.func207 Z6c h
def Zkq : List D := [(D.agg [(D.v (.int .u32 (12 : Int))),(D.v (.string (ByteArray.mk #[98])))])]
def Zkr : D := zI
theorem Zvu : funD Tg Zdz 100000 60 Z4c Tryz.f207 Zkq = some Zkr := by kernel_rfl
def Z79 (ds : List D) : Option D := if isT Zkq ds then some Zkr else (none)
theorem Zfm : ∀ ds d,Z79 ds = some d → DataSem Tg 207 ds d := by
  intro ds d h
  unfold Z79 at h
  split at h
  · rename_i ha; obtain rfl := isT_eq ha; cases h; exact Zs4 Zvu
  cases h

def Z3w : FnH := ⟨[],[]⟩
def Z95 : FnH := ⟨[(2,⟨(bm 20 10),[],none⟩)],[]⟩
theorem Z5y : Enters Tg 208 := ⟨Tryz.f208,Tryz.func208,by kernel_rfl,by kernel_rfl⟩
theorem Z96 : Enters Tg 220 := ⟨Tryz.f220,Tryz.func220,by kernel_rfl,by kernel_rfl⟩
noncomputable def Zbw : Hints := ⟨[(207,Z79)],[(208,Tryz.f208,Z3w),(220,Tryz.f220,Z95)],[233,235,236,238,183]⟩
theorem Zqm {m n : Nat} {ds : List D} {d : D} (h : funD Tg Zbw m n Z3w Tryz.f208 ds = some d) : DataSem Tg 208 ds d := Z8 (H := Zbw) (SpOk.cons Zfm SpOk.nil) mixed (InlOk.cons Tryz.func208 Z5y (InlOk.cons Tryz.func220 Z96 InlOk.nil)) Tryz.func208 Z5y h
def Ziq : List D := [(D.agg [(D.v (.int .u32 (12 : Int))),(D.v (.string (ByteArray.mk #[98])))])]
def Zir : D := (D.v (.int .i64 (1 : Int)))
theorem Zu4 : funD Tg Zbw 100000 60 Z3w Tryz.f208 Ziq = some Zir := by kernel_rfl
def Z8d (ds : List D) : Option D := if isT Ziq ds then some Zir else (none)
theorem Zm9 : ∀ ds d,Z8d ds = some d → DataSem Tg 208 ds d := by
  intro ds d h
  unfold Z8d at h
  split at h
  · rename_i ha; obtain rfl := isT_eq ha; cases h; exact Zqm Zu4
  cases h

def Z3r : FnH := ⟨[],[]⟩
theorem Zfe : Enters Tg 215 := ⟨Tryz.f215,Tryz.func215,by kernel_rfl,by kernel_rfl⟩
noncomputable def Zbk : Hints := ⟨[],[(215,Tryz.f215,Z3r)],[233,235,236,238,183]⟩
theorem Zc2 {m n : Nat} {ds : List D} {d : D} (h : funD Tg Zbk m n Z3r Tryz.f215 ds = some d) : DataSem Tg 215 ds d := Z8 (H := Zbk) SpOk.nil mixed (InlOk.cons Tryz.func215 Zfe InlOk.nil) Tryz.func215 Zfe h
def Zwl : List D := [(D.agg [(D.v (.int .u8 (0 : Int))),(D.v (.bool true)),(D.v (.int .u32 (16 : Int)))])]
def Zwm : D := zI
def Zwn : List D := [(D.agg [(D.v (.int .u8 (0 : Int))),(D.v (.bool false)),(D.v (.int .u32 (6 : Int)))])]
def Zwo : D := zI
def Zwp : List D := [(D.agg [(D.v (.int .u8 (0 : Int))),(D.v (.bool false)),(D.v (.int .u32 (22 : Int)))])]
def Zwq : D := zI
def Zwr : List D := [(D.agg [(D.v (.int .u8 (0 : Int))),(D.v (.bool false)),(D.v (.int .u32 (12 : Int)))])]
def Zws : D := zI
theorem Z192 : funD Tg Zbk 100000 60 Z3r Tryz.f215 Zwl = some Zwm := by kernel_rfl
theorem Z193 : funD Tg Zbk 100000 60 Z3r Tryz.f215 Zwn = some Zwo := by kernel_rfl
theorem Z194 : funD Tg Zbk 100000 60 Z3r Tryz.f215 Zwp = some Zwq := by kernel_rfl
theorem Z195 : funD Tg Zbk 100000 60 Z3r Tryz.f215 Zwr = some Zws := by kernel_rfl
def Zew (ds : List D) : Option D := if isT Zwl ds then some Zwm else (if isT Zwn ds then some Zwo else (if isT Zwp ds then some Zwq else (if isT Zwr ds then some Zws else (none))))
theorem Zoh : ∀ ds d,Zew ds = some d → DataSem Tg 215 ds d := by
  intro ds d h
  unfold Zew at h
  split at h
  · rename_i ha; obtain rfl := isT_eq ha; cases h; exact Zc2 Z192
  split at h
  · rename_i ha; obtain rfl := isT_eq ha; cases h; exact Zc2 Z193
  split at h
  · rename_i ha; obtain rfl := isT_eq ha; cases h; exact Zc2 Z194
  split at h
  · rename_i ha; obtain rfl := isT_eq ha; cases h; exact Zc2 Z195
  cases h

def Z4n : FnH := ⟨[],[]⟩
def Zct : FnH := ⟨[],[]⟩
def Zcu : FnH := ⟨[(4,⟨(bm 14336 24),[(11,1)],none⟩)],[]⟩
def Zcv : FnH := ⟨[],[]⟩
def Zal : FnH := ⟨[],[]⟩
def Zcw : FnH := ⟨[],[]⟩
def Ze0 : FnH := ⟨[],[]⟩
def Zb8 : FnH := ⟨[],[]⟩
def Z7h : FnH := ⟨[],[]⟩
def Z8e : FnH := ⟨[(2,⟨(bm 387 19),[],none⟩)],[]⟩
def Za0 : FnH := ⟨[(8,⟨(bm 3758096566 83),[(29,1)],none⟩)],[]⟩
def Zg6 : FnH := ⟨[(3,⟨(bm 73 25),[],none⟩),(8,⟨(bm 32 25),[(5,1)],none⟩)],[]⟩
def Zbx : FnH := ⟨[],[]⟩
def Z6n : FnH := ⟨[],[]⟩
def Zcx : FnH := ⟨[],[]⟩
def Zcy : FnH := ⟨[],[]⟩
def Zke : FnH := ⟨[(6,⟨(bm 1924145348608 47),[(38,1)],none⟩)],[]⟩
def Zi6 : FnH := ⟨[],[]⟩
def Zh6 : FnH := ⟨[],[]⟩
def Zfn : FnH := ⟨[],[]⟩
def Z9f : FnH := ⟨[(25,⟨(bm 16655 151),[],none⟩)],[]⟩
def Zma : FnH := ⟨[],[]⟩
def Zis : FnH := ⟨[(3,⟨(bm 13 43),[],none⟩)],[]⟩
def Zit : FnH := ⟨[],[]⟩
def Ziu : FnH := ⟨[],[]⟩
def Zcz : FnH := ⟨[],[]⟩
theorem Z70 : Enters Tg 152 := ⟨Tryz.f152,Tryz.func152,by kernel_rfl,by kernel_rfl⟩
theorem Zd0 : Enters Tg 168 := ⟨Tryz.f168,Tryz.func168,by kernel_rfl,by kernel_rfl⟩
theorem Zd1 : Enters Tg 169 := ⟨Tryz.f169,Tryz.func169,by kernel_rfl,by kernel_rfl⟩
theorem Zd2 : Enters Tg 170 := ⟨Tryz.f170,Tryz.func170,by kernel_rfl,by kernel_rfl⟩
theorem Zam : Enters Tg 171 := ⟨Tryz.f171,Tryz.func171,by kernel_rfl,by kernel_rfl⟩
theorem Zd3 : Enters Tg 172 := ⟨Tryz.f172,Tryz.func172,by kernel_rfl,by kernel_rfl⟩
theorem Ze1 : Enters Tg 173 := ⟨Tryz.f173,Tryz.func173,by kernel_rfl,by kernel_rfl⟩
theorem Zb9 : Enters Tg 192 := ⟨Tryz.f192,Tryz.func192,by kernel_rfl,by kernel_rfl⟩
theorem Z7i : Enters Tg 206 := ⟨Tryz.f206,Tryz.func206,by kernel_rfl,by kernel_rfl⟩
theorem Z8f : Enters Tg 218 := ⟨Tryz.f218,Tryz.func218,by kernel_rfl,by kernel_rfl⟩
theorem Za1 : Enters Tg 174 := ⟨Tryz.f174,Tryz.func174,by kernel_rfl,by kernel_rfl⟩
theorem Zg7 : Enters Tg 194 := ⟨Tryz.f194,Tryz.func194,by kernel_rfl,by kernel_rfl⟩
theorem Zby : Enters Tg 210 := ⟨Tryz.f210,Tryz.func210,by kernel_rfl,by kernel_rfl⟩
theorem Z6o : Enters Tg 195 := ⟨Tryz.f195,Tryz.func195,by kernel_rfl,by kernel_rfl⟩
theorem Zd4 : Enters Tg 175 := ⟨Tryz.f175,Tryz.func175,by kernel_rfl,by kernel_rfl⟩
theorem Zd5 : Enters Tg 176 := ⟨Tryz.f176,Tryz.func176,by kernel_rfl,by kernel_rfl⟩
theorem Zkf : Enters Tg 109 := ⟨Tryz.f109,Tryz.func109,by kernel_rfl,by kernel_rfl⟩
theorem Zi7 : Enters Tg 177 := ⟨Tryz.f177,Tryz.func177,by kernel_rfl,by kernel_rfl⟩
theorem Zh7 : Enters Tg 196 := ⟨Tryz.f196,Tryz.func196,by kernel_rfl,by kernel_rfl⟩
theorem Zfo : Enters Tg 211 := ⟨Tryz.f211,Tryz.func211,by kernel_rfl,by kernel_rfl⟩
theorem Z9g : Enters Tg 212 := ⟨Tryz.f212,Tryz.func212,by kernel_rfl,by kernel_rfl⟩
theorem Zmb : Enters Tg 221 := ⟨Tryz.f221,Tryz.func221,by kernel_rfl,by kernel_rfl⟩
theorem Ziv : Enters Tg 228 := ⟨Tryz.f228,Tryz.func228,by kernel_rfl,by kernel_rfl⟩
theorem Ziw : Enters Tg 222 := ⟨Tryz.f222,Tryz.func222,by kernel_rfl,by kernel_rfl⟩
theorem Zix : Enters Tg 223 := ⟨Tryz.f223,Tryz.func223,by kernel_rfl,by kernel_rfl⟩
theorem Zd6 : Enters Tg 178 := ⟨Tryz.f178,Tryz.func178,by kernel_rfl,by kernel_rfl⟩
noncomputable def Zfp : Hints := ⟨[(154,Zgs),(193,Z7x),(207,Z79),(208,Z8d),(215,Zew)],[(152,Tryz.f152,Z4n),(168,Tryz.f168,Zct),(169,Tryz.f169,Zcu),(170,Tryz.f170,Zcv),(171,Tryz.f171,Zal),(172,Tryz.f172,Zcw),(173,Tryz.f173,Ze0),(192,Tryz.f192,Zb8),(206,Tryz.f206,Z7h),(218,Tryz.f218,Z8e),(174,Tryz.f174,Za0),(194,Tryz.f194,Zg6),(210,Tryz.f210,Zbx),(195,Tryz.f195,Z6n),(175,Tryz.f175,Zcx),(176,Tryz.f176,Zcy),(109,Tryz.f109,Zke),(177,Tryz.f177,Zi6),(196,Tryz.f196,Zh6),(211,Tryz.f211,Zfn),(212,Tryz.f212,Z9f),(221,Tryz.f221,Zma),(228,Tryz.f228,Zis),(222,Tryz.f222,Zit),(223,Tryz.f223,Ziu),(178,Tryz.f178,Zcz)],[233,235,236,238,183]⟩
theorem Zsz {m n : Nat} {ds : List D} {d : D} (h : funD Tg Zfp m n Z4n Tryz.f152 ds = some d) : DataSem Tg 152 ds d := Z8 (H := Zfp) (SpOk.cons Zux (SpOk.cons Zkp (SpOk.cons Zfm (SpOk.cons Zm9 (SpOk.cons Zoh SpOk.nil))))) mixed (InlOk.cons Tryz.func152 Z70 (InlOk.cons Tryz.func168 Zd0 (InlOk.cons Tryz.func169 Zd1 (InlOk.cons Tryz.func170 Zd2 (InlOk.cons Tryz.func171 Zam (InlOk.cons Tryz.func172 Zd3 (InlOk.cons Tryz.func173 Ze1 (InlOk.cons Tryz.func192 Zb9 (InlOk.cons Tryz.func206 Z7i (InlOk.cons Tryz.func218 Z8f (InlOk.cons Tryz.func174 Za1 (InlOk.cons Tryz.func194 Zg7 (InlOk.cons Tryz.func210 Zby (InlOk.cons Tryz.func195 Z6o (InlOk.cons Tryz.func175 Zd4 (InlOk.cons Tryz.func176 Zd5 (InlOk.cons Tryz.func109 Zkf (InlOk.cons Tryz.func177 Zi7 (InlOk.cons Tryz.func196 Zh7 (InlOk.cons Tryz.func211 Zfo (InlOk.cons Tryz.func212 Z9g (InlOk.cons Tryz.func221 Zmb (InlOk.cons Tryz.func228 Ziv (InlOk.cons Tryz.func222 Ziw (InlOk.cons Tryz.func223 Zix (InlOk.cons Tryz.func178 Zd6 InlOk.nil)))))))))))))))))))))))))) Tryz.func152 Z70 h
def Zmc : List D := []
def Zmd : D := (D.agg [(D.v .nilFunc),(D.v .nilFunc),(D.v .nilFunc),(D.fn 168 []),(D.fn 169 []),(D.fn 170 []),(D.fn 172 []),(D.fn 173 []),(D.fn 174 []),(D.fn 175 []),(D.fn 176 []),(D.fn 178 [])])
theorem Zwt : funD Tg Zfp 100000 60 Z4n Tryz.f152 Zmc = some Zmd := by kernel_rfl
def Zh8 (ds : List D) : Option D := if isT Zmc ds then some Zmd else (none)
theorem Z105 : ∀ ds d,Zh8 ds = some d → DataSem Tg 152 ds d := by
  intro ds d h
  unfold Zh8 at h
  split at h
  · rename_i ha; obtain rfl := isT_eq ha; cases h; exact Zsz Zwt
  cases h

def Z7y : FnH := ⟨[(8,⟨(bm 939524140 43),[(2,1),(27,1),(1002000,1)],none⟩),(11,⟨(bm 939524140 43),[],none⟩)],[]⟩
def Zt0 : FnH := ⟨[(6,⟨(bm 1924145348608 47),[(38,1)],none⟩)],[]⟩
def Zu5 : FnH := ⟨[],[]⟩
def Zd7 : FnH := ⟨[],[]⟩
def Zs5 : FnH := ⟨[],[]⟩
def Zpn : FnH := ⟨[(1,⟨(bm 11 31),[],none⟩),(3,⟨(bm 11 31),[],none⟩)],[]⟩
def Zh9 : FnH := ⟨[],[]⟩
theorem Zks : Enters Tg 155 := ⟨Tryz.f155,Tryz.func155,by kernel_rfl,by kernel_rfl⟩
theorem Zt1 : Enters Tg 109 := ⟨Tryz.f109,Tryz.func109,by kernel_rfl,by kernel_rfl⟩
theorem Zu6 : Enters Tg 112 := ⟨Tryz.f112,Tryz.func112,by kernel_rfl,by kernel_rfl⟩
theorem Zd8 : Enters Tg 179 := ⟨Tryz.f179,Tryz.func179,by kernel_rfl,by kernel_rfl⟩
theorem Zs6 : Enters Tg 180 := ⟨Tryz.f180,Tryz.func180,by kernel_rfl,by kernel_rfl⟩
theorem Zpo : Enters Tg 197 := ⟨Tryz.f197,Tryz.func197,by kernel_rfl,by kernel_rfl⟩
theorem Zha : Enters Tg 171 := ⟨Tryz.f171,Tryz.func171,by kernel_rfl,by kernel_rfl⟩
noncomputable def Zr1 : Hints := ⟨[],[(155,Tryz.f155,Z7y),(109,Tryz.f109,Zt0),(112,Tryz.f112,Zu5),(179,Tryz.f179,Zd7),(180,Tryz.f180,Zs5),(197,Tryz.f197,Zpn),(171,Tryz.f171,Zh9)],[233,235,236,238,183]⟩
theorem Zuy {m n : Nat} {ds : List D} {d : D} (h : funD Tg Zr1 m n Z7y Tryz.f155 ds = some d) : DataSem Tg 155 ds d := Z8 (H := Zr1) SpOk.nil mixed (InlOk.cons Tryz.func155 Zks (InlOk.cons Tryz.func109 Zt1 (InlOk.cons Tryz.func112 Zu6 (InlOk.cons Tryz.func179 Zd8 (InlOk.cons Tryz.func180 Zs6 (InlOk.cons Tryz.func197 Zpo (InlOk.cons Tryz.func171 Zha InlOk.nil))))))) Tryz.func155 Zks h
def Z11z : List D := [(D.agg [(D.v (.int .u8 (9 : Int))),(D.v (.int .u32 (1 : Int))),(D.v (.int .u32 (3 : Int))),(D.v (.int .u32 (6 : Int))),(D.v (.int .u32 (1 : Int))),(D.v (.int .u32 (5 : Int))),(D.v (.int .u32 (5 : Int))),(D.v (.int .u32 (7 : Int))),(D.v (.int .u32 (2 : Int))),(D.v (.int .u32 (1 : Int))),zU,zU,zU,zU,zU,zU,zU])]
def Z120 : D := (D.tup [(D.list 8 (some 8) [(D.v (.int .u8 (43 : Int))),(D.v (.int .u8 (6 : Int))),(D.v (.int .u8 (1 : Int))),(D.v (.int .u8 (5 : Int))),(D.v (.int .u8 (5 : Int))),(D.v (.int .u8 (7 : Int))),(D.v (.int .u8 (2 : Int))),(D.v (.int .u8 (1 : Int)))]),zI])
def Z121 : List D := [(D.agg [(D.v (.int .u8 (9 : Int))),(D.v (.int .u32 (1 : Int))),(D.v (.int .u32 (3 : Int))),(D.v (.int .u32 (6 : Int))),(D.v (.int .u32 (1 : Int))),(D.v (.int .u32 (5 : Int))),(D.v (.int .u32 (5 : Int))),(D.v (.int .u32 (7 : Int))),(D.v (.int .u32 (2 : Int))),(D.v (.int .u32 (2 : Int))),zU,zU,zU,zU,zU,zU,zU])]
def Z122 : D := (D.tup [(D.list 8 (some 8) [(D.v (.int .u8 (43 : Int))),(D.v (.int .u8 (6 : Int))),(D.v (.int .u8 (1 : Int))),(D.v (.int .u8 (5 : Int))),(D.v (.int .u8 (5 : Int))),(D.v (.int .u8 (7 : Int))),(D.v (.int .u8 (2 : Int))),(D.v (.int .u8 (2 : Int)))]),zI])
theorem Z1dr : funD Tg Zr1 100000 60 Z7y Tryz.f155 Z11z = some Z120 := by kernel_rfl
theorem Z1ds : funD Tg Zr1 100000 60 Z7y Tryz.f155 Z121 = some Z122 := by kernel_rfl
def Z106 (ds : List D) : Option D := if isT Z11z ds then some Z120 else (if isT Z121 ds then some Z122 else (none))
theorem Z1i2 : ∀ ds d,Z106 ds = some d → DataSem Tg 155 ds d := by
  intro ds d h
  unfold Z106 at h
  split at h
  · rename_i ha; obtain rfl := isT_eq ha; cases h; exact Zuy Z1dr
  split at h
  · rename_i ha; obtain rfl := isT_eq ha; cases h; exact Zuy Z1ds
  cases h

def Z30 : FnH := ⟨[],[]⟩
def Zd9 : FnH := ⟨[],[]⟩
def Zhb : FnH := ⟨[],[]⟩
def Zfq : FnH := ⟨[(5,⟨(bm 3670026 34),[(19,5)],none⟩)],[]⟩
theorem Z71 : Enters Tg 198 := ⟨Tryz.f198,Tryz.func198,by kernel_rfl,by kernel_rfl⟩
theorem Zda : Enters Tg 214 := ⟨Tryz.f214,Tryz.func214,by kernel_rfl,by kernel_rfl⟩
theorem Zhc : Enters Tg 213 := ⟨Tryz.f213,Tryz.func213,by kernel_rfl,by kernel_rfl⟩
theorem Zfr : Enters Tg 224 := ⟨Tryz.f224,Tryz.func224,by kernel_rfl,by kernel_rfl⟩
noncomputable def Z97 : Hints := ⟨[(215,Zew)],[(198,Tryz.f198,Z30),(214,Tryz.f214,Zd9),(213,Tryz.f213,Zhb),(224,Tryz.f224,Zfq)],[233,235,236,238,183]⟩
theorem Zhz {m n : Nat} {ds : List D} {d : D} (h : funD Tg Z97 m n Z30 Tryz.f198 ds = some d) : DataSem Tg 198 ds d := Z8 (H := Z97) (SpOk.cons Zoh SpOk.nil) mixed (InlOk.cons Tryz.func198 Z71 (InlOk.cons Tryz.func214 Zda (InlOk.cons Tryz.func213 Zhc (InlOk.cons Tryz.func224 Zfr InlOk.nil)))) Tryz.func198 Z71 h
def Zme : List D := [(D.agg [(D.v (.int .u8 (0 : Int))),(D.v (.bool true)),(D.v (.int .u32 (16 : Int))),(D.list 0 (some 0) []),(D.list 2 (some 2) [(D.v (.int .u8 (0 : Int))),(D.v (.bool false)),(D.v (.int .u32 (6 : Int))),(D.list 8 (some 8) [(D.v (.int .u8 (43 : Int))),(D.v (.int .u8 (6 : Int))),(D.v (.int .u8 (1 : Int))),(D.v (.int .u8 (5 : Int))),(D.v (.int .u8 (5 : Int))),(D.v (.int .u8 (7 : Int))),(D.v (.int .u8 (2 : Int))),(D.v (.int .u8 (1 : Int)))]),(D.list 0 (some 0) []),(D.v (.int .u8 (0 : Int))),(D.v (.bool false)),(D.v (.int .u32 (22 : Int))),(D.list 8 (some 8) [(D.v (.int .u8 (104 : Int))),(D.v (.int .u8 (116 : Int))),(D.v (.int .u8 (116 : Int))),(D.v (.int .u8 (112 : Int))),(D.v (.int .u8 (58 : Int))),(D.v (.int .u8 (47 : Int))),(D.v (.int .u8 (47 : Int))),(D.v (.int .u8 (97 : Int)))]),(D.list 0 (some 0) [])])])]
def Zmf : D := (D.tup [zI,(D.v (.int .i64 (3 : Int))),(D.v (.int .i64 (2 : Int)))])
def Zmg : List D := [(D.agg [(D.v (.int .u8 (0 : Int))),(D.v (.bool true)),(D.v (.int .u32 (16 : Int))),(D.list 0 (some 0) []),(D.list 2 (some 2) [(D.v (.int .u8 (0 : Int))),(D.v (.bool false)),(D.v (.int .u32 (6 : Int))),(D.list 8 (some 8) [(D.v (.int .u8 (43 : Int))),(D.v (.int .u8 (6 : Int))),(D.v (.int .u8 (1 : Int))),(D.v (.int .u8 (5 : Int))),(D.v (.int .u8 (5 : Int))),(D.v (.int .u8 (7 : Int))),(D.v (.int .u8 (2 : Int))),(D.v (.int .u8 (2 : Int)))]),(D.list 0 (some 0) []),(D.v (.int .u8 (0 : Int))),(D.v (.bool true)),(D.v (.int .u32 (16 : Int))),(D.list 0 (some 0) []),(D.list 1 (some 1) [(D.v (.int .u8 (0 : Int))),(D.v (.bool false)),(D.v (.int .u32 (12 : Int))),(D.list 1 (some 1) [(D.v (.int .u8 (98 : Int)))]),(D.list 0 (some 0) [])])])])]
def Zmh : D := (D.tup [zI,(D.v (.int .i64 (4 : Int))),(D.v (.int .i64 (3 : Int)))])
theorem Zwu : funD Tg Z97 100000 60 Z30 Tryz.f198 Zme = some Zmf := by kernel_rfl
theorem Zwv : funD Tg Z97 100000 60 Z30 Tryz.f198 Zmg = some Zmh := by kernel_rfl
def Zhd (ds : List D) : Option D := if isT Zme ds then some Zmf else (if isT Zmg ds then some Zmh else (none))
theorem Z107 : ∀ ds d,Zhd ds = some d → DataSem Tg 198 ds d := by
  intro ds d h
  unfold Zhd at h
  split at h
  · rename_i ha; obtain rfl := isT_eq ha; cases h; exact Zhz Zwu
  split at h
  · rename_i ha; obtain rfl := isT_eq ha; cases h; exact Zhz Zwv
  cases h

def Z2g : FnH := ⟨[],[]⟩
def Zex : FnH := ⟨[],[]⟩
theorem Zc3 : Enters Tg 203 := ⟨Tryz.f203,Tryz.func203,by kernel_rfl,by kernel_rfl⟩
theorem Zey : Enters Tg 171 := ⟨Tryz.f171,Tryz.func171,by kernel_rfl,by kernel_rfl⟩
noncomputable def Z7j : Hints := ⟨[],[(203,Tryz.f203,Z2g),(171,Tryz.f171,Zex)],[233,235,236,238,183]⟩
theorem Z7k {m n : Nat} {ds : List D} {d : D} (h : funD Tg Z7j m n Z2g Tryz.f203 ds = some d) : DataSem Tg 203 ds d := Z8 (H := Z7j) SpOk.nil mixed (InlOk.cons Tryz.func203 Zc3 (InlOk.cons Tryz.func171 Zey InlOk.nil)) Tryz.func203 Zc3 h
def Zuz : List D := [(D.v (.int .i64 (8 : Int)))]
def Zv0 : D := (D.tup [(D.list 1 (some 1) [(D.v (.int .u8 (8 : Int)))]),zI])
def Zv1 : List D := [(D.v (.int .i64 (20 : Int)))]
def Zv2 : D := (D.tup [(D.list 1 (some 1) [(D.v (.int .u8 (20 : Int)))]),zI])
def Zv3 : List D := [(D.v (.int .i64 (1 : Int)))]
def Zv4 : D := (D.tup [(D.list 1 (some 1) [(D.v (.int .u8 (1 : Int)))]),zI])
def Zv5 : List D := [(D.v (.int .i64 (3 : Int)))]
def Zv6 : D := (D.tup [(D.list 1 (some 1) [(D.v (.int .u8 (3 : Int)))]),zI])
def Zv7 : List D := [(D.v (.int .i64 (15 : Int)))]
def Zv8 : D := (D.tup [(D.list 1 (some 1) [(D.v (.int .u8 (15 : Int)))]),zI])
theorem Z16a : funD Tg Z7j 100000 60 Z2g Tryz.f203 Zuz = some Zv0 := by kernel_rfl
theorem Z16b : funD Tg Z7j 100000 60 Z2g Tryz.f203 Zv1 = some Zv2 := by kernel_rfl
theorem Z16c : funD Tg Z7j 100000 60 Z2g Tryz.f203 Zv3 = some Zv4 := by kernel_rfl
theorem Z16d : funD Tg Z7j 100000 60 Z2g Tryz.f203 Zv5 = some Zv6 := by kernel_rfl
theorem Z16e : funD Tg Z7j 100000 60 Z2g Tryz.f203 Zv7 = some Zv8 := by kernel_rfl
def Zlk (ds : List D) : Option D := if isT Zuz ds then some Zv0 else (if isT Zv1 ds then some Zv2 else (if isT Zv3 ds then some Zv4 else (if isT Zv5 ds then some Zv6 else (if isT Zv7 ds then some Zv8 else (none)))))
theorem Zz9 : ∀ ds d,Zlk ds = some d → DataSem Tg 203 ds d := by
  intro ds d h
  unfold Zlk at h
  split at h
  · rename_i ha; obtain rfl := isT_eq ha; cases h; exact Z7k Z16a
  split at h
  · rename_i ha; obtain rfl := isT_eq ha; cases h; exact Z7k Z16b
  split at h
  · rename_i ha; obtain rfl := isT_eq ha; cases h; exact Z7k Z16c
  split at h
  · rename_i ha; obtain rfl := isT_eq ha; cases h; exact Z7k Z16d
  split at h
  · rename_i ha; obtain rfl := isT_eq ha; cases h; exact Z7k Z16e
  cases h

def Z1u : FnH := ⟨[],[]⟩
def Zky : FnH := ⟨[],[]⟩
theorem Z8p : Enters Tg 200 := ⟨Tryz.f200,Tryz.func200,by kernel_rfl,by kernel_rfl⟩
theorem Zkz : Enters Tg 216 := ⟨Tryz.f216,Tryz.func216,by kernel_rfl,by kernel_rfl⟩
noncomputable def Z68 : Hints := ⟨[(203,Zlk)],[(200,Tryz.f200,Z1u),(216,Tryz.f216,Zky)],[233,235,236,238,183]⟩
theorem Z6p {m n : Nat} {ds : List D} {d : D} (h : funD Tg Z68 m n Z1u Tryz.f200 ds = some d) : DataSem Tg 200 ds d := Z8 (H := Z68) (SpOk.cons Zz9 SpOk.nil) mixed (InlOk.cons Tryz.func200 Z8p (InlOk.cons Tryz.func216 Zkz InlOk.nil)) Tryz.func200 Z8p h
def Zr2 : List D := [(D.v (.int .i64 (1 : Int))),(D.v (.int .i64 (8 : Int)))]
def Zr3 : D := (D.v (.int .i64 (10 : Int)))
def Zr4 : List D := [(D.v (.int .i64 (1 : Int))),(D.v (.int .i64 (20 : Int)))]
def Zr5 : D := (D.v (.int .i64 (22 : Int)))
def Zr6 : List D := [(D.v (.int .i64 (1 : Int))),(D.v (.int .i64 (1 : Int)))]
def Zr7 : D := (D.v (.int .i64 (3 : Int)))
def Zr8 : List D := [(D.v (.int .i64 (1 : Int))),(D.v (.int .i64 (3 : Int)))]
def Zr9 : D := (D.v (.int .i64 (5 : Int)))
def Zra : List D := [(D.v (.int .i64 (1 : Int))),(D.v (.int .i64 (15 : Int)))]
def Zrb : D := (D.v (.int .i64 (17 : Int)))
theorem Z123 : funD Tg Z68 100000 60 Z1u Tryz.f200 Zr2 = some Zr3 := by kernel_rfl
theorem Z124 : funD Tg Z68 100000 60 Z1u Tryz.f200 Zr4 = some Zr5 := by kernel_rfl
theorem Z125 : funD Tg Z68 100000 60 Z1u Tryz.f200 Zr6 = some Zr7 := by kernel_rfl
theorem Z126 : funD Tg Z68 100000 60 Z1u Tryz.f200 Zr8 = some Zr9 := by kernel_rfl
theorem Z127 : funD Tg Z68 100000 60 Z1u Tryz.f200 Zra = some Zrb := by kernel_rfl
def Zgt (ds : List D) : Option D := if isT Zr2 ds then some Zr3 else (if isT Zr4 ds then some Zr5 else (if isT Zr6 ds then some Zr7 else (if isT Zr8 ds then some Zr9 else (if isT Zra ds then some Zrb else (none)))))
theorem Zv9 : ∀ ds d,Zgt ds = some d → DataSem Tg 200 ds d := by
  intro ds d h
  unfold Zgt at h
  split at h
  · rename_i ha; obtain rfl := isT_eq ha; cases h; exact Z6p Z123
  split at h
  · rename_i ha; obtain rfl := isT_eq ha; cases h; exact Z6p Z124
  split at h
  · rename_i ha; obtain rfl := isT_eq ha; cases h; exact Z6p Z125
  split at h
  · rename_i ha; obtain rfl := isT_eq ha; cases h; exact Z6p Z126
  split at h
  · rename_i ha; obtain rfl := isT_eq ha; cases h; exact Z6p Z127
  cases h

def Z4y : FnH := ⟨[(11,⟨(bm 76 42),[],none⟩)],[]⟩
def Zs7 : FnH := ⟨[],[]⟩
def Zpp : FnH := ⟨[(1,⟨(bm 11 29),[],none⟩),(3,⟨(bm 11 29),[],none⟩)],[]⟩
def Zhe : FnH := ⟨[],[]⟩
theorem Zkt : Enters Tg 202 := ⟨Tryz.f202,Tryz.func202,by kernel_rfl,by kernel_rfl⟩
theorem Zs8 : Enters Tg 217 := ⟨Tryz.f217,Tryz.func217,by kernel_rfl,by kernel_rfl⟩
theorem Zpq : Enters Tg 225 := ⟨Tryz.f225,Tryz.func225,by kernel_rfl,by kernel_rfl⟩
theorem Zhf : Enters Tg 171 := ⟨Tryz.f171,Tryz.func171,by kernel_rfl,by kernel_rfl⟩
noncomputable def Zi0 : Hints := ⟨[(215,Zew)],[(202,Tryz.f202,Z4y),(217,Tryz.f217,Zs7),(225,Tryz.f225,Zpp),(171,Tryz.f171,Zhe)],[233,235,236,238,183]⟩
theorem Zgu {m n : Nat} {ds : List D} {d : D} (h : funD Tg Zi0 m n Z4y Tryz.f202 ds = some d) : DataSem Tg 202 ds d := Z8 (H := Zi0) (SpOk.cons Zoh SpOk.nil) mixed (InlOk.cons Tryz.func202 Zkt (InlOk.cons Tryz.func217 Zs8 (InlOk.cons Tryz.func225 Zpq (InlOk.cons Tryz.func171 Zhf InlOk.nil)))) Tryz.func202 Zkt h
def Z128 : List D := [(D.agg [(D.v (.int .u8 (0 : Int))),(D.v (.bool false)),(D.v (.int .u32 (6 : Int)))])]
def Z129 : D := (D.tup [(D.list 1 (some 1) [(D.v (.int .u8 (6 : Int)))]),zI])
def Z12a : List D := [(D.agg [(D.v (.int .u8 (0 : Int))),(D.v (.bool false)),(D.v (.int .u32 (22 : Int)))])]
def Z12b : D := (D.tup [(D.list 1 (some 1) [(D.v (.int .u8 (22 : Int)))]),zI])
def Z12c : List D := [(D.agg [(D.v (.int .u8 (0 : Int))),(D.v (.bool true)),(D.v (.int .u32 (16 : Int)))])]
def Z12d : D := (D.tup [(D.list 1 (some 1) [(D.v (.int .u8 (48 : Int)))]),zI])
def Z12e : List D := [(D.agg [(D.v (.int .u8 (0 : Int))),(D.v (.bool false)),(D.v (.int .u32 (12 : Int)))])]
def Z12f : D := (D.tup [(D.list 1 (some 1) [(D.v (.int .u8 (12 : Int)))]),zI])
theorem Z1dt : funD Tg Zi0 100000 60 Z4y Tryz.f202 Z128 = some Z129 := by kernel_rfl
theorem Z1du : funD Tg Zi0 100000 60 Z4y Tryz.f202 Z12a = some Z12b := by kernel_rfl
theorem Z1dv : funD Tg Zi0 100000 60 Z4y Tryz.f202 Z12c = some Z12d := by kernel_rfl
theorem Z1dw : funD Tg Zi0 100000 60 Z4y Tryz.f202 Z12e = some Z12f := by kernel_rfl
def Zu7 (ds : List D) : Option D := if isT Z128 ds then some Z129 else (if isT Z12a ds then some Z12b else (if isT Z12c ds then some Z12d else (if isT Z12e ds then some Z12f else (none))))
theorem Z196 : ∀ ds d,Zu7 ds = some d → DataSem Tg 202 ds d := by
  intro ds d h
  unfold Zu7 at h
  split at h
  · rename_i ha; obtain rfl := isT_eq ha; cases h; exact Zgu Z1dt
  split at h
  · rename_i ha; obtain rfl := isT_eq ha; cases h; exact Zgu Z1du
  split at h
  · rename_i ha; obtain rfl := isT_eq ha; cases h; exact Zgu Z1dv
  split at h
  · rename_i ha; obtain rfl := isT_eq ha; cases h; exact Zgu Z1dw
  cases h

def Z4d : FnH := ⟨[],[]⟩
theorem Zi1 : Enters Tg 201 := ⟨Tryz.f201,Tryz.func201,by kernel_rfl,by kernel_rfl⟩
noncomputable def Zez : Hints := ⟨[(202,Zu7)],[(201,Tryz.f201,Z4d)],[233,235,236,238,183]⟩
theorem Zf0 {m n : Nat} {ds : List D} {d : D} (h : funD Tg Zez m n Z4d Tryz.f201 ds = some d) : DataSem Tg 201 ds d := Z8 (H := Zez) (SpOk.cons Z196 SpOk.nil) mixed (InlOk.cons Tryz.func201 Zi1 InlOk.nil) Tryz.func201 Zi1 h
def Zza : List D := [(D.agg [(D.v (.int .u8 (0 : Int))),(D.v (.bool false)),(D.v (.int .u32 (6 : Int)))])]
def Zzb : D := (D.v (.int .i64 (1 : Int)))
def Zzc : List D := [(D.agg [(D.v (.int .u8 (0 : Int))),(D.v (.bool false)),(D.v (.int .u32 (22 : Int)))])]
def Zzd : D := (D.v (.int .i64 (1 : Int)))
def Zze : List D := [(D.agg [(D.v (.int .u8 (0 : Int))),(D.v (.bool true)),(D.v (.int .u32 (16 : Int)))])]
def Zzf : D := (D.v (.int .i64 (1 : Int)))
def Zzg : List D := [(D.agg [(D.v (.int .u8 (0 : Int))),(D.v (.bool false)),(D.v (.int .u32 (12 : Int)))])]
def Zzh : D := (D.v (.int .i64 (1 : Int)))
theorem Z1b3 : funD Tg Zez 100000 60 Z4d Tryz.f201 Zza = some Zzb := by kernel_rfl
theorem Z1b4 : funD Tg Zez 100000 60 Z4d Tryz.f201 Zzc = some Zzd := by kernel_rfl
theorem Z1b5 : funD Tg Zez 100000 60 Z4d Tryz.f201 Zze = some Zzf := by kernel_rfl
theorem Z1b6 : funD Tg Zez 100000 60 Z4d Tryz.f201 Zzg = some Zzh := by kernel_rfl
def Zrc (ds : List D) : Option D := if isT Zza ds then some Zzb else (if isT Zzc ds then some Zzd else (if isT Zze ds then some Zzf else (if isT Zzg ds then some Zzh else (none))))
theorem Z15z : ∀ ds d,Zrc ds = some d → DataSem Tg 201 ds d := by
  intro ds d h
  unfold Zrc at h
  split at h
  · rename_i ha; obtain rfl := isT_eq ha; cases h; exact Zf0 Z1b3
  split at h
  · rename_i ha; obtain rfl := isT_eq ha; cases h; exact Zf0 Z1b4
  split at h
  · rename_i ha; obtain rfl := isT_eq ha; cases h; exact Zf0 Z1b5
  split at h
  · rename_i ha; obtain rfl := isT_eq ha; cases h; exact Zf0 Z1b6
  cases h

def Zp : FnH := ⟨[(5,⟨(bm 114696 27),[(14,5)],none⟩)],[]⟩
def Zhg : FnH := ⟨[],[]⟩
theorem Z72 : Enters Tg 199 := ⟨Tryz.f199,Tryz.func199,by kernel_rfl,by kernel_rfl⟩
theorem Zhh : Enters Tg 182 := ⟨Tryz.f182,Tryz.func182,by kernel_rfl,by kernel_rfl⟩
noncomputable def Z37 : Hints := ⟨[(200,Zgt),(201,Zrc)],[(199,Tryz.f199,Zp),(182,Tryz.f182,Zhg)],[233,235,236,238,183]⟩
theorem Z39 {m n : Nat} {ds : List D} {d : D} (h : funD Tg Z37 m n Zp Tryz.f199 ds = some d) : DataSem Tg 199 ds d := Z8 (H := Z37) (SpOk.cons Zv9 (SpOk.cons Z15z SpOk.nil)) mixed (InlOk.cons Tryz.func199 Z72 (InlOk.cons Tryz.func182 Zhh InlOk.nil)) Tryz.func199 Z72 h
def Zmi : List D := [(D.agg [(D.v (.int .u8 (0 : Int))),(D.v (.bool true)),(D.v (.int .u32 (16 : Int))),(D.list 0 (some 0) []),(D.list 2 (some 2) [(D.v (.int .u8 (0 : Int))),(D.v (.bool false)),(D.v (.int .u32 (6 : Int))),(D.list 8 (some 8) [(D.v (.int .u8 (43 : Int))),(D.v (.int .u8 (6 : Int))),(D.v (.int .u8 (1 : Int))),(D.v (.int .u8 (5 : Int))),(D.v (.int .u8 (5 : Int))),(D.v (.int .u8 (7 : Int))),(D.v (.int .u8 (2 : Int))),(D.v (.int .u8 (1 : Int)))]),(D.list 0 (some 0) []),(D.v (.int .u8 (0 : Int))),(D.v (.bool false)),(D.v (.int .u32 (22 : Int))),(D.list 8 (some 8) [(D.v (.int .u8 (104 : Int))),(D.v (.int .u8 (116 : Int))),(D.v (.int .u8 (116 : Int))),(D.v (.int .u8 (112 : Int))),(D.v (.int .u8 (58 : Int))),(D.v (.int .u8 (47 : Int))),(D.v (.int .u8 (47 : Int))),(D.v (.int .u8 (97 : Int)))]),(D.list 0 (some 0) [])])])]
def Zmj : D := (D.v (.int .i64 (20 : Int)))
def Zmk : List D := [(D.agg [(D.v (.int .u8 (0 : Int))),(D.v (.bool false)),(D.v (.int .u32 (6 : Int))),(D.list 8 (some 8) [(D.v (.int .u8 (43 : Int))),(D.v (.int .u8 (6 : Int))),(D.v (.int .u8 (1 : Int))),(D.v (.int .u8 (5 : Int))),(D.v (.int .u8 (5 : Int))),(D.v (.int .u8 (7 : Int))),(D.v (.int .u8 (2 : Int))),(D.v (.int .u8 (1 : Int)))]),(D.list 0 (some 0) [])])]
def Zml : D := (D.v (.int .i64 (8 : Int)))
def Zmm : List D := [(D.agg [(D.v (.int .u8 (0 : Int))),(D.v (.bool false)),(D.v (.int .u32 (22 : Int))),(D.list 8 (some 8) [(D.v (.int .u8 (104 : Int))),(D.v (.int .u8 (116 : Int))),(D.v (.int .u8 (116 : Int))),(D.v (.int .u8 (112 : Int))),(D.v (.int .u8 (58 : Int))),(D.v (.int .u8 (47 : Int))),(D.v (.int .u8 (47 : Int))),(D.v (.int .u8 (97 : Int)))]),(D.list 0 (some 0) [])])]
def Zmn : D := (D.v (.int .i64 (8 : Int)))
def Zmo : List D := [(D.agg [(D.v (.int .u8 (0 : Int))),(D.v (.bool true)),(D.v (.int .u32 (16 : Int))),(D.list 0 (some 0) []),(D.list 2 (some 2) [(D.v (.int .u8 (0 : Int))),(D.v (.bool false)),(D.v (.int .u32 (6 : Int))),(D.list 8 (some 8) [(D.v (.int .u8 (43 : Int))),(D.v (.int .u8 (6 : Int))),(D.v (.int .u8 (1 : Int))),(D.v (.int .u8 (5 : Int))),(D.v (.int .u8 (5 : Int))),(D.v (.int .u8 (7 : Int))),(D.v (.int .u8 (2 : Int))),(D.v (.int .u8 (2 : Int)))]),(D.list 0 (some 0) []),(D.v (.int .u8 (0 : Int))),(D.v (.bool true)),(D.v (.int .u32 (16 : Int))),(D.list 0 (some 0) []),(D.list 1 (some 1) [(D.v (.int .u8 (0 : Int))),(D.v (.bool false)),(D.v (.int .u32 (12 : Int))),(D.list 1 (some 1) [(D.v (.int .u8 (98 : Int)))]),(D.list 0 (some 0) [])])])])]
def Zmp : D := (D.v (.int .i64 (15 : Int)))
def Zmq : List D := [(D.agg [(D.v (.int .u8 (0 : Int))),(D.v (.bool false)),(D.v (.int .u32 (6 : Int))),(D.list 8 (some 8) [(D.v (.int .u8 (43 : Int))),(D.v (.int .u8 (6 : Int))),(D.v (.int .u8 (1 : Int))),(D.v (.int .u8 (5 : Int))),(D.v (.int .u8 (5 : Int))),(D.v (.int .u8 (7 : Int))),(D.v (.int .u8 (2 : Int))),(D.v (.int .u8 (2 : Int)))]),(D.list 0 (some 0) [])])]
def Zmr : D := (D.v (.int .i64 (8 : Int)))
def Zms : List D := [(D.agg [(D.v (.int .u8 (0 : Int))),(D.v (.bool true)),(D.v (.int .u32 (16 : Int))),(D.list 0 (some 0) []),(D.list 1 (some 1) [(D.v (.int .u8 (0 : Int))),(D.v (.bool false)),(D.v (.int .u32 (12 : Int))),(D.list 1 (some 1) [(D.v (.int .u8 (98 : Int)))]),(D.list 0 (some 0) [])])])]
def Zmt : D := (D.v (.int .i64 (3 : Int)))
def Zmu : List D := [(D.agg [(D.v (.int .u8 (0 : Int))),(D.v (.bool false)),(D.v (.int .u32 (12 : Int))),(D.list 1 (some 1) [(D.v (.int .u8 (98 : Int)))]),(D.list 0 (some 0) [])])]
def Zmv : D := (D.v (.int .i64 (1 : Int)))
theorem Zww : funD Tg Z37 100000 60 Zp Tryz.f199 Zmi = some Zmj := by kernel_rfl
theorem Zwx : funD Tg Z37 100000 60 Zp Tryz.f199 Zmk = some Zml := by kernel_rfl
theorem Zwy : funD Tg Z37 100000 60 Zp Tryz.f199 Zmm = some Zmn := by kernel_rfl
theorem Zwz : funD Tg Z37 100000 60 Zp Tryz.f199 Zmo = some Zmp := by kernel_rfl
theorem Zx0 : funD Tg Z37 100000 60 Zp Tryz.f199 Zmq = some Zmr := by kernel_rfl
theorem Zx1 : funD Tg Z37 100000 60 Zp Tryz.f199 Zms = some Zmt := by kernel_rfl
theorem Zx2 : funD Tg Z37 100000 60 Zp Tryz.f199 Zmu = some Zmv := by kernel_rfl
def Zhi (ds : List D) : Option D := if isT Zmi ds then some Zmj else (if isT Zmk ds then some Zml else (if isT Zmm ds then some Zmn else (if isT Zmo ds then some Zmp else (if isT Zmq ds then some Zmr else (if isT Zms ds then some Zmt else (if isT Zmu ds then some Zmv else (none)))))))
theorem Z108 : ∀ ds d,Zhi ds = some d → DataSem Tg 199 ds d := by
  intro ds d h
  unfold Zhi at h
  split at h
  · rename_i ha; obtain rfl := isT_eq ha; cases h; exact Z39 Zww
  split at h
  · rename_i ha; obtain rfl := isT_eq ha; cases h; exact Z39 Zwx
  split at h
  · rename_i ha; obtain rfl := isT_eq ha; cases h; exact Z39 Zwy
  split at h
  · rename_i ha; obtain rfl := isT_eq ha; cases h; exact Z39 Zwz
  split at h
  · rename_i ha; obtain rfl := isT_eq ha; cases h; exact Z39 Zx0
  split at h
  · rename_i ha; obtain rfl := isT_eq ha; cases h; exact Z39 Zx1
  split at h
  · rename_i ha; obtain rfl := isT_eq ha; cases h; exact Z39 Zx2
  cases h

def Z31 : FnH := ⟨[],[]⟩
def Zg8 : FnH := ⟨[],[]⟩
def Zdb : FnH := ⟨[],[]⟩
def Zdc : FnH := ⟨[(4,⟨(bm 14336 24),[(11,1)],none⟩)],[]⟩
def Zdd : FnH := ⟨[],[]⟩
def Zan : FnH := ⟨[],[]⟩
def Zde : FnH := ⟨[],[]⟩
def Ze2 : FnH := ⟨[],[]⟩
def Zba : FnH := ⟨[],[]⟩
def Z7l : FnH := ⟨[],[]⟩
def Z8g : FnH := ⟨[(2,⟨(bm 387 19),[],none⟩)],[]⟩
def Za2 : FnH := ⟨[(8,⟨(bm 3758096566 83),[(29,1)],none⟩)],[]⟩
def Zg9 : FnH := ⟨[(3,⟨(bm 73 25),[],none⟩),(8,⟨(bm 32 25),[(5,1)],none⟩)],[]⟩
def Zbz : FnH := ⟨[],[]⟩
def Z6q : FnH := ⟨[],[]⟩
def Zdf : FnH := ⟨[],[]⟩
def Zdg : FnH := ⟨[],[]⟩
def Zkg : FnH := ⟨[(6,⟨(bm 1924145348608 47),[(38,1)],none⟩)],[]⟩
def Zi8 : FnH := ⟨[],[]⟩
def Zhj : FnH := ⟨[],[]⟩
def Zfs : FnH := ⟨[],[]⟩
def Z9h : FnH := ⟨[(25,⟨(bm 16655 151),[],none⟩)],[]⟩
def Zmw : FnH := ⟨[],[]⟩
def Ziy : FnH := ⟨[(3,⟨(bm 13 43),[],none⟩)],[]⟩
def Ziz : FnH := ⟨[],[]⟩
def Zj0 : FnH := ⟨[],[]⟩
def Zdh : FnH := ⟨[],[]⟩
def Zft : FnH := ⟨[],[]⟩
def Zi9 : FnH := ⟨[],[]⟩
def Zga : FnH := ⟨[],[]⟩
def Zhk : FnH := ⟨[],[]⟩
def Zia : FnH := ⟨[(6,⟨(bm 60129542145 44),[(0,1),(33,5)],none⟩)],[]⟩
theorem Z73 : Enters Tg 110 := ⟨Tryz.f110,Tryz.func110,by kernel_rfl,by kernel_rfl⟩
theorem Zgb : Enters Tg 134 := ⟨Tryz.f134,Tryz.func134,by kernel_rfl,by kernel_rfl⟩
theorem Zdi : Enters Tg 168 := ⟨Tryz.f168,Tryz.func168,by kernel_rfl,by kernel_rfl⟩
theorem Zdj : Enters Tg 169 := ⟨Tryz.f169,Tryz.func169,by kernel_rfl,by kernel_rfl⟩
theorem Zdk : Enters Tg 170 := ⟨Tryz.f170,Tryz.func170,by kernel_rfl,by kernel_rfl⟩
theorem Zao : Enters Tg 171 := ⟨Tryz.f171,Tryz.func171,by kernel_rfl,by kernel_rfl⟩
theorem Zdl : Enters Tg 172 := ⟨Tryz.f172,Tryz.func172,by kernel_rfl,by kernel_rfl⟩
theorem Ze3 : Enters Tg 173 := ⟨Tryz.f173,Tryz.func173,by kernel_rfl,by kernel_rfl⟩
theorem Zbb : Enters Tg 192 := ⟨Tryz.f192,Tryz.func192,by kernel_rfl,by kernel_rfl⟩
theorem Z7m : Enters Tg 206 := ⟨Tryz.f206,Tryz.func206,by kernel_rfl,by kernel_rfl⟩
theorem Z8h : Enters Tg 218 := ⟨Tryz.f218,Tryz.func218,by kernel_rfl,by kernel_rfl⟩
theorem Za3 : Enters Tg 174 := ⟨Tryz.f174,Tryz.func174,by kernel_rfl,by kernel_rfl⟩
theorem Zgc : Enters Tg 194 := ⟨Tryz.f194,Tryz.func194,by kernel_rfl,by kernel_rfl⟩
theorem Zc0 : Enters Tg 210 := ⟨Tryz.f210,Tryz.func210,by kernel_rfl,by kernel_rfl⟩
theorem Z6r : Enters Tg 195 := ⟨Tryz.f195,Tryz.func195,by kernel_rfl,by kernel_rfl⟩
theorem Zdm : Enters Tg 175 := ⟨Tryz.f175,Tryz.func175,by kernel_rfl,by kernel_rfl⟩
theorem Zdn : Enters Tg 176 := ⟨Tryz.f176,Tryz.func176,by kernel_rfl,by kernel_rfl⟩
theorem Zkh : Enters Tg 109 := ⟨Tryz.f109,Tryz.func109,by kernel_rfl,by kernel_rfl⟩
theorem Zib : Enters Tg 177 := ⟨Tryz.f177,Tryz.func177,by kernel_rfl,by kernel_rfl⟩
theorem Zhl : Enters Tg 196 := ⟨Tryz.f196,Tryz.func196,by kernel_rfl,by kernel_rfl⟩
theorem Zfu : Enters Tg 211 := ⟨Tryz.f211,Tryz.func211,by kernel_rfl,by kernel_rfl⟩
theorem Z9i : Enters Tg 212 := ⟨Tryz.f212,Tryz.func212,by kernel_rfl,by kernel_rfl⟩
theorem Zmx : Enters Tg 221 := ⟨Tryz.f221,Tryz.func221,by kernel_rfl,by kernel_rfl⟩
theorem Zj1 : Enters Tg 228 := ⟨Tryz.f228,Tryz.func228,by kernel_rfl,by kernel_rfl⟩
theorem Zj2 : Enters Tg 222 := ⟨Tryz.f222,Tryz.func222,by kernel_rfl,by kernel_rfl⟩
theorem Zj3 : Enters Tg 223 := ⟨Tryz.f223,Tryz.func223,by kernel_rfl,by kernel_rfl⟩
theorem Zdo : Enters Tg 178 := ⟨Tryz.f178,Tryz.func178,by kernel_rfl,by kernel_rfl⟩
theorem Zfv : Enters Tg 153 := ⟨Tryz.f153,Tryz.func153,by kernel_rfl,by kernel_rfl⟩
theorem Zic : Enters Tg 156 := ⟨Tryz.f156,Tryz.func156,by kernel_rfl,by kernel_rfl⟩
theorem Zgd : Enters Tg 181 := ⟨Tryz.f181,Tryz.func181,by kernel_rfl,by kernel_rfl⟩
theorem Zhm : Enters Tg 182 := ⟨Tryz.f182,Tryz.func182,by kernel_rfl,by kernel_rfl⟩
theorem Zid : Enters Tg 183 := ⟨Tryz.f183,Tryz.func183,by kernel_rfl,by kernel_rfl⟩
noncomputable def Z98 : Hints := ⟨[(152,Zh8),(154,Zgs),(155,Z106),(193,Z7x),(198,Zhd),(199,Zhi),(200,Zgt),(201,Zrc),(202,Zu7),(203,Zlk),(207,Z79),(208,Z8d),(215,Zew)],[(110,Tryz.f110,Z31),(134,Tryz.f134,Zg8),(168,Tryz.f168,Zdb),(169,Tryz.f169,Zdc),(170,Tryz.f170,Zdd),(171,Tryz.f171,Zan),(172,Tryz.f172,Zde),(173,Tryz.f173,Ze2),(192,Tryz.f192,Zba),(206,Tryz.f206,Z7l),(218,Tryz.f218,Z8g),(174,Tryz.f174,Za2),(194,Tryz.f194,Zg9),(210,Tryz.f210,Zbz),(195,Tryz.f195,Z6q),(175,Tryz.f175,Zdf),(176,Tryz.f176,Zdg),(109,Tryz.f109,Zkg),(177,Tryz.f177,Zi8),(196,Tryz.f196,Zhj),(211,Tryz.f211,Zfs),(212,Tryz.f212,Z9h),(221,Tryz.f221,Zmw),(228,Tryz.f228,Ziy),(222,Tryz.f222,Ziz),(223,Tryz.f223,Zj0),(178,Tryz.f178,Zdh),(153,Tryz.f153,Zft),(156,Tryz.f156,Zi9),(181,Tryz.f181,Zga),(182,Tryz.f182,Zhk),(183,Tryz.f183,Zia)],[233,235,236,238,183]⟩
theorem Zi2 {m n : Nat} {ds : List D} {d : D} (h : funD Tg Z98 m n Z31 Tryz.f110 ds = some d) : DataSem Tg 110 ds d := Z8 (H := Z98) (SpOk.cons Z105 (SpOk.cons Zux (SpOk.cons Z1i2 (SpOk.cons Zkp (SpOk.cons Z107 (SpOk.cons Z108 (SpOk.cons Zv9 (SpOk.cons Z15z (SpOk.cons Z196 (SpOk.cons Zz9 (SpOk.cons Zfm (SpOk.cons Zm9 (SpOk.cons Zoh SpOk.nil))))))))))))) mixed (InlOk.cons Tryz.func110 Z73 (InlOk.cons Tryz.func134 Zgb (InlOk.cons Tryz.func168 Zdi (InlOk.cons Tryz.func169 Zdj (InlOk.cons Tryz.func170 Zdk (InlOk.cons Tryz.func171 Zao (InlOk.cons Tryz.func172 Zdl (InlOk.cons Tryz.func173 Ze3 (InlOk.cons Tryz.func192 Zbb (InlOk.cons Tryz.func206 Z7m (InlOk.cons Tryz.func218 Z8h (InlOk.cons Tryz.func174 Za3 (InlOk.cons Tryz.func194 Zgc (InlOk.cons Tryz.func210 Zc0 (InlOk.cons Tryz.func195 Z6r (InlOk.cons Tryz.func175 Zdm (InlOk.cons Tryz.func176 Zdn (InlOk.cons Tryz.func109 Zkh (InlOk.cons Tryz.func177 Zib (InlOk.cons Tryz.func196 Zhl (InlOk.cons Tryz.func211 Zfu (InlOk.cons Tryz.func212 Z9i (InlOk.cons Tryz.func221 Zmx (InlOk.cons Tryz.func228 Zj1 (InlOk.cons Tryz.func222 Zj2 (InlOk.cons Tryz.func223 Zj3 (InlOk.cons Tryz.func178 Zdo (InlOk.cons Tryz.func153 Zfv (InlOk.cons Tryz.func156 Zic (InlOk.cons Tryz.func181 Zgd (InlOk.cons Tryz.func182 Zhm (InlOk.cons Tryz.func183 Zid InlOk.nil)))))))))))))))))))))))))))))))) Tryz.func110 Z73 h
def Zmy : List D := [(D.agg [(D.v (.int .u8 (1 : Int))),(D.v (.string (ByteArray.mk #[104,116,116,112,58,47,47,97]))),(D.v (.bool false)),zU,(D.v (.string (ByteArray.mk #[]))),(D.list 0 (some 0) []),(D.v (.bool false)),zU,(D.v (.string (ByteArray.mk #[]))),(D.v (.int .u8 (0 : Int))),zU,zU,zU,zU,zU,zU,zU,zU,zU,zU,zU,zU,zU,zU,zU,zU,(D.list 0 (some 0) [])])]
def Zmz : D := zI
def Zn0 : List D := [(D.agg [(D.v (.int .u8 (2 : Int))),(D.v (.string (ByteArray.mk #[]))),(D.v (.bool false)),zU,(D.v (.string (ByteArray.mk #[]))),(D.list 0 (some 0) []),(D.v (.bool true)),(D.v (.int .u32 (12 : Int))),(D.v (.string (ByteArray.mk #[98]))),(D.v (.int .u8 (0 : Int))),zU,zU,zU,zU,zU,zU,zU,zU,zU,zU,zU,zU,zU,zU,zU,zU,(D.list 0 (some 0) [])])]
def Zn1 : D := zI
theorem Zx3 : funD Tg Z98 100000 60 Z31 Tryz.f110 Zmy = some Zmz := by kernel_rfl
theorem Zx4 : funD Tg Z98 100000 60 Z31 Tryz.f110 Zn0 = some Zn1 := by kernel_rfl
def Z7n (ds : List D) : Option D := if isT Zmy ds then some Zmz else (if isT Zn0 ds then some Zn1 else (none))
theorem Z109 : ∀ ds d,Z7n ds = some d → DataSem Tg 110 ds d := by
  intro ds d h
  unfold Z7n at h
  split at h
  · rename_i ha; obtain rfl := isT_eq ha; cases h; exact Zi2 Zx3
  split at h
  · rename_i ha; obtain rfl := isT_eq ha; cases h; exact Zi2 Zx4
  cases h

end Go.Ev
