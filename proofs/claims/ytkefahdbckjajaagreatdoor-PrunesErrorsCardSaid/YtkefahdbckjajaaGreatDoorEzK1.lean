/- Closed calls of the program at the two qualifiers of the examples. No conditions. -/
import Derived.Test.YtkefahdbckjajaaGreatDoorEzI
set_option linter.unusedVariables false
set_option maxRecDepth 1000000
namespace Go.Ev
open Go Go.Proofs
def Z2u : FnH := ⟨[], []⟩
def Zj0 : FnH := ⟨[], []⟩
def Zh1 : FnH := ⟨[(6, ⟨(bm 1924145348608 47), [(38, 1)], none⟩)], []⟩
theorem Z5i : Enters Tryz.prog 154 := ⟨Tryz.f154, Tryz.func154, by kernel_rfl, by kernel_rfl⟩
theorem Zj1 : Enters Tryz.prog 128 := ⟨Tryz.f128, Tryz.func128, by kernel_rfl, by kernel_rfl⟩
theorem Zh2 : Enters Tryz.prog 109 := ⟨Tryz.f109, Tryz.func109, by kernel_rfl, by kernel_rfl⟩
noncomputable def Zap : Hints := ⟨[], [(154, Tryz.f154, Z2u), (128, Tryz.f128, Zj0), (109, Tryz.f109, Zh1)], [233, 235, 236, 238, 183]⟩
theorem Zg1 {m n : Nat} {ds : List D} {d : D} (h : funD Tryz.prog Zap m n Z2u Tryz.f154 ds = some d) : DataSem Tryz.prog 154 ds d := data_sound (H := Zap) SpOk.nil mixed (InlOk.cons Tryz.func154 Z5i (InlOk.cons Tryz.func128 Zj1 (InlOk.cons Tryz.func109 Zh2 InlOk.nil))) Tryz.func154 Z5i h
def Zj8 : List D := [(D.v (.int .u8 (1 : Int)))]
def Zj9 : D := (D.agg [(D.v (.int .u8 (9 : Int))), (D.v (.int .u32 (1 : Int))), (D.v (.int .u32 (3 : Int))), (D.v (.int .u32 (6 : Int))), (D.v (.int .u32 (1 : Int))), (D.v (.int .u32 (5 : Int))), (D.v (.int .u32 (5 : Int))), (D.v (.int .u32 (7 : Int))), (D.v (.int .u32 (2 : Int))), (D.v (.int .u32 (1 : Int))), zU, zU, zU, zU, zU, zU, zU])
def Zja : List D := [(D.v (.int .u8 (2 : Int)))]
def Zjb : D := (D.agg [(D.v (.int .u8 (9 : Int))), (D.v (.int .u32 (1 : Int))), (D.v (.int .u32 (3 : Int))), (D.v (.int .u32 (6 : Int))), (D.v (.int .u32 (1 : Int))), (D.v (.int .u32 (5 : Int))), (D.v (.int .u32 (5 : Int))), (D.v (.int .u32 (7 : Int))), (D.v (.int .u32 (2 : Int))), (D.v (.int .u32 (2 : Int))), zU, zU, zU, zU, zU, zU, zU])
theorem Zpi : funD Tryz.prog Zap 100000 60 Z2u Tryz.f154 Zj8 = some Zj9 := by kernel_rfl
theorem Zpj : funD Tryz.prog Zap 100000 60 Z2u Tryz.f154 Zja = some Zjb := by kernel_rfl
def Zcc (ds : List D) : Option D := if isT Zj8 ds then some Zj9 else (if isT Zja ds then some Zjb else (none))
theorem Zlh : ∀ ds d, Zcc ds = some d → DataSem Tryz.prog 154 ds d := by
  intro ds d h
  unfold Zcc at h
  split at h
  · rename_i ha; obtain rfl := isT_eq ha; cases h; exact Zg1 Zpi
  split at h
  · rename_i ha; obtain rfl := isT_eq ha; cases h; exact Zg1 Zpj
  cases h

def Z2d : FnH := ⟨[], []⟩
def Z8m : FnH := ⟨[(6, ⟨(bm 524368 30), [(6, 1)], none⟩)], []⟩
def Z7c : FnH := ⟨[], []⟩
def Z7z : FnH := ⟨[], []⟩
def Z7d : FnH := ⟨[], []⟩
def Z6j : FnH := ⟨[], []⟩
def Z5o : FnH := ⟨[], []⟩
def Z8n : FnH := ⟨[], []⟩
def Z58 : FnH := ⟨[], []⟩
def Z5p : FnH := ⟨[], []⟩
def Z64 : FnH := ⟨[], []⟩
def Z7e : FnH := ⟨[(38, ⟨(bm 47890485652059026823698344598447161988085597568237568 187), [], none⟩), (5, ⟨(bm 1923 187), [], none⟩), (12, ⟨(bm 6019 187), [], none⟩), (25, ⟨(bm 50049 187), [], none⟩), (29, ⟨(bm 115585 187), [], none⟩)], []⟩
def Z7f : FnH := ⟨[], []⟩
def Z5q : FnH := ⟨[], []⟩
def Za2 : FnH := ⟨[], []⟩
def Z8o : FnH := ⟨[], []⟩
def Z8p : FnH := ⟨[], []⟩
def Z8q : FnH := ⟨[], []⟩
def Z6z : FnH := ⟨[], []⟩
def Z2x : FnH := ⟨[(2, ⟨(bm 387 19), [], none⟩)], []⟩
def Z65 : FnH := ⟨[(4, ⟨(bm 2052 20), [], none⟩)], []⟩
def Z80 : FnH := ⟨[(1, ⟨(bm 1 169), [], none⟩), (9, ⟨(bm 1 169), [], none⟩)], []⟩
def Z81 : FnH := ⟨[], []⟩
def Z5r : FnH := ⟨[], []⟩
theorem Z3g : Enters Tryz.prog 193 := ⟨Tryz.f193, Tryz.func193, by kernel_rfl, by kernel_rfl⟩
theorem Z8r : Enters Tryz.prog 209 := ⟨Tryz.f209, Tryz.func209, by kernel_rfl, by kernel_rfl⟩
theorem Z7g : Enters Tryz.prog 219 := ⟨Tryz.f219, Tryz.func219, by kernel_rfl, by kernel_rfl⟩
theorem Z82 : Enters Tryz.prog 226 := ⟨Tryz.f226, Tryz.func226, by kernel_rfl, by kernel_rfl⟩
theorem Z7h : Enters Tryz.prog 229 := ⟨Tryz.f229, Tryz.func229, by kernel_rfl, by kernel_rfl⟩
theorem Z6k : Enters Tryz.prog 232 := ⟨Tryz.f232, Tryz.func232, by kernel_rfl, by kernel_rfl⟩
theorem Z5s : Enters Tryz.prog 237 := ⟨Tryz.f237, Tryz.func237, by kernel_rfl, by kernel_rfl⟩
theorem Z8s : Enters Tryz.prog 233 := ⟨Tryz.f233, Tryz.func233, by kernel_rfl, by kernel_rfl⟩
theorem Z59 : Enters Tryz.prog 238 := ⟨Tryz.f238, Tryz.func238, by kernel_rfl, by kernel_rfl⟩
theorem Z5t : Enters Tryz.prog 234 := ⟨Tryz.f234, Tryz.func234, by kernel_rfl, by kernel_rfl⟩
theorem Z66 : Enters Tryz.prog 239 := ⟨Tryz.f239, Tryz.func239, by kernel_rfl, by kernel_rfl⟩
theorem Z7i : Enters Tryz.prog 240 := ⟨Tryz.f240, Tryz.func240, by kernel_rfl, by kernel_rfl⟩
theorem Z7j : Enters Tryz.prog 241 := ⟨Tryz.f241, Tryz.func241, by kernel_rfl, by kernel_rfl⟩
theorem Z5u : Enters Tryz.prog 245 := ⟨Tryz.f245, Tryz.func245, by kernel_rfl, by kernel_rfl⟩
theorem Za3 : Enters Tryz.prog 242 := ⟨Tryz.f242, Tryz.func242, by kernel_rfl, by kernel_rfl⟩
theorem Z8t : Enters Tryz.prog 243 := ⟨Tryz.f243, Tryz.func243, by kernel_rfl, by kernel_rfl⟩
theorem Z8u : Enters Tryz.prog 235 := ⟨Tryz.f235, Tryz.func235, by kernel_rfl, by kernel_rfl⟩
theorem Z8v : Enters Tryz.prog 236 := ⟨Tryz.f236, Tryz.func236, by kernel_rfl, by kernel_rfl⟩
theorem Z70 : Enters Tryz.prog 231 := ⟨Tryz.f231, Tryz.func231, by kernel_rfl, by kernel_rfl⟩
theorem Z2y : Enters Tryz.prog 230 := ⟨Tryz.f230, Tryz.func230, by kernel_rfl, by kernel_rfl⟩
theorem Z67 : Enters Tryz.prog 227 := ⟨Tryz.f227, Tryz.func227, by kernel_rfl, by kernel_rfl⟩
theorem Z83 : Enters Tryz.prog 163 := ⟨Tryz.f163, Tryz.func163, by kernel_rfl, by kernel_rfl⟩
theorem Z84 : Enters Tryz.prog 189 := ⟨Tryz.f189, Tryz.func189, by kernel_rfl, by kernel_rfl⟩
theorem Z5v : Enters Tryz.prog 171 := ⟨Tryz.f171, Tryz.func171, by kernel_rfl, by kernel_rfl⟩
noncomputable def Z71 : Hints := ⟨[], [(193, Tryz.f193, Z2d), (209, Tryz.f209, Z8m), (219, Tryz.f219, Z7c), (226, Tryz.f226, Z7z), (229, Tryz.f229, Z7d), (232, Tryz.f232, Z6j), (237, Tryz.f237, Z5o), (233, Tryz.f233, Z8n), (238, Tryz.f238, Z58), (234, Tryz.f234, Z5p), (239, Tryz.f239, Z64), (240, Tryz.f240, Z7e), (241, Tryz.f241, Z7f), (245, Tryz.f245, Z5q), (242, Tryz.f242, Za2), (243, Tryz.f243, Z8o), (235, Tryz.f235, Z8p), (236, Tryz.f236, Z8q), (231, Tryz.f231, Z6z), (230, Tryz.f230, Z2x), (227, Tryz.f227, Z65), (163, Tryz.f163, Z80), (189, Tryz.f189, Z81), (171, Tryz.f171, Z5r)], [233, 235, 236, 238, 183]⟩
theorem Zi7 {m n : Nat} {ds : List D} {d : D} (h : funD Tryz.prog Z71 m n Z2d Tryz.f193 ds = some d) : DataSem Tryz.prog 193 ds d := data_sound (H := Z71) SpOk.nil mixed (InlOk.cons Tryz.func193 Z3g (InlOk.cons Tryz.func209 Z8r (InlOk.cons Tryz.func219 Z7g (InlOk.cons Tryz.func226 Z82 (InlOk.cons Tryz.func229 Z7h (InlOk.cons Tryz.func232 Z6k (InlOk.cons Tryz.func237 Z5s (InlOk.cons Tryz.func233 Z8s (InlOk.cons Tryz.func238 Z59 (InlOk.cons Tryz.func234 Z5t (InlOk.cons Tryz.func239 Z66 (InlOk.cons Tryz.func240 Z7i (InlOk.cons Tryz.func241 Z7j (InlOk.cons Tryz.func245 Z5u (InlOk.cons Tryz.func242 Za3 (InlOk.cons Tryz.func243 Z8t (InlOk.cons Tryz.func235 Z8u (InlOk.cons Tryz.func236 Z8v (InlOk.cons Tryz.func231 Z70 (InlOk.cons Tryz.func230 Z2y (InlOk.cons Tryz.func227 Z67 (InlOk.cons Tryz.func163 Z83 (InlOk.cons Tryz.func189 Z84 (InlOk.cons Tryz.func171 Z5v InlOk.nil)))))))))))))))))))))))) Tryz.func193 Z3g h
def Zd8 : List D := [(D.agg [(D.v (.int .u32 (12 : Int))), (D.v (.string (ByteArray.mk #[98])))])]
def Zd9 : D := (D.tup [(D.agg [(D.v (.int .u8 (0 : Int))), (D.v (.bool false)), (D.v (.int .u32 (12 : Int))), (D.list 1 (some 1) [(D.v (.int .u8 (98 : Int)))]), (D.list 0 (some 0) [])]), zI])
theorem Zkm : funD Tryz.prog Z71 100000 60 Z2d Tryz.f193 Zd8 = some Zd9 := by kernel_rfl
def Z4z (ds : List D) : Option D := if isT Zd8 ds then some Zd9 else (none)
theorem Zf9 : ∀ ds d, Z4z ds = some d → DataSem Tryz.prog 193 ds d := by
  intro ds d h
  unfold Z4z at h
  split at h
  · rename_i ha; obtain rfl := isT_eq ha; cases h; exact Zi7 Zkm
  cases h

def Z2q : FnH := ⟨[], []⟩
def Z8w : FnH := ⟨[], []⟩
def Za4 : FnH := ⟨[], []⟩
def Z8x : FnH := ⟨[], []⟩
def Z7k : FnH := ⟨[], []⟩
def Z6l : FnH := ⟨[], []⟩
def Zaq : FnH := ⟨[], []⟩
def Z5w : FnH := ⟨[], []⟩
def Z6m : FnH := ⟨[], []⟩
def Z72 : FnH := ⟨[], []⟩
def Z8y : FnH := ⟨[(38, ⟨(bm 47890485652059026823698344598447161988085597568237568 187), [], none⟩), (5, ⟨(bm 1923 187), [], none⟩), (12, ⟨(bm 6019 187), [], none⟩), (25, ⟨(bm 50049 187), [], none⟩), (29, ⟨(bm 115585 187), [], none⟩)], []⟩
def Z8z : FnH := ⟨[], []⟩
def Z6n : FnH := ⟨[], []⟩
def Zbe : FnH := ⟨[], []⟩
def Zar : FnH := ⟨[], []⟩
def Zas : FnH := ⟨[], []⟩
def Zat : FnH := ⟨[], []⟩
def Z85 : FnH := ⟨[], []⟩
def Z30 : FnH := ⟨[(2, ⟨(bm 387 19), [], none⟩)], []⟩
def Z73 : FnH := ⟨[(4, ⟨(bm 2052 20), [], none⟩)], []⟩
def Za5 : FnH := ⟨[(1, ⟨(bm 1 169), [], none⟩), (9, ⟨(bm 1 169), [], none⟩)], []⟩
def Za6 : FnH := ⟨[], []⟩
theorem Z3y : Enters Tryz.prog 207 := ⟨Tryz.f207, Tryz.func207, by kernel_rfl, by kernel_rfl⟩
theorem Z90 : Enters Tryz.prog 219 := ⟨Tryz.f219, Tryz.func219, by kernel_rfl, by kernel_rfl⟩
theorem Za7 : Enters Tryz.prog 226 := ⟨Tryz.f226, Tryz.func226, by kernel_rfl, by kernel_rfl⟩
theorem Z91 : Enters Tryz.prog 229 := ⟨Tryz.f229, Tryz.func229, by kernel_rfl, by kernel_rfl⟩
theorem Z7l : Enters Tryz.prog 232 := ⟨Tryz.f232, Tryz.func232, by kernel_rfl, by kernel_rfl⟩
theorem Z6o : Enters Tryz.prog 237 := ⟨Tryz.f237, Tryz.func237, by kernel_rfl, by kernel_rfl⟩
theorem Zau : Enters Tryz.prog 233 := ⟨Tryz.f233, Tryz.func233, by kernel_rfl, by kernel_rfl⟩
theorem Z5x : Enters Tryz.prog 238 := ⟨Tryz.f238, Tryz.func238, by kernel_rfl, by kernel_rfl⟩
theorem Z6p : Enters Tryz.prog 234 := ⟨Tryz.f234, Tryz.func234, by kernel_rfl, by kernel_rfl⟩
theorem Z74 : Enters Tryz.prog 239 := ⟨Tryz.f239, Tryz.func239, by kernel_rfl, by kernel_rfl⟩
theorem Z92 : Enters Tryz.prog 240 := ⟨Tryz.f240, Tryz.func240, by kernel_rfl, by kernel_rfl⟩
theorem Z93 : Enters Tryz.prog 241 := ⟨Tryz.f241, Tryz.func241, by kernel_rfl, by kernel_rfl⟩
theorem Z6q : Enters Tryz.prog 245 := ⟨Tryz.f245, Tryz.func245, by kernel_rfl, by kernel_rfl⟩
theorem Zbf : Enters Tryz.prog 242 := ⟨Tryz.f242, Tryz.func242, by kernel_rfl, by kernel_rfl⟩
theorem Zav : Enters Tryz.prog 243 := ⟨Tryz.f243, Tryz.func243, by kernel_rfl, by kernel_rfl⟩
theorem Zaw : Enters Tryz.prog 235 := ⟨Tryz.f235, Tryz.func235, by kernel_rfl, by kernel_rfl⟩
theorem Zax : Enters Tryz.prog 236 := ⟨Tryz.f236, Tryz.func236, by kernel_rfl, by kernel_rfl⟩
theorem Z86 : Enters Tryz.prog 231 := ⟨Tryz.f231, Tryz.func231, by kernel_rfl, by kernel_rfl⟩
theorem Z31 : Enters Tryz.prog 230 := ⟨Tryz.f230, Tryz.func230, by kernel_rfl, by kernel_rfl⟩
theorem Z75 : Enters Tryz.prog 227 := ⟨Tryz.f227, Tryz.func227, by kernel_rfl, by kernel_rfl⟩
theorem Za8 : Enters Tryz.prog 163 := ⟨Tryz.f163, Tryz.func163, by kernel_rfl, by kernel_rfl⟩
theorem Za9 : Enters Tryz.prog 189 := ⟨Tryz.f189, Tryz.func189, by kernel_rfl, by kernel_rfl⟩
noncomputable def Zaa : Hints := ⟨[], [(207, Tryz.f207, Z2q), (219, Tryz.f219, Z8w), (226, Tryz.f226, Za4), (229, Tryz.f229, Z8x), (232, Tryz.f232, Z7k), (237, Tryz.f237, Z6l), (233, Tryz.f233, Zaq), (238, Tryz.f238, Z5w), (234, Tryz.f234, Z6m), (239, Tryz.f239, Z72), (240, Tryz.f240, Z8y), (241, Tryz.f241, Z8z), (245, Tryz.f245, Z6n), (242, Tryz.f242, Zbe), (243, Tryz.f243, Zar), (235, Tryz.f235, Zas), (236, Tryz.f236, Zat), (231, Tryz.f231, Z85), (230, Tryz.f230, Z30), (227, Tryz.f227, Z73), (163, Tryz.f163, Za5), (189, Tryz.f189, Za6)], [233, 235, 236, 238, 183]⟩
theorem Zk4 {m n : Nat} {ds : List D} {d : D} (h : funD Tryz.prog Zaa m n Z2q Tryz.f207 ds = some d) : DataSem Tryz.prog 207 ds d := data_sound (H := Zaa) SpOk.nil mixed (InlOk.cons Tryz.func207 Z3y (InlOk.cons Tryz.func219 Z90 (InlOk.cons Tryz.func226 Za7 (InlOk.cons Tryz.func229 Z91 (InlOk.cons Tryz.func232 Z7l (InlOk.cons Tryz.func237 Z6o (InlOk.cons Tryz.func233 Zau (InlOk.cons Tryz.func238 Z5x (InlOk.cons Tryz.func234 Z6p (InlOk.cons Tryz.func239 Z74 (InlOk.cons Tryz.func240 Z92 (InlOk.cons Tryz.func241 Z93 (InlOk.cons Tryz.func245 Z6q (InlOk.cons Tryz.func242 Zbf (InlOk.cons Tryz.func243 Zav (InlOk.cons Tryz.func235 Zaw (InlOk.cons Tryz.func236 Zax (InlOk.cons Tryz.func231 Z86 (InlOk.cons Tryz.func230 Z31 (InlOk.cons Tryz.func227 Z75 (InlOk.cons Tryz.func163 Za8 (InlOk.cons Tryz.func189 Za9 InlOk.nil)))))))))))))))))))))) Tryz.func207 Z3y h
def Zfa : List D := [(D.agg [(D.v (.int .u32 (12 : Int))), (D.v (.string (ByteArray.mk #[98])))])]
def Zfb : D := zI
theorem Zmc : funD Tryz.prog Zaa 100000 60 Z2q Tryz.f207 Zfa = some Zfb := by kernel_rfl
def Z4j (ds : List D) : Option D := if isT Zfa ds then some Zfb else (none)
theorem Zbg : ∀ ds d, Z4j ds = some d → DataSem Tryz.prog 207 ds d := by
  intro ds d h
  unfold Z4j at h
  split at h
  · rename_i ha; obtain rfl := isT_eq ha; cases h; exact Zk4 Zmc
  cases h

def Z2i : FnH := ⟨[], []⟩
def Z5y : FnH := ⟨[(2, ⟨(bm 20 10), [], none⟩)], []⟩
theorem Z3p : Enters Tryz.prog 208 := ⟨Tryz.f208, Tryz.func208, by kernel_rfl, by kernel_rfl⟩
theorem Z5z : Enters Tryz.prog 220 := ⟨Tryz.f220, Tryz.func220, by kernel_rfl, by kernel_rfl⟩
noncomputable def Z87 : Hints := ⟨[(207, Z4j)], [(208, Tryz.f208, Z2i), (220, Tryz.f220, Z5y)], [233, 235, 236, 238, 183]⟩
theorem Zj2 {m n : Nat} {ds : List D} {d : D} (h : funD Tryz.prog Z87 m n Z2i Tryz.f208 ds = some d) : DataSem Tryz.prog 208 ds d := data_sound (H := Z87) (SpOk.cons Zbg SpOk.nil) mixed (InlOk.cons Tryz.func208 Z3p (InlOk.cons Tryz.func220 Z5z InlOk.nil)) Tryz.func208 Z3p h
def Zdu : List D := [(D.agg [(D.v (.int .u32 (12 : Int))), (D.v (.string (ByteArray.mk #[98])))])]
def Zdv : D := (D.v (.int .i64 (1 : Int)))
theorem Zl5 : funD Tryz.prog Z87 100000 60 Z2i Tryz.f208 Zdu = some Zdv := by kernel_rfl
def Z5a (ds : List D) : Option D := if isT Zdu ds then some Zdv else (none)
theorem Zg2 : ∀ ds d, Z5a ds = some d → DataSem Tryz.prog 208 ds d := by
  intro ds d h
  unfold Z5a at h
  split at h
  · rename_i ha; obtain rfl := isT_eq ha; cases h; exact Zj2 Zl5
  cases h

def Z2g : FnH := ⟨[], []⟩
theorem Zb9 : Enters Tryz.prog 215 := ⟨Tryz.f215, Tryz.func215, by kernel_rfl, by kernel_rfl⟩
noncomputable def Z7x : Hints := ⟨[], [(215, Tryz.f215, Z2g)], [233, 235, 236, 238, 183]⟩
theorem Z8d {m n : Nat} {ds : List D} {d : D} (h : funD Tryz.prog Z7x m n Z2g Tryz.f215 ds = some d) : DataSem Tryz.prog 215 ds d := data_sound (H := Z7x) SpOk.nil mixed (InlOk.cons Tryz.func215 Zb9 InlOk.nil) Tryz.func215 Zb9 h
def Zmj : List D := [(D.agg [(D.v (.int .u8 (0 : Int))), (D.v (.bool true)), (D.v (.int .u32 (16 : Int)))])]
def Zmk : D := zI
def Zml : List D := [(D.agg [(D.v (.int .u8 (0 : Int))), (D.v (.bool false)), (D.v (.int .u32 (6 : Int)))])]
def Zmm : D := zI
def Zmn : List D := [(D.agg [(D.v (.int .u8 (0 : Int))), (D.v (.bool false)), (D.v (.int .u32 (22 : Int)))])]
def Zmo : D := zI
def Zmp : List D := [(D.agg [(D.v (.int .u8 (0 : Int))), (D.v (.bool false)), (D.v (.int .u32 (12 : Int)))])]
def Zmq : D := zI
theorem Zsi : funD Tryz.prog Z7x 100000 60 Z2g Tryz.f215 Zmj = some Zmk := by kernel_rfl
theorem Zsj : funD Tryz.prog Z7x 100000 60 Z2g Tryz.f215 Zml = some Zmm := by kernel_rfl
theorem Zsk : funD Tryz.prog Z7x 100000 60 Z2g Tryz.f215 Zmn = some Zmo := by kernel_rfl
theorem Zsl : funD Tryz.prog Z7x 100000 60 Z2g Tryz.f215 Zmp = some Zmq := by kernel_rfl
def Zay (ds : List D) : Option D := if isT Zmj ds then some Zmk else (if isT Zml ds then some Zmm else (if isT Zmn ds then some Zmo else (if isT Zmp ds then some Zmq else (none))))
theorem Zhh : ∀ ds d, Zay ds = some d → DataSem Tryz.prog 215 ds d := by
  intro ds d h
  unfold Zay at h
  split at h
  · rename_i ha; obtain rfl := isT_eq ha; cases h; exact Z8d Zsi
  split at h
  · rename_i ha; obtain rfl := isT_eq ha; cases h; exact Z8d Zsj
  split at h
  · rename_i ha; obtain rfl := isT_eq ha; cases h; exact Z8d Zsk
  split at h
  · rename_i ha; obtain rfl := isT_eq ha; cases h; exact Z8d Zsl
  cases h

def Z32 : FnH := ⟨[], []⟩
def Z94 : FnH := ⟨[], []⟩
def Z95 : FnH := ⟨[(4, ⟨(bm 14336 24), [(11, 1)], none⟩)], []⟩
def Z96 : FnH := ⟨[], []⟩
def Z76 : FnH := ⟨[], []⟩
def Z97 : FnH := ⟨[], []⟩
def Zab : FnH := ⟨[], []⟩
def Z7m : FnH := ⟨[], []⟩
def Z4o : FnH := ⟨[], []⟩
def Z5b : FnH := ⟨[(2, ⟨(bm 387 19), [], none⟩)], []⟩
def Z6r : FnH := ⟨[(8, ⟨(bm 3758096566 83), [(29, 1)], none⟩)], []⟩
def Zbx : FnH := ⟨[(3, ⟨(bm 73 25), [], none⟩), (8, ⟨(bm 32 25), [(5, 1)], none⟩)], []⟩
def Z88 : FnH := ⟨[], []⟩
def Z40 : FnH := ⟨[], []⟩
def Z98 : FnH := ⟨[], []⟩
def Z99 : FnH := ⟨[], []⟩
def Zf1 : FnH := ⟨[(6, ⟨(bm 1924145348608 47), [(38, 1)], none⟩)], []⟩
def Zdi : FnH := ⟨[], []⟩
def Zcl : FnH := ⟨[], []⟩
def Zbh : FnH := ⟨[], []⟩
def Z68 : FnH := ⟨[(25, ⟨(bm 16655 151), [], none⟩)], []⟩
def Zg3 : FnH := ⟨[], []⟩
def Zdw : FnH := ⟨[(3, ⟨(bm 13 43), [], none⟩)], []⟩
def Zdx : FnH := ⟨[], []⟩
def Zdy : FnH := ⟨[], []⟩
def Z9a : FnH := ⟨[], []⟩
theorem Z49 : Enters Tryz.prog 152 := ⟨Tryz.f152, Tryz.func152, by kernel_rfl, by kernel_rfl⟩
theorem Z9b : Enters Tryz.prog 168 := ⟨Tryz.f168, Tryz.func168, by kernel_rfl, by kernel_rfl⟩
theorem Z9c : Enters Tryz.prog 169 := ⟨Tryz.f169, Tryz.func169, by kernel_rfl, by kernel_rfl⟩
theorem Z9d : Enters Tryz.prog 170 := ⟨Tryz.f170, Tryz.func170, by kernel_rfl, by kernel_rfl⟩
theorem Z77 : Enters Tryz.prog 171 := ⟨Tryz.f171, Tryz.func171, by kernel_rfl, by kernel_rfl⟩
theorem Z9e : Enters Tryz.prog 172 := ⟨Tryz.f172, Tryz.func172, by kernel_rfl, by kernel_rfl⟩
theorem Zac : Enters Tryz.prog 173 := ⟨Tryz.f173, Tryz.func173, by kernel_rfl, by kernel_rfl⟩
theorem Z7n : Enters Tryz.prog 192 := ⟨Tryz.f192, Tryz.func192, by kernel_rfl, by kernel_rfl⟩
theorem Z4p : Enters Tryz.prog 206 := ⟨Tryz.f206, Tryz.func206, by kernel_rfl, by kernel_rfl⟩
theorem Z5c : Enters Tryz.prog 218 := ⟨Tryz.f218, Tryz.func218, by kernel_rfl, by kernel_rfl⟩
theorem Z6s : Enters Tryz.prog 174 := ⟨Tryz.f174, Tryz.func174, by kernel_rfl, by kernel_rfl⟩
theorem Zby : Enters Tryz.prog 194 := ⟨Tryz.f194, Tryz.func194, by kernel_rfl, by kernel_rfl⟩
theorem Z89 : Enters Tryz.prog 210 := ⟨Tryz.f210, Tryz.func210, by kernel_rfl, by kernel_rfl⟩
theorem Z41 : Enters Tryz.prog 195 := ⟨Tryz.f195, Tryz.func195, by kernel_rfl, by kernel_rfl⟩
theorem Z9f : Enters Tryz.prog 175 := ⟨Tryz.f175, Tryz.func175, by kernel_rfl, by kernel_rfl⟩
theorem Z9g : Enters Tryz.prog 176 := ⟨Tryz.f176, Tryz.func176, by kernel_rfl, by kernel_rfl⟩
theorem Zf2 : Enters Tryz.prog 109 := ⟨Tryz.f109, Tryz.func109, by kernel_rfl, by kernel_rfl⟩
theorem Zdj : Enters Tryz.prog 177 := ⟨Tryz.f177, Tryz.func177, by kernel_rfl, by kernel_rfl⟩
theorem Zcm : Enters Tryz.prog 196 := ⟨Tryz.f196, Tryz.func196, by kernel_rfl, by kernel_rfl⟩
theorem Zbi : Enters Tryz.prog 211 := ⟨Tryz.f211, Tryz.func211, by kernel_rfl, by kernel_rfl⟩
theorem Z69 : Enters Tryz.prog 212 := ⟨Tryz.f212, Tryz.func212, by kernel_rfl, by kernel_rfl⟩
theorem Zg4 : Enters Tryz.prog 221 := ⟨Tryz.f221, Tryz.func221, by kernel_rfl, by kernel_rfl⟩
theorem Zdz : Enters Tryz.prog 228 := ⟨Tryz.f228, Tryz.func228, by kernel_rfl, by kernel_rfl⟩
theorem Ze0 : Enters Tryz.prog 222 := ⟨Tryz.f222, Tryz.func222, by kernel_rfl, by kernel_rfl⟩
theorem Ze1 : Enters Tryz.prog 223 := ⟨Tryz.f223, Tryz.func223, by kernel_rfl, by kernel_rfl⟩
theorem Z9h : Enters Tryz.prog 178 := ⟨Tryz.f178, Tryz.func178, by kernel_rfl, by kernel_rfl⟩
noncomputable def Zbj : Hints := ⟨[(154, Zcc), (193, Z4z), (207, Z4j), (208, Z5a), (215, Zay)], [(152, Tryz.f152, Z32), (168, Tryz.f168, Z94), (169, Tryz.f169, Z95), (170, Tryz.f170, Z96), (171, Tryz.f171, Z76), (172, Tryz.f172, Z97), (173, Tryz.f173, Zab), (192, Tryz.f192, Z7m), (206, Tryz.f206, Z4o), (218, Tryz.f218, Z5b), (174, Tryz.f174, Z6r), (194, Tryz.f194, Zbx), (210, Tryz.f210, Z88), (195, Tryz.f195, Z40), (175, Tryz.f175, Z98), (176, Tryz.f176, Z99), (109, Tryz.f109, Zf1), (177, Tryz.f177, Zdi), (196, Tryz.f196, Zcl), (211, Tryz.f211, Zbh), (212, Tryz.f212, Z68), (221, Tryz.f221, Zg3), (228, Tryz.f228, Zdw), (222, Tryz.f222, Zdx), (223, Tryz.f223, Zdy), (178, Tryz.f178, Z9a)], [233, 235, 236, 238, 183]⟩
theorem Zkn {m n : Nat} {ds : List D} {d : D} (h : funD Tryz.prog Zbj m n Z32 Tryz.f152 ds = some d) : DataSem Tryz.prog 152 ds d := data_sound (H := Zbj) (SpOk.cons Zlh (SpOk.cons Zf9 (SpOk.cons Zbg (SpOk.cons Zg2 (SpOk.cons Zhh SpOk.nil))))) mixed (InlOk.cons Tryz.func152 Z49 (InlOk.cons Tryz.func168 Z9b (InlOk.cons Tryz.func169 Z9c (InlOk.cons Tryz.func170 Z9d (InlOk.cons Tryz.func171 Z77 (InlOk.cons Tryz.func172 Z9e (InlOk.cons Tryz.func173 Zac (InlOk.cons Tryz.func192 Z7n (InlOk.cons Tryz.func206 Z4p (InlOk.cons Tryz.func218 Z5c (InlOk.cons Tryz.func174 Z6s (InlOk.cons Tryz.func194 Zby (InlOk.cons Tryz.func210 Z89 (InlOk.cons Tryz.func195 Z41 (InlOk.cons Tryz.func175 Z9f (InlOk.cons Tryz.func176 Z9g (InlOk.cons Tryz.func109 Zf2 (InlOk.cons Tryz.func177 Zdj (InlOk.cons Tryz.func196 Zcm (InlOk.cons Tryz.func211 Zbi (InlOk.cons Tryz.func212 Z69 (InlOk.cons Tryz.func221 Zg4 (InlOk.cons Tryz.func228 Zdz (InlOk.cons Tryz.func222 Ze0 (InlOk.cons Tryz.func223 Ze1 (InlOk.cons Tryz.func178 Z9h InlOk.nil)))))))))))))))))))))))))) Tryz.func152 Z49 h
def Zg5 : List D := []
def Zg6 : D := (D.agg [(D.v .nilFunc), (D.v .nilFunc), (D.v .nilFunc), (D.fn 168 []), (D.fn 169 []), (D.fn 170 []), (D.fn 172 []), (D.fn 173 []), (D.fn 174 []), (D.fn 175 []), (D.fn 176 []), (D.fn 178 [])])
theorem Zmr : funD Tryz.prog Zbj 100000 60 Z32 Tryz.f152 Zg5 = some Zg6 := by kernel_rfl
def Zcn (ds : List D) : Option D := if isT Zg5 ds then some Zg6 else (none)
theorem Zow : ∀ ds d, Zcn ds = some d → DataSem Tryz.prog 152 ds d := by
  intro ds d h
  unfold Zcn at h
  split at h
  · rename_i ha; obtain rfl := isT_eq ha; cases h; exact Zkn Zmr
  cases h

def Z50 : FnH := ⟨[(8, ⟨(bm 939524140 43), [(2, 1), (27, 1), (1002000, 1)], none⟩), (11, ⟨(bm 939524140 43), [], none⟩)], []⟩
def Zko : FnH := ⟨[(6, ⟨(bm 1924145348608 47), [(38, 1)], none⟩)], []⟩
def Zl6 : FnH := ⟨[], []⟩
def Z9i : FnH := ⟨[], []⟩
def Zk5 : FnH := ⟨[], []⟩
def Zi8 : FnH := ⟨[(1, ⟨(bm 11 31), [], none⟩), (3, ⟨(bm 11 31), [], none⟩)], []⟩
def Zco : FnH := ⟨[], []⟩
theorem Zfc : Enters Tryz.prog 155 := ⟨Tryz.f155, Tryz.func155, by kernel_rfl, by kernel_rfl⟩
theorem Zkp : Enters Tryz.prog 109 := ⟨Tryz.f109, Tryz.func109, by kernel_rfl, by kernel_rfl⟩
theorem Zl7 : Enters Tryz.prog 112 := ⟨Tryz.f112, Tryz.func112, by kernel_rfl, by kernel_rfl⟩
theorem Z9j : Enters Tryz.prog 179 := ⟨Tryz.f179, Tryz.func179, by kernel_rfl, by kernel_rfl⟩
theorem Zk6 : Enters Tryz.prog 180 := ⟨Tryz.f180, Tryz.func180, by kernel_rfl, by kernel_rfl⟩
theorem Zi9 : Enters Tryz.prog 197 := ⟨Tryz.f197, Tryz.func197, by kernel_rfl, by kernel_rfl⟩
theorem Zcp : Enters Tryz.prog 171 := ⟨Tryz.f171, Tryz.func171, by kernel_rfl, by kernel_rfl⟩
noncomputable def Zjc : Hints := ⟨[], [(155, Tryz.f155, Z50), (109, Tryz.f109, Zko), (112, Tryz.f112, Zl6), (179, Tryz.f179, Z9i), (180, Tryz.f180, Zk5), (197, Tryz.f197, Zi8), (171, Tryz.f171, Zco)], [233, 235, 236, 238, 183]⟩
theorem Zli {m n : Nat} {ds : List D} {d : D} (h : funD Tryz.prog Zjc m n Z50 Tryz.f155 ds = some d) : DataSem Tryz.prog 155 ds d := data_sound (H := Zjc) SpOk.nil mixed (InlOk.cons Tryz.func155 Zfc (InlOk.cons Tryz.func109 Zkp (InlOk.cons Tryz.func112 Zl7 (InlOk.cons Tryz.func179 Z9j (InlOk.cons Tryz.func180 Zk6 (InlOk.cons Tryz.func197 Zi9 (InlOk.cons Tryz.func171 Zcp InlOk.nil))))))) Tryz.func155 Zfc h
def Zpk : List D := [(D.agg [(D.v (.int .u8 (9 : Int))), (D.v (.int .u32 (1 : Int))), (D.v (.int .u32 (3 : Int))), (D.v (.int .u32 (6 : Int))), (D.v (.int .u32 (1 : Int))), (D.v (.int .u32 (5 : Int))), (D.v (.int .u32 (5 : Int))), (D.v (.int .u32 (7 : Int))), (D.v (.int .u32 (2 : Int))), (D.v (.int .u32 (1 : Int))), zU, zU, zU, zU, zU, zU, zU])]
def Zpl : D := (D.tup [(D.list 8 (some 8) [(D.v (.int .u8 (43 : Int))), (D.v (.int .u8 (6 : Int))), (D.v (.int .u8 (1 : Int))), (D.v (.int .u8 (5 : Int))), (D.v (.int .u8 (5 : Int))), (D.v (.int .u8 (7 : Int))), (D.v (.int .u8 (2 : Int))), (D.v (.int .u8 (1 : Int)))]), zI])
def Zpm : List D := [(D.agg [(D.v (.int .u8 (9 : Int))), (D.v (.int .u32 (1 : Int))), (D.v (.int .u32 (3 : Int))), (D.v (.int .u32 (6 : Int))), (D.v (.int .u32 (1 : Int))), (D.v (.int .u32 (5 : Int))), (D.v (.int .u32 (5 : Int))), (D.v (.int .u32 (7 : Int))), (D.v (.int .u32 (2 : Int))), (D.v (.int .u32 (2 : Int))), zU, zU, zU, zU, zU, zU, zU])]
def Zpn : D := (D.tup [(D.list 8 (some 8) [(D.v (.int .u8 (43 : Int))), (D.v (.int .u8 (6 : Int))), (D.v (.int .u8 (1 : Int))), (D.v (.int .u8 (5 : Int))), (D.v (.int .u8 (5 : Int))), (D.v (.int .u8 (7 : Int))), (D.v (.int .u8 (2 : Int))), (D.v (.int .u8 (2 : Int)))]), zI])
theorem Zuf : funD Tryz.prog Zjc 100000 60 Z50 Tryz.f155 Zpk = some Zpl := by kernel_rfl
theorem Zug : funD Tryz.prog Zjc 100000 60 Z50 Tryz.f155 Zpm = some Zpn := by kernel_rfl
def Zox (ds : List D) : Option D := if isT Zpk ds then some Zpl else (if isT Zpm ds then some Zpn else (none))
theorem Zva : ∀ ds d, Zox ds = some d → DataSem Tryz.prog 155 ds d := by
  intro ds d h
  unfold Zox at h
  split at h
  · rename_i ha; obtain rfl := isT_eq ha; cases h; exact Zli Zuf
  split at h
  · rename_i ha; obtain rfl := isT_eq ha; cases h; exact Zli Zug
  cases h

def Z1y : FnH := ⟨[], []⟩
def Z9k : FnH := ⟨[], []⟩
def Zcq : FnH := ⟨[], []⟩
def Zbk : FnH := ⟨[(5, ⟨(bm 3670026 34), [(19, 5)], none⟩)], []⟩
theorem Z4a : Enters Tryz.prog 198 := ⟨Tryz.f198, Tryz.func198, by kernel_rfl, by kernel_rfl⟩
theorem Z9l : Enters Tryz.prog 214 := ⟨Tryz.f214, Tryz.func214, by kernel_rfl, by kernel_rfl⟩
theorem Zcr : Enters Tryz.prog 213 := ⟨Tryz.f213, Tryz.func213, by kernel_rfl, by kernel_rfl⟩
theorem Zbl : Enters Tryz.prog 224 := ⟨Tryz.f224, Tryz.func224, by kernel_rfl, by kernel_rfl⟩
noncomputable def Z60 : Hints := ⟨[(215, Zay)], [(198, Tryz.f198, Z1y), (214, Tryz.f214, Z9k), (213, Tryz.f213, Zcq), (224, Tryz.f224, Zbk)], [233, 235, 236, 238, 183]⟩
theorem Zda {m n : Nat} {ds : List D} {d : D} (h : funD Tryz.prog Z60 m n Z1y Tryz.f198 ds = some d) : DataSem Tryz.prog 198 ds d := data_sound (H := Z60) (SpOk.cons Zhh SpOk.nil) mixed (InlOk.cons Tryz.func198 Z4a (InlOk.cons Tryz.func214 Z9l (InlOk.cons Tryz.func213 Zcr (InlOk.cons Tryz.func224 Zbl InlOk.nil)))) Tryz.func198 Z4a h
def Zg7 : List D := [(D.agg [(D.v (.int .u8 (0 : Int))), (D.v (.bool true)), (D.v (.int .u32 (16 : Int))), (D.list 0 (some 0) []), (D.list 2 (some 2) [(D.v (.int .u8 (0 : Int))), (D.v (.bool false)), (D.v (.int .u32 (6 : Int))), (D.list 8 (some 8) [(D.v (.int .u8 (43 : Int))), (D.v (.int .u8 (6 : Int))), (D.v (.int .u8 (1 : Int))), (D.v (.int .u8 (5 : Int))), (D.v (.int .u8 (5 : Int))), (D.v (.int .u8 (7 : Int))), (D.v (.int .u8 (2 : Int))), (D.v (.int .u8 (1 : Int)))]), (D.list 0 (some 0) []), (D.v (.int .u8 (0 : Int))), (D.v (.bool false)), (D.v (.int .u32 (22 : Int))), (D.list 8 (some 8) [(D.v (.int .u8 (104 : Int))), (D.v (.int .u8 (116 : Int))), (D.v (.int .u8 (116 : Int))), (D.v (.int .u8 (112 : Int))), (D.v (.int .u8 (58 : Int))), (D.v (.int .u8 (47 : Int))), (D.v (.int .u8 (47 : Int))), (D.v (.int .u8 (97 : Int)))]), (D.list 0 (some 0) [])])])]
def Zg8 : D := (D.tup [zI, (D.v (.int .i64 (3 : Int))), (D.v (.int .i64 (2 : Int)))])
def Zg9 : List D := [(D.agg [(D.v (.int .u8 (0 : Int))), (D.v (.bool true)), (D.v (.int .u32 (16 : Int))), (D.list 0 (some 0) []), (D.list 2 (some 2) [(D.v (.int .u8 (0 : Int))), (D.v (.bool false)), (D.v (.int .u32 (6 : Int))), (D.list 8 (some 8) [(D.v (.int .u8 (43 : Int))), (D.v (.int .u8 (6 : Int))), (D.v (.int .u8 (1 : Int))), (D.v (.int .u8 (5 : Int))), (D.v (.int .u8 (5 : Int))), (D.v (.int .u8 (7 : Int))), (D.v (.int .u8 (2 : Int))), (D.v (.int .u8 (2 : Int)))]), (D.list 0 (some 0) []), (D.v (.int .u8 (0 : Int))), (D.v (.bool true)), (D.v (.int .u32 (16 : Int))), (D.list 0 (some 0) []), (D.list 1 (some 1) [(D.v (.int .u8 (0 : Int))), (D.v (.bool false)), (D.v (.int .u32 (12 : Int))), (D.list 1 (some 1) [(D.v (.int .u8 (98 : Int)))]), (D.list 0 (some 0) [])])])])]
def Zga : D := (D.tup [zI, (D.v (.int .i64 (4 : Int))), (D.v (.int .i64 (3 : Int)))])
theorem Zms : funD Tryz.prog Z60 100000 60 Z1y Tryz.f198 Zg7 = some Zg8 := by kernel_rfl
theorem Zmt : funD Tryz.prog Z60 100000 60 Z1y Tryz.f198 Zg9 = some Zga := by kernel_rfl
def Zcs (ds : List D) : Option D := if isT Zg7 ds then some Zg8 else (if isT Zg9 ds then some Zga else (none))
theorem Zoy : ∀ ds d, Zcs ds = some d → DataSem Tryz.prog 198 ds d := by
  intro ds d h
  unfold Zcs at h
  split at h
  · rename_i ha; obtain rfl := isT_eq ha; cases h; exact Zda Zms
  split at h
  · rename_i ha; obtain rfl := isT_eq ha; cases h; exact Zda Zmt
  cases h

def Z1n : FnH := ⟨[], []⟩
def Zaz : FnH := ⟨[], []⟩
theorem Z8e : Enters Tryz.prog 203 := ⟨Tryz.f203, Tryz.func203, by kernel_rfl, by kernel_rfl⟩
theorem Zb0 : Enters Tryz.prog 171 := ⟨Tryz.f171, Tryz.func171, by kernel_rfl, by kernel_rfl⟩
noncomputable def Z4q : Hints := ⟨[], [(203, Tryz.f203, Z1n), (171, Tryz.f171, Zaz)], [233, 235, 236, 238, 183]⟩
theorem Z4r {m n : Nat} {ds : List D} {d : D} (h : funD Tryz.prog Z4q m n Z1n Tryz.f203 ds = some d) : DataSem Tryz.prog 203 ds d := data_sound (H := Z4q) SpOk.nil mixed (InlOk.cons Tryz.func203 Z8e (InlOk.cons Tryz.func171 Zb0 InlOk.nil)) Tryz.func203 Z8e h
def Zlj : List D := [(D.v (.int .i64 (8 : Int)))]
def Zlk : D := (D.tup [(D.list 1 (some 1) [(D.v (.int .u8 (8 : Int)))]), zI])
def Zll : List D := [(D.v (.int .i64 (20 : Int)))]
def Zlm : D := (D.tup [(D.list 1 (some 1) [(D.v (.int .u8 (20 : Int)))]), zI])
def Zln : List D := [(D.v (.int .i64 (1 : Int)))]
def Zlo : D := (D.tup [(D.list 1 (some 1) [(D.v (.int .u8 (1 : Int)))]), zI])
def Zlp : List D := [(D.v (.int .i64 (3 : Int)))]
def Zlq : D := (D.tup [(D.list 1 (some 1) [(D.v (.int .u8 (3 : Int)))]), zI])
def Zlr : List D := [(D.v (.int .i64 (15 : Int)))]
def Zls : D := (D.tup [(D.list 1 (some 1) [(D.v (.int .u8 (15 : Int)))]), zI])
theorem Zrl : funD Tryz.prog Z4q 100000 60 Z1n Tryz.f203 Zlj = some Zlk := by kernel_rfl
theorem Zrm : funD Tryz.prog Z4q 100000 60 Z1n Tryz.f203 Zll = some Zlm := by kernel_rfl
theorem Zrn : funD Tryz.prog Z4q 100000 60 Z1n Tryz.f203 Zln = some Zlo := by kernel_rfl
theorem Zro : funD Tryz.prog Z4q 100000 60 Z1n Tryz.f203 Zlp = some Zlq := by kernel_rfl
theorem Zrp : funD Tryz.prog Z4q 100000 60 Z1n Tryz.f203 Zlr = some Zls := by kernel_rfl
def Zfr (ds : List D) : Option D := if isT Zlj ds then some Zlk else (if isT Zll ds then some Zlm else (if isT Zln ds then some Zlo else (if isT Zlp ds then some Zlq else (if isT Zlr ds then some Zls else (none)))))
theorem Zo8 : ∀ ds d, Zfr ds = some d → DataSem Tryz.prog 203 ds d := by
  intro ds d h
  unfold Zfr at h
  split at h
  · rename_i ha; obtain rfl := isT_eq ha; cases h; exact Z4r Zrl
  split at h
  · rename_i ha; obtain rfl := isT_eq ha; cases h; exact Z4r Zrm
  split at h
  · rename_i ha; obtain rfl := isT_eq ha; cases h; exact Z4r Zrn
  split at h
  · rename_i ha; obtain rfl := isT_eq ha; cases h; exact Z4r Zro
  split at h
  · rename_i ha; obtain rfl := isT_eq ha; cases h; exact Z4r Zrp
  cases h

def Z1a : FnH := ⟨[], []⟩
def Zfg : FnH := ⟨[], []⟩
theorem Z5j : Enters Tryz.prog 200 := ⟨Tryz.f200, Tryz.func200, by kernel_rfl, by kernel_rfl⟩
theorem Zfh : Enters Tryz.prog 216 := ⟨Tryz.f216, Tryz.func216, by kernel_rfl, by kernel_rfl⟩
noncomputable def Z3w : Hints := ⟨[(203, Zfr)], [(200, Tryz.f200, Z1a), (216, Tryz.f216, Zfg)], [233, 235, 236, 238, 183]⟩
theorem Z42 {m n : Nat} {ds : List D} {d : D} (h : funD Tryz.prog Z3w m n Z1a Tryz.f200 ds = some d) : DataSem Tryz.prog 200 ds d := data_sound (H := Z3w) (SpOk.cons Zo8 SpOk.nil) mixed (InlOk.cons Tryz.func200 Z5j (InlOk.cons Tryz.func216 Zfh InlOk.nil)) Tryz.func200 Z5j h
def Zjd : List D := [(D.v (.int .i64 (1 : Int))), (D.v (.int .i64 (8 : Int)))]
def Zje : D := (D.v (.int .i64 (10 : Int)))
def Zjf : List D := [(D.v (.int .i64 (1 : Int))), (D.v (.int .i64 (20 : Int)))]
def Zjg : D := (D.v (.int .i64 (22 : Int)))
def Zjh : List D := [(D.v (.int .i64 (1 : Int))), (D.v (.int .i64 (1 : Int)))]
def Zji : D := (D.v (.int .i64 (3 : Int)))
def Zjj : List D := [(D.v (.int .i64 (1 : Int))), (D.v (.int .i64 (3 : Int)))]
def Zjk : D := (D.v (.int .i64 (5 : Int)))
def Zjl : List D := [(D.v (.int .i64 (1 : Int))), (D.v (.int .i64 (15 : Int)))]
def Zjm : D := (D.v (.int .i64 (17 : Int)))
theorem Zpo : funD Tryz.prog Z3w 100000 60 Z1a Tryz.f200 Zjd = some Zje := by kernel_rfl
theorem Zpp : funD Tryz.prog Z3w 100000 60 Z1a Tryz.f200 Zjf = some Zjg := by kernel_rfl
theorem Zpq : funD Tryz.prog Z3w 100000 60 Z1a Tryz.f200 Zjh = some Zji := by kernel_rfl
theorem Zpr : funD Tryz.prog Z3w 100000 60 Z1a Tryz.f200 Zjj = some Zjk := by kernel_rfl
theorem Zps : funD Tryz.prog Z3w 100000 60 Z1a Tryz.f200 Zjl = some Zjm := by kernel_rfl
def Zcd (ds : List D) : Option D := if isT Zjd ds then some Zje else (if isT Zjf ds then some Zjg else (if isT Zjh ds then some Zji else (if isT Zjj ds then some Zjk else (if isT Zjl ds then some Zjm else (none)))))
theorem Zlt : ∀ ds d, Zcd ds = some d → DataSem Tryz.prog 200 ds d := by
  intro ds d h
  unfold Zcd at h
  split at h
  · rename_i ha; obtain rfl := isT_eq ha; cases h; exact Z42 Zpo
  split at h
  · rename_i ha; obtain rfl := isT_eq ha; cases h; exact Z42 Zpp
  split at h
  · rename_i ha; obtain rfl := isT_eq ha; cases h; exact Z42 Zpq
  split at h
  · rename_i ha; obtain rfl := isT_eq ha; cases h; exact Z42 Zpr
  split at h
  · rename_i ha; obtain rfl := isT_eq ha; cases h; exact Z42 Zps
  cases h

def Z38 : FnH := ⟨[(11, ⟨(bm 76 42), [], none⟩)], []⟩
def Zk7 : FnH := ⟨[], []⟩
def Zia : FnH := ⟨[(1, ⟨(bm 11 29), [], none⟩), (3, ⟨(bm 11 29), [], none⟩)], []⟩
def Zct : FnH := ⟨[], []⟩
theorem Zfd : Enters Tryz.prog 202 := ⟨Tryz.f202, Tryz.func202, by kernel_rfl, by kernel_rfl⟩
theorem Zk8 : Enters Tryz.prog 217 := ⟨Tryz.f217, Tryz.func217, by kernel_rfl, by kernel_rfl⟩
theorem Zib : Enters Tryz.prog 225 := ⟨Tryz.f225, Tryz.func225, by kernel_rfl, by kernel_rfl⟩
theorem Zcu : Enters Tryz.prog 171 := ⟨Tryz.f171, Tryz.func171, by kernel_rfl, by kernel_rfl⟩
noncomputable def Zdb : Hints := ⟨[(215, Zay)], [(202, Tryz.f202, Z38), (217, Tryz.f217, Zk7), (225, Tryz.f225, Zia), (171, Tryz.f171, Zct)], [233, 235, 236, 238, 183]⟩
theorem Zce {m n : Nat} {ds : List D} {d : D} (h : funD Tryz.prog Zdb m n Z38 Tryz.f202 ds = some d) : DataSem Tryz.prog 202 ds d := data_sound (H := Zdb) (SpOk.cons Zhh SpOk.nil) mixed (InlOk.cons Tryz.func202 Zfd (InlOk.cons Tryz.func217 Zk8 (InlOk.cons Tryz.func225 Zib (InlOk.cons Tryz.func171 Zcu InlOk.nil)))) Tryz.func202 Zfd h
def Zpt : List D := [(D.agg [(D.v (.int .u8 (0 : Int))), (D.v (.bool false)), (D.v (.int .u32 (6 : Int)))])]
def Zpu : D := (D.tup [(D.list 1 (some 1) [(D.v (.int .u8 (6 : Int)))]), zI])
def Zpv : List D := [(D.agg [(D.v (.int .u8 (0 : Int))), (D.v (.bool false)), (D.v (.int .u32 (22 : Int)))])]
def Zpw : D := (D.tup [(D.list 1 (some 1) [(D.v (.int .u8 (22 : Int)))]), zI])
def Zpx : List D := [(D.agg [(D.v (.int .u8 (0 : Int))), (D.v (.bool true)), (D.v (.int .u32 (16 : Int)))])]
def Zpy : D := (D.tup [(D.list 1 (some 1) [(D.v (.int .u8 (48 : Int)))]), zI])
def Zpz : List D := [(D.agg [(D.v (.int .u8 (0 : Int))), (D.v (.bool false)), (D.v (.int .u32 (12 : Int)))])]
def Zq0 : D := (D.tup [(D.list 1 (some 1) [(D.v (.int .u8 (12 : Int)))]), zI])
theorem Zuh : funD Tryz.prog Zdb 100000 60 Z38 Tryz.f202 Zpt = some Zpu := by kernel_rfl
theorem Zui : funD Tryz.prog Zdb 100000 60 Z38 Tryz.f202 Zpv = some Zpw := by kernel_rfl
theorem Zuj : funD Tryz.prog Zdb 100000 60 Z38 Tryz.f202 Zpx = some Zpy := by kernel_rfl
theorem Zuk : funD Tryz.prog Zdb 100000 60 Z38 Tryz.f202 Zpz = some Zq0 := by kernel_rfl
def Zl8 (ds : List D) : Option D := if isT Zpt ds then some Zpu else (if isT Zpv ds then some Zpw else (if isT Zpx ds then some Zpy else (if isT Zpz ds then some Zq0 else (none))))
theorem Zsm : ∀ ds d, Zl8 ds = some d → DataSem Tryz.prog 202 ds d := by
  intro ds d h
  unfold Zl8 at h
  split at h
  · rename_i ha; obtain rfl := isT_eq ha; cases h; exact Zce Zuh
  split at h
  · rename_i ha; obtain rfl := isT_eq ha; cases h; exact Zce Zui
  split at h
  · rename_i ha; obtain rfl := isT_eq ha; cases h; exact Zce Zuj
  split at h
  · rename_i ha; obtain rfl := isT_eq ha; cases h; exact Zce Zuk
  cases h

def Z2r : FnH := ⟨[], []⟩
theorem Zdc : Enters Tryz.prog 201 := ⟨Tryz.f201, Tryz.func201, by kernel_rfl, by kernel_rfl⟩
noncomputable def Zb1 : Hints := ⟨[(202, Zl8)], [(201, Tryz.f201, Z2r)], [233, 235, 236, 238, 183]⟩
theorem Zb2 {m n : Nat} {ds : List D} {d : D} (h : funD Tryz.prog Zb1 m n Z2r Tryz.f201 ds = some d) : DataSem Tryz.prog 201 ds d := data_sound (H := Zb1) (SpOk.cons Zsm SpOk.nil) mixed (InlOk.cons Tryz.func201 Zdc InlOk.nil) Tryz.func201 Zdc h
def Zo9 : List D := [(D.agg [(D.v (.int .u8 (0 : Int))), (D.v (.bool false)), (D.v (.int .u32 (6 : Int)))])]
def Zoa : D := (D.v (.int .i64 (1 : Int)))
def Zob : List D := [(D.agg [(D.v (.int .u8 (0 : Int))), (D.v (.bool false)), (D.v (.int .u32 (22 : Int)))])]
def Zoc : D := (D.v (.int .i64 (1 : Int)))
def Zod : List D := [(D.agg [(D.v (.int .u8 (0 : Int))), (D.v (.bool true)), (D.v (.int .u32 (16 : Int)))])]
def Zoe : D := (D.v (.int .i64 (1 : Int)))
def Zof : List D := [(D.agg [(D.v (.int .u8 (0 : Int))), (D.v (.bool false)), (D.v (.int .u32 (12 : Int)))])]
def Zog : D := (D.v (.int .i64 (1 : Int)))
theorem Ztj : funD Tryz.prog Zb1 100000 60 Z2r Tryz.f201 Zo9 = some Zoa := by kernel_rfl
theorem Ztk : funD Tryz.prog Zb1 100000 60 Z2r Tryz.f201 Zob = some Zoc := by kernel_rfl
theorem Ztl : funD Tryz.prog Zb1 100000 60 Z2r Tryz.f201 Zod = some Zoe := by kernel_rfl
theorem Ztm : funD Tryz.prog Zb1 100000 60 Z2r Tryz.f201 Zof = some Zog := by kernel_rfl
def Zjn (ds : List D) : Option D := if isT Zo9 ds then some Zoa else (if isT Zob ds then some Zoc else (if isT Zod ds then some Zoe else (if isT Zof ds then some Zog else (none))))
theorem Zrh : ∀ ds d, Zjn ds = some d → DataSem Tryz.prog 201 ds d := by
  intro ds d h
  unfold Zjn at h
  split at h
  · rename_i ha; obtain rfl := isT_eq ha; cases h; exact Zb2 Ztj
  split at h
  · rename_i ha; obtain rfl := isT_eq ha; cases h; exact Zb2 Ztk
  split at h
  · rename_i ha; obtain rfl := isT_eq ha; cases h; exact Zb2 Ztl
  split at h
  · rename_i ha; obtain rfl := isT_eq ha; cases h; exact Zb2 Ztm
  cases h

def Zl : FnH := ⟨[(5, ⟨(bm 114696 27), [(14, 5)], none⟩)], []⟩
def Zcv : FnH := ⟨[], []⟩
theorem Z4b : Enters Tryz.prog 199 := ⟨Tryz.f199, Tryz.func199, by kernel_rfl, by kernel_rfl⟩
theorem Zcw : Enters Tryz.prog 182 := ⟨Tryz.f182, Tryz.func182, by kernel_rfl, by kernel_rfl⟩
noncomputable def Z24 : Hints := ⟨[(200, Zcd), (201, Zjn)], [(199, Tryz.f199, Zl), (182, Tryz.f182, Zcv)], [233, 235, 236, 238, 183]⟩
theorem Z25 {m n : Nat} {ds : List D} {d : D} (h : funD Tryz.prog Z24 m n Zl Tryz.f199 ds = some d) : DataSem Tryz.prog 199 ds d := data_sound (H := Z24) (SpOk.cons Zlt (SpOk.cons Zrh SpOk.nil)) mixed (InlOk.cons Tryz.func199 Z4b (InlOk.cons Tryz.func182 Zcw InlOk.nil)) Tryz.func199 Z4b h
def Zgb : List D := [(D.agg [(D.v (.int .u8 (0 : Int))), (D.v (.bool true)), (D.v (.int .u32 (16 : Int))), (D.list 0 (some 0) []), (D.list 2 (some 2) [(D.v (.int .u8 (0 : Int))), (D.v (.bool false)), (D.v (.int .u32 (6 : Int))), (D.list 8 (some 8) [(D.v (.int .u8 (43 : Int))), (D.v (.int .u8 (6 : Int))), (D.v (.int .u8 (1 : Int))), (D.v (.int .u8 (5 : Int))), (D.v (.int .u8 (5 : Int))), (D.v (.int .u8 (7 : Int))), (D.v (.int .u8 (2 : Int))), (D.v (.int .u8 (1 : Int)))]), (D.list 0 (some 0) []), (D.v (.int .u8 (0 : Int))), (D.v (.bool false)), (D.v (.int .u32 (22 : Int))), (D.list 8 (some 8) [(D.v (.int .u8 (104 : Int))), (D.v (.int .u8 (116 : Int))), (D.v (.int .u8 (116 : Int))), (D.v (.int .u8 (112 : Int))), (D.v (.int .u8 (58 : Int))), (D.v (.int .u8 (47 : Int))), (D.v (.int .u8 (47 : Int))), (D.v (.int .u8 (97 : Int)))]), (D.list 0 (some 0) [])])])]
def Zgc : D := (D.v (.int .i64 (20 : Int)))
def Zgd : List D := [(D.agg [(D.v (.int .u8 (0 : Int))), (D.v (.bool false)), (D.v (.int .u32 (6 : Int))), (D.list 8 (some 8) [(D.v (.int .u8 (43 : Int))), (D.v (.int .u8 (6 : Int))), (D.v (.int .u8 (1 : Int))), (D.v (.int .u8 (5 : Int))), (D.v (.int .u8 (5 : Int))), (D.v (.int .u8 (7 : Int))), (D.v (.int .u8 (2 : Int))), (D.v (.int .u8 (1 : Int)))]), (D.list 0 (some 0) [])])]
def Zge : D := (D.v (.int .i64 (8 : Int)))
def Zgf : List D := [(D.agg [(D.v (.int .u8 (0 : Int))), (D.v (.bool false)), (D.v (.int .u32 (22 : Int))), (D.list 8 (some 8) [(D.v (.int .u8 (104 : Int))), (D.v (.int .u8 (116 : Int))), (D.v (.int .u8 (116 : Int))), (D.v (.int .u8 (112 : Int))), (D.v (.int .u8 (58 : Int))), (D.v (.int .u8 (47 : Int))), (D.v (.int .u8 (47 : Int))), (D.v (.int .u8 (97 : Int)))]), (D.list 0 (some 0) [])])]
def Zgg : D := (D.v (.int .i64 (8 : Int)))
def Zgh : List D := [(D.agg [(D.v (.int .u8 (0 : Int))), (D.v (.bool true)), (D.v (.int .u32 (16 : Int))), (D.list 0 (some 0) []), (D.list 2 (some 2) [(D.v (.int .u8 (0 : Int))), (D.v (.bool false)), (D.v (.int .u32 (6 : Int))), (D.list 8 (some 8) [(D.v (.int .u8 (43 : Int))), (D.v (.int .u8 (6 : Int))), (D.v (.int .u8 (1 : Int))), (D.v (.int .u8 (5 : Int))), (D.v (.int .u8 (5 : Int))), (D.v (.int .u8 (7 : Int))), (D.v (.int .u8 (2 : Int))), (D.v (.int .u8 (2 : Int)))]), (D.list 0 (some 0) []), (D.v (.int .u8 (0 : Int))), (D.v (.bool true)), (D.v (.int .u32 (16 : Int))), (D.list 0 (some 0) []), (D.list 1 (some 1) [(D.v (.int .u8 (0 : Int))), (D.v (.bool false)), (D.v (.int .u32 (12 : Int))), (D.list 1 (some 1) [(D.v (.int .u8 (98 : Int)))]), (D.list 0 (some 0) [])])])])]
def Zgi : D := (D.v (.int .i64 (15 : Int)))
def Zgj : List D := [(D.agg [(D.v (.int .u8 (0 : Int))), (D.v (.bool false)), (D.v (.int .u32 (6 : Int))), (D.list 8 (some 8) [(D.v (.int .u8 (43 : Int))), (D.v (.int .u8 (6 : Int))), (D.v (.int .u8 (1 : Int))), (D.v (.int .u8 (5 : Int))), (D.v (.int .u8 (5 : Int))), (D.v (.int .u8 (7 : Int))), (D.v (.int .u8 (2 : Int))), (D.v (.int .u8 (2 : Int)))]), (D.list 0 (some 0) [])])]
def Zgk : D := (D.v (.int .i64 (8 : Int)))
def Zgl : List D := [(D.agg [(D.v (.int .u8 (0 : Int))), (D.v (.bool true)), (D.v (.int .u32 (16 : Int))), (D.list 0 (some 0) []), (D.list 1 (some 1) [(D.v (.int .u8 (0 : Int))), (D.v (.bool false)), (D.v (.int .u32 (12 : Int))), (D.list 1 (some 1) [(D.v (.int .u8 (98 : Int)))]), (D.list 0 (some 0) [])])])]
def Zgm : D := (D.v (.int .i64 (3 : Int)))
def Zgn : List D := [(D.agg [(D.v (.int .u8 (0 : Int))), (D.v (.bool false)), (D.v (.int .u32 (12 : Int))), (D.list 1 (some 1) [(D.v (.int .u8 (98 : Int)))]), (D.list 0 (some 0) [])])]
def Zgo : D := (D.v (.int .i64 (1 : Int)))
theorem Zmu : funD Tryz.prog Z24 100000 60 Zl Tryz.f199 Zgb = some Zgc := by kernel_rfl
theorem Zmv : funD Tryz.prog Z24 100000 60 Zl Tryz.f199 Zgd = some Zge := by kernel_rfl
theorem Zmw : funD Tryz.prog Z24 100000 60 Zl Tryz.f199 Zgf = some Zgg := by kernel_rfl
theorem Zmx : funD Tryz.prog Z24 100000 60 Zl Tryz.f199 Zgh = some Zgi := by kernel_rfl
theorem Zmy : funD Tryz.prog Z24 100000 60 Zl Tryz.f199 Zgj = some Zgk := by kernel_rfl
theorem Zmz : funD Tryz.prog Z24 100000 60 Zl Tryz.f199 Zgl = some Zgm := by kernel_rfl
theorem Zn0 : funD Tryz.prog Z24 100000 60 Zl Tryz.f199 Zgn = some Zgo := by kernel_rfl
def Zcx (ds : List D) : Option D := if isT Zgb ds then some Zgc else (if isT Zgd ds then some Zge else (if isT Zgf ds then some Zgg else (if isT Zgh ds then some Zgi else (if isT Zgj ds then some Zgk else (if isT Zgl ds then some Zgm else (if isT Zgn ds then some Zgo else (none)))))))
theorem Zoz : ∀ ds d, Zcx ds = some d → DataSem Tryz.prog 199 ds d := by
  intro ds d h
  unfold Zcx at h
  split at h
  · rename_i ha; obtain rfl := isT_eq ha; cases h; exact Z25 Zmu
  split at h
  · rename_i ha; obtain rfl := isT_eq ha; cases h; exact Z25 Zmv
  split at h
  · rename_i ha; obtain rfl := isT_eq ha; cases h; exact Z25 Zmw
  split at h
  · rename_i ha; obtain rfl := isT_eq ha; cases h; exact Z25 Zmx
  split at h
  · rename_i ha; obtain rfl := isT_eq ha; cases h; exact Z25 Zmy
  split at h
  · rename_i ha; obtain rfl := isT_eq ha; cases h; exact Z25 Zmz
  split at h
  · rename_i ha; obtain rfl := isT_eq ha; cases h; exact Z25 Zn0
  cases h

def Z1z : FnH := ⟨[], []⟩
def Zbz : FnH := ⟨[], []⟩
def Z9m : FnH := ⟨[], []⟩
def Z9n : FnH := ⟨[(4, ⟨(bm 14336 24), [(11, 1)], none⟩)], []⟩
def Z9o : FnH := ⟨[], []⟩
def Z78 : FnH := ⟨[], []⟩
def Z9p : FnH := ⟨[], []⟩
def Zad : FnH := ⟨[], []⟩
def Z7o : FnH := ⟨[], []⟩
def Z4s : FnH := ⟨[], []⟩
def Z5d : FnH := ⟨[(2, ⟨(bm 387 19), [], none⟩)], []⟩
def Z6t : FnH := ⟨[(8, ⟨(bm 3758096566 83), [(29, 1)], none⟩)], []⟩
def Zc0 : FnH := ⟨[(3, ⟨(bm 73 25), [], none⟩), (8, ⟨(bm 32 25), [(5, 1)], none⟩)], []⟩
def Z8a : FnH := ⟨[], []⟩
def Z43 : FnH := ⟨[], []⟩
def Z9q : FnH := ⟨[], []⟩
def Z9r : FnH := ⟨[], []⟩
def Zf3 : FnH := ⟨[(6, ⟨(bm 1924145348608 47), [(38, 1)], none⟩)], []⟩
def Zdk : FnH := ⟨[], []⟩
def Zcy : FnH := ⟨[], []⟩
def Zbm : FnH := ⟨[], []⟩
def Z6a : FnH := ⟨[(25, ⟨(bm 16655 151), [], none⟩)], []⟩
def Zgp : FnH := ⟨[], []⟩
def Ze2 : FnH := ⟨[(3, ⟨(bm 13 43), [], none⟩)], []⟩
def Ze3 : FnH := ⟨[], []⟩
def Ze4 : FnH := ⟨[], []⟩
def Z9s : FnH := ⟨[], []⟩
def Zbn : FnH := ⟨[], []⟩
def Zdl : FnH := ⟨[], []⟩
def Zc1 : FnH := ⟨[], []⟩
def Zcz : FnH := ⟨[], []⟩
def Zdm : FnH := ⟨[(6, ⟨(bm 60129542145 44), [(0, 1), (33, 5)], none⟩)], []⟩
theorem Z4c : Enters Tryz.prog 110 := ⟨Tryz.f110, Tryz.func110, by kernel_rfl, by kernel_rfl⟩
theorem Zc2 : Enters Tryz.prog 134 := ⟨Tryz.f134, Tryz.func134, by kernel_rfl, by kernel_rfl⟩
theorem Z9t : Enters Tryz.prog 168 := ⟨Tryz.f168, Tryz.func168, by kernel_rfl, by kernel_rfl⟩
theorem Z9u : Enters Tryz.prog 169 := ⟨Tryz.f169, Tryz.func169, by kernel_rfl, by kernel_rfl⟩
theorem Z9v : Enters Tryz.prog 170 := ⟨Tryz.f170, Tryz.func170, by kernel_rfl, by kernel_rfl⟩
theorem Z79 : Enters Tryz.prog 171 := ⟨Tryz.f171, Tryz.func171, by kernel_rfl, by kernel_rfl⟩
theorem Z9w : Enters Tryz.prog 172 := ⟨Tryz.f172, Tryz.func172, by kernel_rfl, by kernel_rfl⟩
theorem Zae : Enters Tryz.prog 173 := ⟨Tryz.f173, Tryz.func173, by kernel_rfl, by kernel_rfl⟩
theorem Z7p : Enters Tryz.prog 192 := ⟨Tryz.f192, Tryz.func192, by kernel_rfl, by kernel_rfl⟩
theorem Z4t : Enters Tryz.prog 206 := ⟨Tryz.f206, Tryz.func206, by kernel_rfl, by kernel_rfl⟩
theorem Z5e : Enters Tryz.prog 218 := ⟨Tryz.f218, Tryz.func218, by kernel_rfl, by kernel_rfl⟩
theorem Z6u : Enters Tryz.prog 174 := ⟨Tryz.f174, Tryz.func174, by kernel_rfl, by kernel_rfl⟩
theorem Zc3 : Enters Tryz.prog 194 := ⟨Tryz.f194, Tryz.func194, by kernel_rfl, by kernel_rfl⟩
theorem Z8b : Enters Tryz.prog 210 := ⟨Tryz.f210, Tryz.func210, by kernel_rfl, by kernel_rfl⟩
theorem Z44 : Enters Tryz.prog 195 := ⟨Tryz.f195, Tryz.func195, by kernel_rfl, by kernel_rfl⟩
theorem Z9x : Enters Tryz.prog 175 := ⟨Tryz.f175, Tryz.func175, by kernel_rfl, by kernel_rfl⟩
theorem Z9y : Enters Tryz.prog 176 := ⟨Tryz.f176, Tryz.func176, by kernel_rfl, by kernel_rfl⟩
theorem Zf4 : Enters Tryz.prog 109 := ⟨Tryz.f109, Tryz.func109, by kernel_rfl, by kernel_rfl⟩
theorem Zdn : Enters Tryz.prog 177 := ⟨Tryz.f177, Tryz.func177, by kernel_rfl, by kernel_rfl⟩
theorem Zd0 : Enters Tryz.prog 196 := ⟨Tryz.f196, Tryz.func196, by kernel_rfl, by kernel_rfl⟩
theorem Zbo : Enters Tryz.prog 211 := ⟨Tryz.f211, Tryz.func211, by kernel_rfl, by kernel_rfl⟩
theorem Z6b : Enters Tryz.prog 212 := ⟨Tryz.f212, Tryz.func212, by kernel_rfl, by kernel_rfl⟩
theorem Zgq : Enters Tryz.prog 221 := ⟨Tryz.f221, Tryz.func221, by kernel_rfl, by kernel_rfl⟩
theorem Ze5 : Enters Tryz.prog 228 := ⟨Tryz.f228, Tryz.func228, by kernel_rfl, by kernel_rfl⟩
theorem Ze6 : Enters Tryz.prog 222 := ⟨Tryz.f222, Tryz.func222, by kernel_rfl, by kernel_rfl⟩
theorem Ze7 : Enters Tryz.prog 223 := ⟨Tryz.f223, Tryz.func223, by kernel_rfl, by kernel_rfl⟩
theorem Z9z : Enters Tryz.prog 178 := ⟨Tryz.f178, Tryz.func178, by kernel_rfl, by kernel_rfl⟩
theorem Zbp : Enters Tryz.prog 153 := ⟨Tryz.f153, Tryz.func153, by kernel_rfl, by kernel_rfl⟩
theorem Zdo : Enters Tryz.prog 156 := ⟨Tryz.f156, Tryz.func156, by kernel_rfl, by kernel_rfl⟩
theorem Zc4 : Enters Tryz.prog 181 := ⟨Tryz.f181, Tryz.func181, by kernel_rfl, by kernel_rfl⟩
theorem Zd1 : Enters Tryz.prog 182 := ⟨Tryz.f182, Tryz.func182, by kernel_rfl, by kernel_rfl⟩
theorem Zdp : Enters Tryz.prog 183 := ⟨Tryz.f183, Tryz.func183, by kernel_rfl, by kernel_rfl⟩
noncomputable def Z61 : Hints := ⟨[(152, Zcn), (154, Zcc), (155, Zox), (193, Z4z), (198, Zcs), (199, Zcx), (200, Zcd), (201, Zjn), (202, Zl8), (203, Zfr), (207, Z4j), (208, Z5a), (215, Zay)], [(110, Tryz.f110, Z1z), (134, Tryz.f134, Zbz), (168, Tryz.f168, Z9m), (169, Tryz.f169, Z9n), (170, Tryz.f170, Z9o), (171, Tryz.f171, Z78), (172, Tryz.f172, Z9p), (173, Tryz.f173, Zad), (192, Tryz.f192, Z7o), (206, Tryz.f206, Z4s), (218, Tryz.f218, Z5d), (174, Tryz.f174, Z6t), (194, Tryz.f194, Zc0), (210, Tryz.f210, Z8a), (195, Tryz.f195, Z43), (175, Tryz.f175, Z9q), (176, Tryz.f176, Z9r), (109, Tryz.f109, Zf3), (177, Tryz.f177, Zdk), (196, Tryz.f196, Zcy), (211, Tryz.f211, Zbm), (212, Tryz.f212, Z6a), (221, Tryz.f221, Zgp), (228, Tryz.f228, Ze2), (222, Tryz.f222, Ze3), (223, Tryz.f223, Ze4), (178, Tryz.f178, Z9s), (153, Tryz.f153, Zbn), (156, Tryz.f156, Zdl), (181, Tryz.f181, Zc1), (182, Tryz.f182, Zcz), (183, Tryz.f183, Zdm)], [233, 235, 236, 238, 183]⟩
theorem Zdd {m n : Nat} {ds : List D} {d : D} (h : funD Tryz.prog Z61 m n Z1z Tryz.f110 ds = some d) : DataSem Tryz.prog 110 ds d := data_sound (H := Z61) (SpOk.cons Zow (SpOk.cons Zlh (SpOk.cons Zva (SpOk.cons Zf9 (SpOk.cons Zoy (SpOk.cons Zoz (SpOk.cons Zlt (SpOk.cons Zrh (SpOk.cons Zsm (SpOk.cons Zo8 (SpOk.cons Zbg (SpOk.cons Zg2 (SpOk.cons Zhh SpOk.nil))))))))))))) mixed (InlOk.cons Tryz.func110 Z4c (InlOk.cons Tryz.func134 Zc2 (InlOk.cons Tryz.func168 Z9t (InlOk.cons Tryz.func169 Z9u (InlOk.cons Tryz.func170 Z9v (InlOk.cons Tryz.func171 Z79 (InlOk.cons Tryz.func172 Z9w (InlOk.cons Tryz.func173 Zae (InlOk.cons Tryz.func192 Z7p (InlOk.cons Tryz.func206 Z4t (InlOk.cons Tryz.func218 Z5e (InlOk.cons Tryz.func174 Z6u (InlOk.cons Tryz.func194 Zc3 (InlOk.cons Tryz.func210 Z8b (InlOk.cons Tryz.func195 Z44 (InlOk.cons Tryz.func175 Z9x (InlOk.cons Tryz.func176 Z9y (InlOk.cons Tryz.func109 Zf4 (InlOk.cons Tryz.func177 Zdn (InlOk.cons Tryz.func196 Zd0 (InlOk.cons Tryz.func211 Zbo (InlOk.cons Tryz.func212 Z6b (InlOk.cons Tryz.func221 Zgq (InlOk.cons Tryz.func228 Ze5 (InlOk.cons Tryz.func222 Ze6 (InlOk.cons Tryz.func223 Ze7 (InlOk.cons Tryz.func178 Z9z (InlOk.cons Tryz.func153 Zbp (InlOk.cons Tryz.func156 Zdo (InlOk.cons Tryz.func181 Zc4 (InlOk.cons Tryz.func182 Zd1 (InlOk.cons Tryz.func183 Zdp InlOk.nil)))))))))))))))))))))))))))))))) Tryz.func110 Z4c h
def Zgr : List D := [(D.agg [(D.v (.int .u8 (1 : Int))), (D.v (.string (ByteArray.mk #[104, 116, 116, 112, 58, 47, 47, 97]))), (D.v (.bool false)), zU, (D.v (.string (ByteArray.mk #[]))), (D.list 0 (some 0) []), (D.v (.bool false)), zU, (D.v (.string (ByteArray.mk #[]))), (D.v (.int .u8 (0 : Int))), zU, zU, zU, zU, zU, zU, zU, zU, zU, zU, zU, zU, zU, zU, zU, zU, (D.list 0 (some 0) [])])]
def Zgs : D := zI
def Zgt : List D := [(D.agg [(D.v (.int .u8 (2 : Int))), (D.v (.string (ByteArray.mk #[]))), (D.v (.bool false)), zU, (D.v (.string (ByteArray.mk #[]))), (D.list 0 (some 0) []), (D.v (.bool true)), (D.v (.int .u32 (12 : Int))), (D.v (.string (ByteArray.mk #[98]))), (D.v (.int .u8 (0 : Int))), zU, zU, zU, zU, zU, zU, zU, zU, zU, zU, zU, zU, zU, zU, zU, zU, (D.list 0 (some 0) [])])]
def Zgu : D := zI
theorem Zn1 : funD Tryz.prog Z61 100000 60 Z1z Tryz.f110 Zgr = some Zgs := by kernel_rfl
theorem Zn2 : funD Tryz.prog Z61 100000 60 Z1z Tryz.f110 Zgt = some Zgu := by kernel_rfl
def Z4u (ds : List D) : Option D := if isT Zgr ds then some Zgs else (if isT Zgt ds then some Zgu else (none))
theorem Zp0 : ∀ ds d, Z4u ds = some d → DataSem Tryz.prog 110 ds d := by
  intro ds d h
  unfold Z4u at h
  split at h
  · rename_i ha; obtain rfl := isT_eq ha; cases h; exact Zdd Zn1
  split at h
  · rename_i ha; obtain rfl := isT_eq ha; cases h; exact Zdd Zn2
  cases h

end Go.Ev
