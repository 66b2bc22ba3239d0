/- Closed calls of the program at the two qualifiers of the examples. No conditions. -/
import Derived.Test.YtkefahdbckjajaaGreatDoorEzI
set_option linter.unusedVariables false
set_option maxRecDepth 1000000
namespace Go.Ev
open Go Go.Proofs
def Z36 : FnH := ⟨[], []⟩
def Zl1 : FnH := ⟨[], []⟩
def Ziq : FnH := ⟨[(6, ⟨(bm 1924145348608 47), [(38, 1)], none⟩)], []⟩
theorem Z6c : Enters Tryz.prog 154 := ⟨Tryz.f154, Tryz.func154, by kernel_rfl, by kernel_rfl⟩
theorem Zl2 : Enters Tryz.prog 128 := ⟨Tryz.f128, Tryz.func128, by kernel_rfl, by kernel_rfl⟩
theorem Zir : Enters Tryz.prog 109 := ⟨Tryz.f109, Tryz.func109, by kernel_rfl, by kernel_rfl⟩
noncomputable def Zbn : Hints := ⟨[], [(154, Tryz.f154, Z36), (128, Tryz.f128, Zl1), (109, Tryz.f109, Ziq)], [233, 235, 236, 238, 183]⟩
theorem Zhn {m n : Nat} {ds : List D} {d : D} (h : funD Tryz.prog Zbn m n Z36 Tryz.f154 ds = some d) : DataSem Tryz.prog 154 ds d := data_sound (H := Zbn) SpOk.nil mixed (InlOk.cons Tryz.func154 Z6c (InlOk.cons Tryz.func128 Zl2 (InlOk.cons Tryz.func109 Zir InlOk.nil))) Tryz.func154 Z6c h
def Zl7 : List D := [(D.v (.int .u8 (1 : Int)))]
def Zl8 : D := (D.agg [(D.v (.int .u8 (9 : Int))), (D.v (.int .u32 (1 : Int))), (D.v (.int .u32 (3 : Int))), (D.v (.int .u32 (6 : Int))), (D.v (.int .u32 (1 : Int))), (D.v (.int .u32 (5 : Int))), (D.v (.int .u32 (5 : Int))), (D.v (.int .u32 (7 : Int))), (D.v (.int .u32 (2 : Int))), (D.v (.int .u32 (1 : Int))), zU, zU, zU, zU, zU, zU, zU])
def Zl9 : List D := [(D.v (.int .u8 (2 : Int)))]
def Zla : D := (D.agg [(D.v (.int .u8 (9 : Int))), (D.v (.int .u32 (1 : Int))), (D.v (.int .u32 (3 : Int))), (D.v (.int .u32 (6 : Int))), (D.v (.int .u32 (1 : Int))), (D.v (.int .u32 (5 : Int))), (D.v (.int .u32 (5 : Int))), (D.v (.int .u32 (7 : Int))), (D.v (.int .u32 (2 : Int))), (D.v (.int .u32 (2 : Int))), zU, zU, zU, zU, zU, zU, zU])
theorem Zrz : funD Tryz.prog Zbn 100000 60 Z36 Tryz.f154 Zl7 = some Zl8 := by kernel_rfl
theorem Zs0 : funD Tryz.prog Zbn 100000 60 Z36 Tryz.f154 Zl9 = some Zla := by kernel_rfl
def Zdf (ds : List D) : Option D := if isT Zl7 ds then some Zl8 else (if isT Zl9 ds then some Zla else (none))
theorem Znv : ∀ ds d, Zdf ds = some d → DataSem Tryz.prog 154 ds d := by
  intro ds d h
  unfold Zdf at h
  split at h
  · rename_i ha; obtain rfl := isT_eq ha; cases h; exact Zhn Zrz
  split at h
  · rename_i ha; obtain rfl := isT_eq ha; cases h; exact Zhn Zs0
  cases h

def Z2k : FnH := ⟨[], []⟩
def Z9h : FnH := ⟨[(6, ⟨(bm 524368 30), [(6, 1)], none⟩)], []⟩
def Z85 : FnH := ⟨[], []⟩
def Z8u : FnH := ⟨[], []⟩
def Z86 : FnH := ⟨[], []⟩
def Z7b : FnH := ⟨[], []⟩
def Z6i : FnH := ⟨[], []⟩
def Z9i : FnH := ⟨[], []⟩
def Z62 : FnH := ⟨[], []⟩
def Z6j : FnH := ⟨[], []⟩
def Z6x : FnH := ⟨[], []⟩
def Z87 : FnH := ⟨[(38, ⟨(bm 47890485652059026823698344598447161988085597568237568 187), [], none⟩), (5, ⟨(bm 1923 187), [], none⟩), (12, ⟨(bm 6019 187), [], none⟩), (25, ⟨(bm 50049 187), [], none⟩), (29, ⟨(bm 115585 187), [], none⟩)], []⟩
def Z88 : FnH := ⟨[], []⟩
def Z6k : FnH := ⟨[], []⟩
def Zax : FnH := ⟨[], []⟩
def Z9j : FnH := ⟨[], []⟩
def Z9k : FnH := ⟨[], []⟩
def Z9l : FnH := ⟨[], []⟩
def Z7r : FnH := ⟨[], []⟩
def Z39 : FnH := ⟨[(2, ⟨(bm 387 19), [], none⟩)], []⟩
def Z6y : FnH := ⟨[(4, ⟨(bm 2052 20), [], none⟩)], []⟩
def Z8v : FnH := ⟨[(1, ⟨(bm 1 169), [], none⟩), (9, ⟨(bm 1 169), [], none⟩)], []⟩
def Z8w : FnH := ⟨[], []⟩
def Z6l : FnH := ⟨[], []⟩
theorem Z3w : Enters Tryz.prog 193 := ⟨Tryz.f193, Tryz.func193, by kernel_rfl, by kernel_rfl⟩
theorem Z9m : Enters Tryz.prog 209 := ⟨Tryz.f209, Tryz.func209, by kernel_rfl, by kernel_rfl⟩
theorem Z89 : Enters Tryz.prog 219 := ⟨Tryz.f219, Tryz.func219, by kernel_rfl, by kernel_rfl⟩
theorem Z8x : Enters Tryz.prog 226 := ⟨Tryz.f226, Tryz.func226, by kernel_rfl, by kernel_rfl⟩
theorem Z8a : Enters Tryz.prog 229 := ⟨Tryz.f229, Tryz.func229, by kernel_rfl, by kernel_rfl⟩
theorem Z7c : Enters Tryz.prog 232 := ⟨Tryz.f232, Tryz.func232, by kernel_rfl, by kernel_rfl⟩
theorem Z6m : Enters Tryz.prog 237 := ⟨Tryz.f237, Tryz.func237, by kernel_rfl, by kernel_rfl⟩
theorem Z9n : Enters Tryz.prog 233 := ⟨Tryz.f233, Tryz.func233, by kernel_rfl, by kernel_rfl⟩
theorem Z63 : Enters Tryz.prog 238 := ⟨Tryz.f238, Tryz.func238, by kernel_rfl, by kernel_rfl⟩
theorem Z6n : Enters Tryz.prog 234 := ⟨Tryz.f234, Tryz.func234, by kernel_rfl, by kernel_rfl⟩
theorem Z6z : Enters Tryz.prog 239 := ⟨Tryz.f239, Tryz.func239, by kernel_rfl, by kernel_rfl⟩
theorem Z8b : Enters Tryz.prog 240 := ⟨Tryz.f240, Tryz.func240, by kernel_rfl, by kernel_rfl⟩
theorem Z8c : Enters Tryz.prog 241 := ⟨Tryz.f241, Tryz.func241, by kernel_rfl, by kernel_rfl⟩
theorem Z6o : Enters Tryz.prog 245 := ⟨Tryz.f245, Tryz.func245, by kernel_rfl, by kernel_rfl⟩
theorem Zay : Enters Tryz.prog 242 := ⟨Tryz.f242, Tryz.func242, by kernel_rfl, by kernel_rfl⟩
theorem Z9o : Enters Tryz.prog 243 := ⟨Tryz.f243, Tryz.func243, by kernel_rfl, by kernel_rfl⟩
theorem Z9p : Enters Tryz.prog 235 := ⟨Tryz.f235, Tryz.func235, by kernel_rfl, by kernel_rfl⟩
theorem Z9q : Enters Tryz.prog 236 := ⟨Tryz.f236, Tryz.func236, by kernel_rfl, by kernel_rfl⟩
theorem Z7s : Enters Tryz.prog 231 := ⟨Tryz.f231, Tryz.func231, by kernel_rfl, by kernel_rfl⟩
theorem Z3a : Enters Tryz.prog 230 := ⟨Tryz.f230, Tryz.func230, by kernel_rfl, by kernel_rfl⟩
theorem Z70 : Enters Tryz.prog 227 := ⟨Tryz.f227, Tryz.func227, by kernel_rfl, by kernel_rfl⟩
theorem Z8y : Enters Tryz.prog 163 := ⟨Tryz.f163, Tryz.func163, by kernel_rfl, by kernel_rfl⟩
theorem Z8z : Enters Tryz.prog 189 := ⟨Tryz.f189, Tryz.func189, by kernel_rfl, by kernel_rfl⟩
theorem Z6p : Enters Tryz.prog 171 := ⟨Tryz.f171, Tryz.func171, by kernel_rfl, by kernel_rfl⟩
noncomputable def Z7t : Hints := ⟨[], [(193, Tryz.f193, Z2k), (209, Tryz.f209, Z9h), (219, Tryz.f219, Z85), (226, Tryz.f226, Z8u), (229, Tryz.f229, Z86), (232, Tryz.f232, Z7b), (237, Tryz.f237, Z6i), (233, Tryz.f233, Z9i), (238, Tryz.f238, Z62), (234, Tryz.f234, Z6j), (239, Tryz.f239, Z6x), (240, Tryz.f240, Z87), (241, Tryz.f241, Z88), (245, Tryz.f245, Z6k), (242, Tryz.f242, Zax), (243, Tryz.f243, Z9j), (235, Tryz.f235, Z9k), (236, Tryz.f236, Z9l), (231, Tryz.f231, Z7r), (230, Tryz.f230, Z39), (227, Tryz.f227, Z6y), (163, Tryz.f163, Z8v), (189, Tryz.f189, Z8w), (171, Tryz.f171, Z6l)], [233, 235, 236, 238, 183]⟩
theorem Zk6 {m n : Nat} {ds : List D} {d : D} (h : funD Tryz.prog Z7t m n Z2k Tryz.f193 ds = some d) : DataSem Tryz.prog 193 ds d := data_sound (H := Z7t) SpOk.nil mixed (InlOk.cons Tryz.func193 Z3w (InlOk.cons Tryz.func209 Z9m (InlOk.cons Tryz.func219 Z89 (InlOk.cons Tryz.func226 Z8x (InlOk.cons Tryz.func229 Z8a (InlOk.cons Tryz.func232 Z7c (InlOk.cons Tryz.func237 Z6m (InlOk.cons Tryz.func233 Z9n (InlOk.cons Tryz.func238 Z63 (InlOk.cons Tryz.func234 Z6n (InlOk.cons Tryz.func239 Z6z (InlOk.cons Tryz.func240 Z8b (InlOk.cons Tryz.func241 Z8c (InlOk.cons Tryz.func245 Z6o (InlOk.cons Tryz.func242 Zay (InlOk.cons Tryz.func243 Z9o (InlOk.cons Tryz.func235 Z9p (InlOk.cons Tryz.func236 Z9q (InlOk.cons Tryz.func231 Z7s (InlOk.cons Tryz.func230 Z3a (InlOk.cons Tryz.func227 Z70 (InlOk.cons Tryz.func163 Z8y (InlOk.cons Tryz.func189 Z8z (InlOk.cons Tryz.func171 Z6p InlOk.nil)))))))))))))))))))))))) Tryz.func193 Z3w h
def Zec : List D := [(D.agg [(D.v (.int .u32 (12 : Int))), (D.v (.string (ByteArray.mk #[98])))])]
def Zed : D := (D.tup [(D.agg [(D.v (.int .u8 (0 : Int))), (D.v (.bool false)), (D.v (.int .u32 (12 : Int))), (D.list 1 (some 1) [(D.v (.int .u8 (98 : Int)))]), (D.list 0 (some 0) [])]), zI])
theorem Zmr : funD Tryz.prog Z7t 100000 60 Z2k Tryz.f193 Zec = some Zed := by kernel_rfl
def Z5t (ds : List D) : Option D := if isT Zec ds then some Zed else (none)
theorem Zgl : ∀ ds d, Z5t ds = some d → DataSem Tryz.prog 193 ds d := by
  intro ds d h
  unfold Z5t at h
  split at h
  · rename_i ha; obtain rfl := isT_eq ha; cases h; exact Zk6 Zmr
  cases h

def Z34 : FnH := ⟨[], []⟩
def Z9r : FnH := ⟨[], []⟩
def Zaz : FnH := ⟨[], []⟩
def Z9s : FnH := ⟨[], []⟩
def Z8d : FnH := ⟨[], []⟩
def Z7d : FnH := ⟨[], []⟩
def Zbo : FnH := ⟨[], []⟩
def Z6q : FnH := ⟨[], []⟩
def Z7e : FnH := ⟨[], []⟩
def Z7u : FnH := ⟨[], []⟩
def Z9t : FnH := ⟨[(38, ⟨(bm 47890485652059026823698344598447161988085597568237568 187), [], none⟩), (5, ⟨(bm 1923 187), [], none⟩), (12, ⟨(bm 6019 187), [], none⟩), (25, ⟨(bm 50049 187), [], none⟩), (29, ⟨(bm 115585 187), [], none⟩)], []⟩
def Z9u : FnH := ⟨[], []⟩
def Z7f : FnH := ⟨[], []⟩
def Zce : FnH := ⟨[], []⟩
def Zbp : FnH := ⟨[], []⟩
def Zbq : FnH := ⟨[], []⟩
def Zbr : FnH := ⟨[], []⟩
def Z90 : FnH := ⟨[], []⟩
def Z3d : FnH := ⟨[(2, ⟨(bm 387 19), [], none⟩)], []⟩
def Z7v : FnH := ⟨[(4, ⟨(bm 2052 20), [], none⟩)], []⟩
def Zb0 : FnH := ⟨[(1, ⟨(bm 1 169), [], none⟩), (9, ⟨(bm 1 169), [], none⟩)], []⟩
def Zb1 : FnH := ⟨[], []⟩
theorem Z4j : Enters Tryz.prog 207 := ⟨Tryz.f207, Tryz.func207, by kernel_rfl, by kernel_rfl⟩
theorem Z9v : Enters Tryz.prog 219 := ⟨Tryz.f219, Tryz.func219, by kernel_rfl, by kernel_rfl⟩
theorem Zb2 : Enters Tryz.prog 226 := ⟨Tryz.f226, Tryz.func226, by kernel_rfl, by kernel_rfl⟩
theorem Z9w : Enters Tryz.prog 229 := ⟨Tryz.f229, Tryz.func229, by kernel_rfl, by kernel_rfl⟩
theorem Z8e : Enters Tryz.prog 232 := ⟨Tryz.f232, Tryz.func232, by kernel_rfl, by kernel_rfl⟩
theorem Z7g : Enters Tryz.prog 237 := ⟨Tryz.f237, Tryz.func237, by kernel_rfl, by kernel_rfl⟩
theorem Zbs : Enters Tryz.prog 233 := ⟨Tryz.f233, Tryz.func233, by kernel_rfl, by kernel_rfl⟩
theorem Z6r : Enters Tryz.prog 238 := ⟨Tryz.f238, Tryz.func238, by kernel_rfl, by kernel_rfl⟩
theorem Z7h : Enters Tryz.prog 234 := ⟨Tryz.f234, Tryz.func234, by kernel_rfl, by kernel_rfl⟩
theorem Z7w : Enters Tryz.prog 239 := ⟨Tryz.f239, Tryz.func239, by kernel_rfl, by kernel_rfl⟩
theorem Z9x : Enters Tryz.prog 240 := ⟨Tryz.f240, Tryz.func240, by kernel_rfl, by kernel_rfl⟩
theorem Z9y : Enters Tryz.prog 241 := ⟨Tryz.f241, Tryz.func241, by kernel_rfl, by kernel_rfl⟩
theorem Z7i : Enters Tryz.prog 245 := ⟨Tryz.f245, Tryz.func245, by kernel_rfl, by kernel_rfl⟩
theorem Zcf : Enters Tryz.prog 242 := ⟨Tryz.f242, Tryz.func242, by kernel_rfl, by kernel_rfl⟩
theorem Zbt : Enters Tryz.prog 243 := ⟨Tryz.f243, Tryz.func243, by kernel_rfl, by kernel_rfl⟩
theorem Zbu : Enters Tryz.prog 235 := ⟨Tryz.f235, Tryz.func235, by kernel_rfl, by kernel_rfl⟩
theorem Zbv : Enters Tryz.prog 236 := ⟨Tryz.f236, Tryz.func236, by kernel_rfl, by kernel_rfl⟩
theorem Z91 : Enters Tryz.prog 231 := ⟨Tryz.f231, Tryz.func231, by kernel_rfl, by kernel_rfl⟩
theorem Z3e : Enters Tryz.prog 230 := ⟨Tryz.f230, Tryz.func230, by kernel_rfl, by kernel_rfl⟩
theorem Z7x : Enters Tryz.prog 227 := ⟨Tryz.f227, Tryz.func227, by kernel_rfl, by kernel_rfl⟩
theorem Zb3 : Enters Tryz.prog 163 := ⟨Tryz.f163, Tryz.func163, by kernel_rfl, by kernel_rfl⟩
theorem Zb4 : Enters Tryz.prog 189 := ⟨Tryz.f189, Tryz.func189, by kernel_rfl, by kernel_rfl⟩
noncomputable def Zb5 : Hints := ⟨[], [(207, Tryz.f207, Z34), (219, Tryz.f219, Z9r), (226, Tryz.f226, Zaz), (229, Tryz.f229, Z9s), (232, Tryz.f232, Z8d), (237, Tryz.f237, Z7d), (233, Tryz.f233, Zbo), (238, Tryz.f238, Z6q), (234, Tryz.f234, Z7e), (239, Tryz.f239, Z7u), (240, Tryz.f240, Z9t), (241, Tryz.f241, Z9u), (245, Tryz.f245, Z7f), (242, Tryz.f242, Zce), (243, Tryz.f243, Zbp), (235, Tryz.f235, Zbq), (236, Tryz.f236, Zbr), (231, Tryz.f231, Z90), (230, Tryz.f230, Z3d), (227, Tryz.f227, Z7v), (163, Tryz.f163, Zb0), (189, Tryz.f189, Zb1)], [233, 235, 236, 238, 183]⟩
theorem Zma {m n : Nat} {ds : List D} {d : D} (h : funD Tryz.prog Zb5 m n Z34 Tryz.f207 ds = some d) : DataSem Tryz.prog 207 ds d := data_sound (H := Zb5) SpOk.nil mixed (InlOk.cons Tryz.func207 Z4j (InlOk.cons Tryz.func219 Z9v (InlOk.cons Tryz.func226 Zb2 (InlOk.cons Tryz.func229 Z9w (InlOk.cons Tryz.func232 Z8e (InlOk.cons Tryz.func237 Z7g (InlOk.cons Tryz.func233 Zbs (InlOk.cons Tryz.func238 Z6r (InlOk.cons Tryz.func234 Z7h (InlOk.cons Tryz.func239 Z7w (InlOk.cons Tryz.func240 Z9x (InlOk.cons Tryz.func241 Z9y (InlOk.cons Tryz.func245 Z7i (InlOk.cons Tryz.func242 Zcf (InlOk.cons Tryz.func243 Zbt (InlOk.cons Tryz.func235 Zbu (InlOk.cons Tryz.func236 Zbv (InlOk.cons Tryz.func231 Z91 (InlOk.cons Tryz.func230 Z3e (InlOk.cons Tryz.func227 Z7x (InlOk.cons Tryz.func163 Zb3 (InlOk.cons Tryz.func189 Zb4 InlOk.nil)))))))))))))))))))))) Tryz.func207 Z4j h
def Zgm : List D := [(D.agg [(D.v (.int .u32 (12 : Int))), (D.v (.string (ByteArray.mk #[98])))])]
def Zgn : D := zI
theorem Zop : funD Tryz.prog Zb5 100000 60 Z34 Tryz.f207 Zgm = some Zgn := by kernel_rfl
def Z58 (ds : List D) : Option D := if isT Zgm ds then some Zgn else (none)
theorem Zcg : ∀ ds d, Z58 ds = some d → DataSem Tryz.prog 207 ds d := by
  intro ds d h
  unfold Z58 at h
  split at h
  · rename_i ha; obtain rfl := isT_eq ha; cases h; exact Zma Zop
  cases h

def Z2s : FnH := ⟨[], []⟩
def Z6s : FnH := ⟨[(2, ⟨(bm 20 10), [], none⟩)], []⟩
theorem Z4a : Enters Tryz.prog 208 := ⟨Tryz.f208, Tryz.func208, by kernel_rfl, by kernel_rfl⟩
theorem Z6t : Enters Tryz.prog 220 := ⟨Tryz.f220, Tryz.func220, by kernel_rfl, by kernel_rfl⟩
noncomputable def Z92 : Hints := ⟨[(207, Z58)], [(208, Tryz.f208, Z2s), (220, Tryz.f220, Z6s)], [233, 235, 236, 238, 183]⟩
theorem Zl3 {m n : Nat} {ds : List D} {d : D} (h : funD Tryz.prog Z92 m n Z2s Tryz.f208 ds = some d) : DataSem Tryz.prog 208 ds d := data_sound (H := Z92) (SpOk.cons Zcg SpOk.nil) mixed (InlOk.cons Tryz.func208 Z4a (InlOk.cons Tryz.func220 Z6t InlOk.nil)) Tryz.func208 Z4a h
def Zex : List D := [(D.agg [(D.v (.int .u32 (12 : Int))), (D.v (.string (ByteArray.mk #[98])))])]
def Zey : D := (D.v (.int .i64 (1 : Int)))
theorem Zng : funD Tryz.prog Z92 100000 60 Z2s Tryz.f208 Zex = some Zey := by kernel_rfl
def Z64 (ds : List D) : Option D := if isT Zex ds then some Zey else (none)
theorem Zho : ∀ ds d, Z64 ds = some d → DataSem Tryz.prog 208 ds d := by
  intro ds d h
  unfold Z64 at h
  split at h
  · rename_i ha; obtain rfl := isT_eq ha; cases h; exact Zl3 Zng
  cases h

def Z2n : FnH := ⟨[], []⟩
theorem Zca : Enters Tryz.prog 215 := ⟨Tryz.f215, Tryz.func215, by kernel_rfl, by kernel_rfl⟩
noncomputable def Z8r : Hints := ⟨[], [(215, Tryz.f215, Z2n)], [233, 235, 236, 238, 183]⟩
theorem Z98 {m n : Nat} {ds : List D} {d : D} (h : funD Tryz.prog Z8r m n Z2n Tryz.f215 ds = some d) : DataSem Tryz.prog 215 ds d := data_sound (H := Z8r) SpOk.nil mixed (InlOk.cons Tryz.func215 Zca InlOk.nil) Tryz.func215 Zca h
def Zow : List D := [(D.agg [(D.v (.int .u8 (0 : Int))), (D.v (.bool true)), (D.v (.int .u32 (16 : Int)))])]
def Zox : D := zI
def Zoy : List D := [(D.agg [(D.v (.int .u8 (0 : Int))), (D.v (.bool false)), (D.v (.int .u32 (6 : Int)))])]
def Zoz : D := zI
def Zp0 : List D := [(D.agg [(D.v (.int .u8 (0 : Int))), (D.v (.bool false)), (D.v (.int .u32 (22 : Int)))])]
def Zp1 : D := zI
def Zp2 : List D := [(D.agg [(D.v (.int .u8 (0 : Int))), (D.v (.bool false)), (D.v (.int .u32 (12 : Int)))])]
def Zp3 : D := zI
theorem Zvv : funD Tryz.prog Z8r 100000 60 Z2n Tryz.f215 Zow = some Zox := by kernel_rfl
theorem Zvw : funD Tryz.prog Z8r 100000 60 Z2n Tryz.f215 Zoy = some Zoz := by kernel_rfl
theorem Zvx : funD Tryz.prog Z8r 100000 60 Z2n Tryz.f215 Zp0 = some Zp1 := by kernel_rfl
theorem Zvy : funD Tryz.prog Z8r 100000 60 Z2n Tryz.f215 Zp2 = some Zp3 := by kernel_rfl
def Zbw (ds : List D) : Option D := if isT Zow ds then some Zox else (if isT Zoy ds then some Zoz else (if isT Zp0 ds then some Zp1 else (if isT Zp2 ds then some Zp3 else (none))))
theorem Zj9 : ∀ ds d, Zbw ds = some d → DataSem Tryz.prog 215 ds d := by
  intro ds d h
  unfold Zbw at h
  split at h
  · rename_i ha; obtain rfl := isT_eq ha; cases h; exact Z98 Zvv
  split at h
  · rename_i ha; obtain rfl := isT_eq ha; cases h; exact Z98 Zvw
  split at h
  · rename_i ha; obtain rfl := isT_eq ha; cases h; exact Z98 Zvx
  split at h
  · rename_i ha; obtain rfl := isT_eq ha; cases h; exact Z98 Zvy
  cases h

def Z3f : FnH := ⟨[], []⟩
def Z9z : FnH := ⟨[], []⟩
def Za0 : FnH := ⟨[(4, ⟨(bm 14336 24), [(11, 1)], none⟩)], []⟩
def Za1 : FnH := ⟨[], []⟩
def Z7y : FnH := ⟨[], []⟩
def Za2 : FnH := ⟨[], []⟩
def Zb6 : FnH := ⟨[], []⟩
def Z8f : FnH := ⟨[], []⟩
def Z5e : FnH := ⟨[], []⟩
def Z65 : FnH := ⟨[(2, ⟨(bm 387 19), [], none⟩)], []⟩
def Z7j : FnH := ⟨[(8, ⟨(bm 3758096566 83), [(29, 1)], none⟩)], []⟩
def Zcx : FnH := ⟨[(3, ⟨(bm 73 25), [], none⟩), (8, ⟨(bm 32 25), [(5, 1)], none⟩)], []⟩
def Z93 : FnH := ⟨[], []⟩
def Z4p : FnH := ⟨[], []⟩
def Za3 : FnH := ⟨[], []⟩
def Za4 : FnH := ⟨[], []⟩
def Zgd : FnH := ⟨[(6, ⟨(bm 1924145348608 47), [(38, 1)], none⟩)], []⟩
def Zel : FnH := ⟨[], []⟩
def Zdp : FnH := ⟨[], []⟩
def Zch : FnH := ⟨[], []⟩
def Z71 : FnH := ⟨[(25, ⟨(bm 16655 151), [], none⟩)], []⟩
def Zhp : FnH := ⟨[], []⟩
def Zez : FnH := ⟨[(3, ⟨(bm 13 43), [], none⟩)], []⟩
def Zf0 : FnH := ⟨[], []⟩
def Zf1 : FnH := ⟨[], []⟩
def Za5 : FnH := ⟨[], []⟩
theorem Z51 : Enters Tryz.prog 152 := ⟨Tryz.f152, Tryz.func152, by kernel_rfl, by kernel_rfl⟩
theorem Za6 : Enters Tryz.prog 168 := ⟨Tryz.f168, Tryz.func168, by kernel_rfl, by kernel_rfl⟩
theorem Za7 : Enters Tryz.prog 169 := ⟨Tryz.f169, Tryz.func169, by kernel_rfl, by kernel_rfl⟩
theorem Za8 : Enters Tryz.prog 170 := ⟨Tryz.f170, Tryz.func170, by kernel_rfl, by kernel_rfl⟩
theorem Z7z : Enters Tryz.prog 171 := ⟨Tryz.f171, Tryz.func171, by kernel_rfl, by kernel_rfl⟩
theorem Za9 : Enters Tryz.prog 172 := ⟨Tryz.f172, Tryz.func172, by kernel_rfl, by kernel_rfl⟩
theorem Zb7 : Enters Tryz.prog 173 := ⟨Tryz.f173, Tryz.func173, by kernel_rfl, by kernel_rfl⟩
theorem Z8g : Enters Tryz.prog 192 := ⟨Tryz.f192, Tryz.func192, by kernel_rfl, by kernel_rfl⟩
theorem Z5f : Enters Tryz.prog 206 := ⟨Tryz.f206, Tryz.func206, by kernel_rfl, by kernel_rfl⟩
theorem Z66 : Enters Tryz.prog 218 := ⟨Tryz.f218, Tryz.func218, by kernel_rfl, by kernel_rfl⟩
theorem Z7k : Enters Tryz.prog 174 := ⟨Tryz.f174, Tryz.func174, by kernel_rfl, by kernel_rfl⟩
theorem Zcy : Enters Tryz.prog 194 := ⟨Tryz.f194, Tryz.func194, by kernel_rfl, by kernel_rfl⟩
theorem Z94 : Enters Tryz.prog 210 := ⟨Tryz.f210, Tryz.func210, by kernel_rfl, by kernel_rfl⟩
theorem Z4q : Enters Tryz.prog 195 := ⟨Tryz.f195, Tryz.func195, by kernel_rfl, by kernel_rfl⟩
theorem Zaa : Enters Tryz.prog 175 := ⟨Tryz.f175, Tryz.func175, by kernel_rfl, by kernel_rfl⟩
theorem Zab : Enters Tryz.prog 176 := ⟨Tryz.f176, Tryz.func176, by kernel_rfl, by kernel_rfl⟩
theorem Zge : Enters Tryz.prog 109 := ⟨Tryz.f109, Tryz.func109, by kernel_rfl, by kernel_rfl⟩
theorem Zem : Enters Tryz.prog 177 := ⟨Tryz.f177, Tryz.func177, by kernel_rfl, by kernel_rfl⟩
theorem Zdq : Enters Tryz.prog 196 := ⟨Tryz.f196, Tryz.func196, by kernel_rfl, by kernel_rfl⟩
theorem Zci : Enters Tryz.prog 211 := ⟨Tryz.f211, Tryz.func211, by kernel_rfl, by kernel_rfl⟩
theorem Z72 : Enters Tryz.prog 212 := ⟨Tryz.f212, Tryz.func212, by kernel_rfl, by kernel_rfl⟩
theorem Zhq : Enters Tryz.prog 221 := ⟨Tryz.f221, Tryz.func221, by kernel_rfl, by kernel_rfl⟩
theorem Zf2 : Enters Tryz.prog 228 := ⟨Tryz.f228, Tryz.func228, by kernel_rfl, by kernel_rfl⟩
theorem Zf3 : Enters Tryz.prog 222 := ⟨Tryz.f222, Tryz.func222, by kernel_rfl, by kernel_rfl⟩
theorem Zf4 : Enters Tryz.prog 223 := ⟨Tryz.f223, Tryz.func223, by kernel_rfl, by kernel_rfl⟩
theorem Zac : Enters Tryz.prog 178 := ⟨Tryz.f178, Tryz.func178, by kernel_rfl, by kernel_rfl⟩
noncomputable def Zcj : Hints := ⟨[(154, Zdf), (193, Z5t), (207, Z58), (208, Z64), (215, Zbw)], [(152, Tryz.f152, Z3f), (168, Tryz.f168, Z9z), (169, Tryz.f169, Za0), (170, Tryz.f170, Za1), (171, Tryz.f171, Z7y), (172, Tryz.f172, Za2), (173, Tryz.f173, Zb6), (192, Tryz.f192, Z8f), (206, Tryz.f206, Z5e), (218, Tryz.f218, Z65), (174, Tryz.f174, Z7j), (194, Tryz.f194, Zcx), (210, Tryz.f210, Z93), (195, Tryz.f195, Z4p), (175, Tryz.f175, Za3), (176, Tryz.f176, Za4), (109, Tryz.f109, Zgd), (177, Tryz.f177, Zel), (196, Tryz.f196, Zdp), (211, Tryz.f211, Zch), (212, Tryz.f212, Z71), (221, Tryz.f221, Zhp), (228, Tryz.f228, Zez), (222, Tryz.f222, Zf0), (223, Tryz.f223, Zf1), (178, Tryz.f178, Za5)], [233, 235, 236, 238, 183]⟩
theorem Zms {m n : Nat} {ds : List D} {d : D} (h : funD Tryz.prog Zcj m n Z3f Tryz.f152 ds = some d) : DataSem Tryz.prog 152 ds d := data_sound (H := Zcj) (SpOk.cons Znv (SpOk.cons Zgl (SpOk.cons Zcg (SpOk.cons Zho (SpOk.cons Zj9 SpOk.nil))))) mixed (InlOk.cons Tryz.func152 Z51 (InlOk.cons Tryz.func168 Za6 (InlOk.cons Tryz.func169 Za7 (InlOk.cons Tryz.func170 Za8 (InlOk.cons Tryz.func171 Z7z (InlOk.cons Tryz.func172 Za9 (InlOk.cons Tryz.func173 Zb7 (InlOk.cons Tryz.func192 Z8g (InlOk.cons Tryz.func206 Z5f (InlOk.cons Tryz.func218 Z66 (InlOk.cons Tryz.func174 Z7k (InlOk.cons Tryz.func194 Zcy (InlOk.cons Tryz.func210 Z94 (InlOk.cons Tryz.func195 Z4q (InlOk.cons Tryz.func175 Zaa (InlOk.cons Tryz.func176 Zab (InlOk.cons Tryz.func109 Zge (InlOk.cons Tryz.func177 Zem (InlOk.cons Tryz.func196 Zdq (InlOk.cons Tryz.func211 Zci (InlOk.cons Tryz.func212 Z72 (InlOk.cons Tryz.func221 Zhq (InlOk.cons Tryz.func228 Zf2 (InlOk.cons Tryz.func222 Zf3 (InlOk.cons Tryz.func223 Zf4 (InlOk.cons Tryz.func178 Zac InlOk.nil)))))))))))))))))))))))))) Tryz.func152 Z51 h
def Zhr : List D := []
def Zhs : D := (D.agg [(D.v .nilFunc), (D.v .nilFunc), (D.v .nilFunc), (D.fn 168 []), (D.fn 169 []), (D.fn 170 []), (D.fn 172 []), (D.fn 173 []), (D.fn 174 []), (D.fn 175 []), (D.fn 176 []), (D.fn 178 [])])
theorem Zp4 : funD Tryz.prog Zcj 100000 60 Z3f Tryz.f152 Zhr = some Zhs := by kernel_rfl
def Zdr (ds : List D) : Option D := if isT Zhr ds then some Zhs else (none)
theorem Zrb : ∀ ds d, Zdr ds = some d → DataSem Tryz.prog 152 ds d := by
  intro ds d h
  unfold Zdr at h
  split at h
  · rename_i ha; obtain rfl := isT_eq ha; cases h; exact Zms Zp4
  cases h

def Z5u : FnH := ⟨[(8, ⟨(bm 939524140 43), [(2, 1), (27, 1), (1002000, 1)], none⟩), (11, ⟨(bm 939524140 43), [], none⟩)], []⟩
def Zmt : FnH := ⟨[(6, ⟨(bm 1924145348608 47), [(38, 1)], none⟩)], []⟩
def Znh : FnH := ⟨[], []⟩
def Zad : FnH := ⟨[], []⟩
def Zmb : FnH := ⟨[], []⟩
def Zk7 : FnH := ⟨[(1, ⟨(bm 11 31), [], none⟩), (3, ⟨(bm 11 31), [], none⟩)], []⟩
def Zds : FnH := ⟨[], []⟩
theorem Zgo : Enters Tryz.prog 155 := ⟨Tryz.f155, Tryz.func155, by kernel_rfl, by kernel_rfl⟩
theorem Zmu : Enters Tryz.prog 109 := ⟨Tryz.f109, Tryz.func109, by kernel_rfl, by kernel_rfl⟩
theorem Zni : Enters Tryz.prog 112 := ⟨Tryz.f112, Tryz.func112, by kernel_rfl, by kernel_rfl⟩
theorem Zae : Enters Tryz.prog 179 := ⟨Tryz.f179, Tryz.func179, by kernel_rfl, by kernel_rfl⟩
theorem Zmc : Enters Tryz.prog 180 := ⟨Tryz.f180, Tryz.func180, by kernel_rfl, by kernel_rfl⟩
theorem Zk8 : Enters Tryz.prog 197 := ⟨Tryz.f197, Tryz.func197, by kernel_rfl, by kernel_rfl⟩
theorem Zdt : Enters Tryz.prog 171 := ⟨Tryz.f171, Tryz.func171, by kernel_rfl, by kernel_rfl⟩
noncomputable def Zlb : Hints := ⟨[], [(155, Tryz.f155, Z5u), (109, Tryz.f109, Zmt), (112, Tryz.f112, Znh), (179, Tryz.f179, Zad), (180, Tryz.f180, Zmb), (197, Tryz.f197, Zk7), (171, Tryz.f171, Zds)], [233, 235, 236, 238, 183]⟩
theorem Znw {m n : Nat} {ds : List D} {d : D} (h : funD Tryz.prog Zlb m n Z5u Tryz.f155 ds = some d) : DataSem Tryz.prog 155 ds d := data_sound (H := Zlb) SpOk.nil mixed (InlOk.cons Tryz.func155 Zgo (InlOk.cons Tryz.func109 Zmu (InlOk.cons Tryz.func112 Zni (InlOk.cons Tryz.func179 Zae (InlOk.cons Tryz.func180 Zmc (InlOk.cons Tryz.func197 Zk8 (InlOk.cons Tryz.func171 Zdt InlOk.nil))))))) Tryz.func155 Zgo h
def Zs1 : List D := [(D.agg [(D.v (.int .u8 (9 : Int))), (D.v (.int .u32 (1 : Int))), (D.v (.int .u32 (3 : Int))), (D.v (.int .u32 (6 : Int))), (D.v (.int .u32 (1 : Int))), (D.v (.int .u32 (5 : Int))), (D.v (.int .u32 (5 : Int))), (D.v (.int .u32 (7 : Int))), (D.v (.int .u32 (2 : Int))), (D.v (.int .u32 (1 : Int))), zU, zU, zU, zU, zU, zU, zU])]
def Zs2 : D := (D.tup [(D.list 8 (some 8) [(D.v (.int .u8 (43 : Int))), (D.v (.int .u8 (6 : Int))), (D.v (.int .u8 (1 : Int))), (D.v (.int .u8 (5 : Int))), (D.v (.int .u8 (5 : Int))), (D.v (.int .u8 (7 : Int))), (D.v (.int .u8 (2 : Int))), (D.v (.int .u8 (1 : Int)))]), zI])
def Zs3 : List D := [(D.agg [(D.v (.int .u8 (9 : Int))), (D.v (.int .u32 (1 : Int))), (D.v (.int .u32 (3 : Int))), (D.v (.int .u32 (6 : Int))), (D.v (.int .u32 (1 : Int))), (D.v (.int .u32 (5 : Int))), (D.v (.int .u32 (5 : Int))), (D.v (.int .u32 (7 : Int))), (D.v (.int .u32 (2 : Int))), (D.v (.int .u32 (2 : Int))), zU, zU, zU, zU, zU, zU, zU])]
def Zs4 : D := (D.tup [(D.list 8 (some 8) [(D.v (.int .u8 (43 : Int))), (D.v (.int .u8 (6 : Int))), (D.v (.int .u8 (1 : Int))), (D.v (.int .u8 (5 : Int))), (D.v (.int .u8 (5 : Int))), (D.v (.int .u8 (7 : Int))), (D.v (.int .u8 (2 : Int))), (D.v (.int .u8 (2 : Int)))]), zI])
theorem Zyl : funD Tryz.prog Zlb 100000 60 Z5u Tryz.f155 Zs1 = some Zs2 := by kernel_rfl
theorem Zym : funD Tryz.prog Zlb 100000 60 Z5u Tryz.f155 Zs3 = some Zs4 := by kernel_rfl
def Zrc (ds : List D) : Option D := if isT Zs1 ds then some Zs2 else (if isT Zs3 ds then some Zs4 else (none))
theorem Z103 : ∀ ds d, Zrc ds = some d → DataSem Tryz.prog 155 ds d := by
  intro ds d h
  unfold Zrc at h
  split at h
  · rename_i ha; obtain rfl := isT_eq ha; cases h; exact Znw Zyl
  split at h
  · rename_i ha; obtain rfl := isT_eq ha; cases h; exact Znw Zym
  cases h

def Z22 : FnH := ⟨[], []⟩
def Zaf : FnH := ⟨[], []⟩
def Zdu : FnH := ⟨[], []⟩
def Zck : FnH := ⟨[(5, ⟨(bm 3670026 34), [(19, 5)], none⟩)], []⟩
theorem Z52 : Enters Tryz.prog 198 := ⟨Tryz.f198, Tryz.func198, by kernel_rfl, by kernel_rfl⟩
theorem Zag : Enters Tryz.prog 214 := ⟨Tryz.f214, Tryz.func214, by kernel_rfl, by kernel_rfl⟩
theorem Zdv : Enters Tryz.prog 213 := ⟨Tryz.f213, Tryz.func213, by kernel_rfl, by kernel_rfl⟩
theorem Zcl : Enters Tryz.prog 224 := ⟨Tryz.f224, Tryz.func224, by kernel_rfl, by kernel_rfl⟩
noncomputable def Z6u : Hints := ⟨[(215, Zbw)], [(198, Tryz.f198, Z22), (214, Tryz.f214, Zaf), (213, Tryz.f213, Zdu), (224, Tryz.f224, Zck)], [233, 235, 236, 238, 183]⟩
theorem Zee {m n : Nat} {ds : List D} {d : D} (h : funD Tryz.prog Z6u m n Z22 Tryz.f198 ds = some d) : DataSem Tryz.prog 198 ds d := data_sound (H := Z6u) (SpOk.cons Zj9 SpOk.nil) mixed (InlOk.cons Tryz.func198 Z52 (InlOk.cons Tryz.func214 Zag (InlOk.cons Tryz.func213 Zdv (InlOk.cons Tryz.func224 Zcl InlOk.nil)))) Tryz.func198 Z52 h
def Zht : List D := [(D.agg [(D.v (.int .u8 (0 : Int))), (D.v (.bool true)), (D.v (.int .u32 (16 : Int))), (D.list 0 (some 0) []), (D.list 2 (some 2) [(D.v (.int .u8 (0 : Int))), (D.v (.bool false)), (D.v (.int .u32 (6 : Int))), (D.list 8 (some 8) [(D.v (.int .u8 (43 : Int))), (D.v (.int .u8 (6 : Int))), (D.v (.int .u8 (1 : Int))), (D.v (.int .u8 (5 : Int))), (D.v (.int .u8 (5 : Int))), (D.v (.int .u8 (7 : Int))), (D.v (.int .u8 (2 : Int))), (D.v (.int .u8 (1 : Int)))]), (D.list 0 (some 0) []), (D.v (.int .u8 (0 : Int))), (D.v (.bool false)), (D.v (.int .u32 (22 : Int))), (D.list 8 (some 8) [(D.v (.int .u8 (104 : Int))), (D.v (.int .u8 (116 : Int))), (D.v (.int .u8 (116 : Int))), (D.v (.int .u8 (112 : Int))), (D.v (.int .u8 (58 : Int))), (D.v (.int .u8 (47 : Int))), (D.v (.int .u8 (47 : Int))), (D.v (.int .u8 (97 : Int)))]), (D.list 0 (some 0) [])])])]
def Zhu : D := (D.tup [zI, (D.v (.int .i64 (3 : Int))), (D.v (.int .i64 (2 : Int)))])
def Zhv : List D := [(D.agg [(D.v (.int .u8 (0 : Int))), (D.v (.bool true)), (D.v (.int .u32 (16 : Int))), (D.list 0 (some 0) []), (D.list 2 (some 2) [(D.v (.int .u8 (0 : Int))), (D.v (.bool false)), (D.v (.int .u32 (6 : Int))), (D.list 8 (some 8) [(D.v (.int .u8 (43 : Int))), (D.v (.int .u8 (6 : Int))), (D.v (.int .u8 (1 : Int))), (D.v (.int .u8 (5 : Int))), (D.v (.int .u8 (5 : Int))), (D.v (.int .u8 (7 : Int))), (D.v (.int .u8 (2 : Int))), (D.v (.int .u8 (2 : Int)))]), (D.list 0 (some 0) []), (D.v (.int .u8 (0 : Int))), (D.v (.bool true)), (D.v (.int .u32 (16 : Int))), (D.list 0 (some 0) []), (D.list 1 (some 1) [(D.v (.int .u8 (0 : Int))), (D.v (.bool false)), (D.v (.int .u32 (12 : Int))), (D.list 1 (some 1) [(D.v (.int .u8 (98 : Int)))]), (D.list 0 (some 0) [])])])])]
def Zhw : D := (D.tup [zI, (D.v (.int .i64 (4 : Int))), (D.v (.int .i64 (3 : Int)))])
theorem Zp5 : funD Tryz.prog Z6u 100000 60 Z22 Tryz.f198 Zht = some Zhu := by kernel_rfl
theorem Zp6 : funD Tryz.prog Z6u 100000 60 Z22 Tryz.f198 Zhv = some Zhw := by kernel_rfl
def Zdw (ds : List D) : Option D := if isT Zht ds then some Zhu else (if isT Zhv ds then some Zhw else (none))
theorem Zrd : ∀ ds d, Zdw ds = some d → DataSem Tryz.prog 198 ds d := by
  intro ds d h
  unfold Zdw at h
  split at h
  · rename_i ha; obtain rfl := isT_eq ha; cases h; exact Zee Zp5
  split at h
  · rename_i ha; obtain rfl := isT_eq ha; cases h; exact Zee Zp6
  cases h

def Z1m : FnH := ⟨[], []⟩
def Zbx : FnH := ⟨[], []⟩
theorem Z99 : Enters Tryz.prog 203 := ⟨Tryz.f203, Tryz.func203, by kernel_rfl, by kernel_rfl⟩
theorem Zby : Enters Tryz.prog 171 := ⟨Tryz.f171, Tryz.func171, by kernel_rfl, by kernel_rfl⟩
noncomputable def Z5g : Hints := ⟨[], [(203, Tryz.f203, Z1m), (171, Tryz.f171, Zbx)], [233, 235, 236, 238, 183]⟩
theorem Z5h {m n : Nat} {ds : List D} {d : D} (h : funD Tryz.prog Z5g m n Z1m Tryz.f203 ds = some d) : DataSem Tryz.prog 203 ds d := data_sound (H := Z5g) SpOk.nil mixed (InlOk.cons Tryz.func203 Z99 (InlOk.cons Tryz.func171 Zby InlOk.nil)) Tryz.func203 Z99 h
def Znx : List D := [(D.v (.int .i64 (8 : Int)))]
def Zny : D := (D.tup [(D.list 1 (some 1) [(D.v (.int .u8 (8 : Int)))]), zI])
def Znz : List D := [(D.v (.int .i64 (20 : Int)))]
def Zo0 : D := (D.tup [(D.list 1 (some 1) [(D.v (.int .u8 (20 : Int)))]), zI])
def Zo1 : List D := [(D.v (.int .i64 (1 : Int)))]
def Zo2 : D := (D.tup [(D.list 1 (some 1) [(D.v (.int .u8 (1 : Int)))]), zI])
def Zo3 : List D := [(D.v (.int .i64 (3 : Int)))]
def Zo4 : D := (D.tup [(D.list 1 (some 1) [(D.v (.int .u8 (3 : Int)))]), zI])
def Zo5 : List D := [(D.v (.int .i64 (15 : Int)))]
def Zo6 : D := (D.tup [(D.list 1 (some 1) [(D.v (.int .u8 (15 : Int)))]), zI])
theorem Zuk : funD Tryz.prog Z5g 100000 60 Z1m Tryz.f203 Znx = some Zny := by kernel_rfl
theorem Zul : funD Tryz.prog Z5g 100000 60 Z1m Tryz.f203 Znz = some Zo0 := by kernel_rfl
theorem Zum : funD Tryz.prog Z5g 100000 60 Z1m Tryz.f203 Zo1 = some Zo2 := by kernel_rfl
theorem Zun : funD Tryz.prog Z5g 100000 60 Z1m Tryz.f203 Zo3 = some Zo4 := by kernel_rfl
theorem Zuo : funD Tryz.prog Z5g 100000 60 Z1m Tryz.f203 Zo5 = some Zo6 := by kernel_rfl
def Zh4 (ds : List D) : Option D := if isT Znx ds then some Zny else (if isT Znz ds then some Zo0 else (if isT Zo1 ds then some Zo2 else (if isT Zo3 ds then some Zo4 else (if isT Zo5 ds then some Zo6 else (none)))))
theorem Zqp : ∀ ds d, Zh4 ds = some d → DataSem Tryz.prog 203 ds d := by
  intro ds d h
  unfold Zh4 at h
  split at h
  · rename_i ha; obtain rfl := isT_eq ha; cases h; exact Z5h Zuk
  split at h
  · rename_i ha; obtain rfl := isT_eq ha; cases h; exact Z5h Zul
  split at h
  · rename_i ha; obtain rfl := isT_eq ha; cases h; exact Z5h Zum
  split at h
  · rename_i ha; obtain rfl := isT_eq ha; cases h; exact Z5h Zun
  split at h
  · rename_i ha; obtain rfl := isT_eq ha; cases h; exact Z5h Zuo
  cases h

def Z14 : FnH := ⟨[], []⟩
def Zgs : FnH := ⟨[], []⟩
theorem Z6d : Enters Tryz.prog 200 := ⟨Tryz.f200, Tryz.func200, by kernel_rfl, by kernel_rfl⟩
theorem Zgt : Enters Tryz.prog 216 := ⟨Tryz.f216, Tryz.func216, by kernel_rfl, by kernel_rfl⟩
noncomputable def Z4g : Hints := ⟨[(203, Zh4)], [(200, Tryz.f200, Z14), (216, Tryz.f216, Zgs)], [233, 235, 236, 238, 183]⟩
theorem Z4r {m n : Nat} {ds : List D} {d : D} (h : funD Tryz.prog Z4g m n Z14 Tryz.f200 ds = some d) : DataSem Tryz.prog 200 ds d := data_sound (H := Z4g) (SpOk.cons Zqp SpOk.nil) mixed (InlOk.cons Tryz.func200 Z6d (InlOk.cons Tryz.func216 Zgt InlOk.nil)) Tryz.func200 Z6d h
def Zlc : List D := [(D.v (.int .i64 (1 : Int))), (D.v (.int .i64 (8 : Int)))]
def Zld : D := (D.v (.int .i64 (10 : Int)))
def Zle : List D := [(D.v (.int .i64 (1 : Int))), (D.v (.int .i64 (20 : Int)))]
def Zlf : D := (D.v (.int .i64 (22 : Int)))
def Zlg : List D := [(D.v (.int .i64 (1 : Int))), (D.v (.int .i64 (1 : Int)))]
def Zlh : D := (D.v (.int .i64 (3 : Int)))
def Zli : List D := [(D.v (.int .i64 (1 : Int))), (D.v (.int .i64 (3 : Int)))]
def Zlj : D := (D.v (.int .i64 (5 : Int)))
def Zlk : List D := [(D.v (.int .i64 (1 : Int))), (D.v (.int .i64 (15 : Int)))]
def Zll : D := (D.v (.int .i64 (17 : Int)))
theorem Zs5 : funD Tryz.prog Z4g 100000 60 Z14 Tryz.f200 Zlc = some Zld := by kernel_rfl
theorem Zs6 : funD Tryz.prog Z4g 100000 60 Z14 Tryz.f200 Zle = some Zlf := by kernel_rfl
theorem Zs7 : funD Tryz.prog Z4g 100000 60 Z14 Tryz.f200 Zlg = some Zlh := by kernel_rfl
theorem Zs8 : funD Tryz.prog Z4g 100000 60 Z14 Tryz.f200 Zli = some Zlj := by kernel_rfl
theorem Zs9 : funD Tryz.prog Z4g 100000 60 Z14 Tryz.f200 Zlk = some Zll := by kernel_rfl
def Zdg (ds : List D) : Option D := if isT Zlc ds then some Zld else (if isT Zle ds then some Zlf else (if isT Zlg ds then some Zlh else (if isT Zli ds then some Zlj else (if isT Zlk ds then some Zll else (none)))))
theorem Zo7 : ∀ ds d, Zdg ds = some d → DataSem Tryz.prog 200 ds d := by
  intro ds d h
  unfold Zdg at h
  split at h
  · rename_i ha; obtain rfl := isT_eq ha; cases h; exact Z4r Zs5
  split at h
  · rename_i ha; obtain rfl := isT_eq ha; cases h; exact Z4r Zs6
  split at h
  · rename_i ha; obtain rfl := isT_eq ha; cases h; exact Z4r Zs7
  split at h
  · rename_i ha; obtain rfl := isT_eq ha; cases h; exact Z4r Zs8
  split at h
  · rename_i ha; obtain rfl := isT_eq ha; cases h; exact Z4r Zs9
  cases h

def Z3n : FnH := ⟨[(11, ⟨(bm 76 42), [], none⟩)], []⟩
def Zmd : FnH := ⟨[], []⟩
def Zk9 : FnH := ⟨[(1, ⟨(bm 11 29), [], none⟩), (3, ⟨(bm 11 29), [], none⟩)], []⟩
def Zdx : FnH := ⟨[], []⟩
theorem Zgp : Enters Tryz.prog 202 := ⟨Tryz.f202, Tryz.func202, by kernel_rfl, by kernel_rfl⟩
theorem Zme : Enters Tryz.prog 217 := ⟨Tryz.f217, Tryz.func217, by kernel_rfl, by kernel_rfl⟩
theorem Zka : Enters Tryz.prog 225 := ⟨Tryz.f225, Tryz.func225, by kernel_rfl, by kernel_rfl⟩
theorem Zdy : Enters Tryz.prog 171 := ⟨Tryz.f171, Tryz.func171, by kernel_rfl, by kernel_rfl⟩
noncomputable def Zef : Hints := ⟨[(215, Zbw)], [(202, Tryz.f202, Z3n), (217, Tryz.f217, Zmd), (225, Tryz.f225, Zk9), (171, Tryz.f171, Zdx)], [233, 235, 236, 238, 183]⟩
theorem Zdh {m n : Nat} {ds : List D} {d : D} (h : funD Tryz.prog Zef m n Z3n Tryz.f202 ds = some d) : DataSem Tryz.prog 202 ds d := data_sound (H := Zef) (SpOk.cons Zj9 SpOk.nil) mixed (InlOk.cons Tryz.func202 Zgp (InlOk.cons Tryz.func217 Zme (InlOk.cons Tryz.func225 Zka (InlOk.cons Tryz.func171 Zdy InlOk.nil)))) Tryz.func202 Zgp h
def Zsa : List D := [(D.agg [(D.v (.int .u8 (0 : Int))), (D.v (.bool false)), (D.v (.int .u32 (6 : Int)))])]
def Zsb : D := (D.tup [(D.list 1 (some 1) [(D.v (.int .u8 (6 : Int)))]), zI])
def Zsc : List D := [(D.agg [(D.v (.int .u8 (0 : Int))), (D.v (.bool false)), (D.v (.int .u32 (22 : Int)))])]
def Zsd : D := (D.tup [(D.list 1 (some 1) [(D.v (.int .u8 (22 : Int)))]), zI])
def Zse : List D := [(D.agg [(D.v (.int .u8 (0 : Int))), (D.v (.bool true)), (D.v (.int .u32 (16 : Int)))])]
def Zsf : D := (D.tup [(D.list 1 (some 1) [(D.v (.int .u8 (48 : Int)))]), zI])
def Zsg : List D := [(D.agg [(D.v (.int .u8 (0 : Int))), (D.v (.bool false)), (D.v (.int .u32 (12 : Int)))])]
def Zsh : D := (D.tup [(D.list 1 (some 1) [(D.v (.int .u8 (12 : Int)))]), zI])
theorem Zyn : funD Tryz.prog Zef 100000 60 Z3n Tryz.f202 Zsa = some Zsb := by kernel_rfl
theorem Zyo : funD Tryz.prog Zef 100000 60 Z3n Tryz.f202 Zsc = some Zsd := by kernel_rfl
theorem Zyp : funD Tryz.prog Zef 100000 60 Z3n Tryz.f202 Zse = some Zsf := by kernel_rfl
theorem Zyq : funD Tryz.prog Zef 100000 60 Z3n Tryz.f202 Zsg = some Zsh := by kernel_rfl
def Znj (ds : List D) : Option D := if isT Zsa ds then some Zsb else (if isT Zsc ds then some Zsd else (if isT Zse ds then some Zsf else (if isT Zsg ds then some Zsh else (none))))
theorem Zvz : ∀ ds d, Znj ds = some d → DataSem Tryz.prog 202 ds d := by
  intro ds d h
  unfold Znj at h
  split at h
  · rename_i ha; obtain rfl := isT_eq ha; cases h; exact Zdh Zyn
  split at h
  · rename_i ha; obtain rfl := isT_eq ha; cases h; exact Zdh Zyo
  split at h
  · rename_i ha; obtain rfl := isT_eq ha; cases h; exact Zdh Zyp
  split at h
  · rename_i ha; obtain rfl := isT_eq ha; cases h; exact Zdh Zyq
  cases h

def Z35 : FnH := ⟨[], []⟩
theorem Zeg : Enters Tryz.prog 201 := ⟨Tryz.f201, Tryz.func201, by kernel_rfl, by kernel_rfl⟩
noncomputable def Zbz : Hints := ⟨[(202, Znj)], [(201, Tryz.f201, Z35)], [233, 235, 236, 238, 183]⟩
theorem Zc0 {m n : Nat} {ds : List D} {d : D} (h : funD Tryz.prog Zbz m n Z35 Tryz.f201 ds = some d) : DataSem Tryz.prog 201 ds d := data_sound (H := Zbz) (SpOk.cons Zvz SpOk.nil) mixed (InlOk.cons Tryz.func201 Zeg InlOk.nil) Tryz.func201 Zeg h
def Zqq : List D := [(D.agg [(D.v (.int .u8 (0 : Int))), (D.v (.bool false)), (D.v (.int .u32 (6 : Int)))])]
def Zqr : D := (D.v (.int .i64 (1 : Int)))
def Zqs : List D := [(D.agg [(D.v (.int .u8 (0 : Int))), (D.v (.bool false)), (D.v (.int .u32 (22 : Int)))])]
def Zqt : D := (D.v (.int .i64 (1 : Int)))
def Zqu : List D := [(D.agg [(D.v (.int .u8 (0 : Int))), (D.v (.bool true)), (D.v (.int .u32 (16 : Int)))])]
def Zqv : D := (D.v (.int .i64 (1 : Int)))
def Zqw : List D := [(D.agg [(D.v (.int .u8 (0 : Int))), (D.v (.bool false)), (D.v (.int .u32 (12 : Int)))])]
def Zqx : D := (D.v (.int .i64 (1 : Int)))
theorem Zx7 : funD Tryz.prog Zbz 100000 60 Z35 Tryz.f201 Zqq = some Zqr := by kernel_rfl
theorem Zx8 : funD Tryz.prog Zbz 100000 60 Z35 Tryz.f201 Zqs = some Zqt := by kernel_rfl
theorem Zx9 : funD Tryz.prog Zbz 100000 60 Z35 Tryz.f201 Zqu = some Zqv := by kernel_rfl
theorem Zxa : funD Tryz.prog Zbz 100000 60 Z35 Tryz.f201 Zqw = some Zqx := by kernel_rfl
def Zlm (ds : List D) : Option D := if isT Zqq ds then some Zqr else (if isT Zqs ds then some Zqt else (if isT Zqu ds then some Zqv else (if isT Zqw ds then some Zqx else (none))))
theorem Zuf : ∀ ds d, Zlm ds = some d → DataSem Tryz.prog 201 ds d := by
  intro ds d h
  unfold Zlm at h
  split at h
  · rename_i ha; obtain rfl := isT_eq ha; cases h; exact Zc0 Zx7
  split at h
  · rename_i ha; obtain rfl := isT_eq ha; cases h; exact Zc0 Zx8
  split at h
  · rename_i ha; obtain rfl := isT_eq ha; cases h; exact Zc0 Zx9
  split at h
  · rename_i ha; obtain rfl := isT_eq ha; cases h; exact Zc0 Zxa
  cases h

def Zg : FnH := ⟨[(5, ⟨(bm 114696 27), [(14, 5)], none⟩)], []⟩
def Zdz : FnH := ⟨[], []⟩
theorem Z53 : Enters Tryz.prog 199 := ⟨Tryz.f199, Tryz.func199, by kernel_rfl, by kernel_rfl⟩
theorem Ze0 : Enters Tryz.prog 182 := ⟨Tryz.f182, Tryz.func182, by kernel_rfl, by kernel_rfl⟩
noncomputable def Z28 : Hints := ⟨[(200, Zdg), (201, Zlm)], [(199, Tryz.f199, Zg), (182, Tryz.f182, Zdz)], [233, 235, 236, 238, 183]⟩
theorem Z29 {m n : Nat} {ds : List D} {d : D} (h : funD Tryz.prog Z28 m n Zg Tryz.f199 ds = some d) : DataSem Tryz.prog 199 ds d := data_sound (H := Z28) (SpOk.cons Zo7 (SpOk.cons Zuf SpOk.nil)) mixed (InlOk.cons Tryz.func199 Z53 (InlOk.cons Tryz.func182 Ze0 InlOk.nil)) Tryz.func199 Z53 h
def Zhx : List D := [(D.agg [(D.v (.int .u8 (0 : Int))), (D.v (.bool true)), (D.v (.int .u32 (16 : Int))), (D.list 0 (some 0) []), (D.list 2 (some 2) [(D.v (.int .u8 (0 : Int))), (D.v (.bool false)), (D.v (.int .u32 (6 : Int))), (D.list 8 (some 8) [(D.v (.int .u8 (43 : Int))), (D.v (.int .u8 (6 : Int))), (D.v (.int .u8 (1 : Int))), (D.v (.int .u8 (5 : Int))), (D.v (.int .u8 (5 : Int))), (D.v (.int .u8 (7 : Int))), (D.v (.int .u8 (2 : Int))), (D.v (.int .u8 (1 : Int)))]), (D.list 0 (some 0) []), (D.v (.int .u8 (0 : Int))), (D.v (.bool false)), (D.v (.int .u32 (22 : Int))), (D.list 8 (some 8) [(D.v (.int .u8 (104 : Int))), (D.v (.int .u8 (116 : Int))), (D.v (.int .u8 (116 : Int))), (D.v (.int .u8 (112 : Int))), (D.v (.int .u8 (58 : Int))), (D.v (.int .u8 (47 : Int))), (D.v (.int .u8 (47 : Int))), (D.v (.int .u8 (97 : Int)))]), (D.list 0 (some 0) [])])])]
def Zhy : D := (D.v (.int .i64 (20 : Int)))
def Zhz : List D := [(D.agg [(D.v (.int .u8 (0 : Int))), (D.v (.bool false)), (D.v (.int .u32 (6 : Int))), (D.list 8 (some 8) [(D.v (.int .u8 (43 : Int))), (D.v (.int .u8 (6 : Int))), (D.v (.int .u8 (1 : Int))), (D.v (.int .u8 (5 : Int))), (D.v (.int .u8 (5 : Int))), (D.v (.int .u8 (7 : Int))), (D.v (.int .u8 (2 : Int))), (D.v (.int .u8 (1 : Int)))]), (D.list 0 (some 0) [])])]
def Zi0 : D := (D.v (.int .i64 (8 : Int)))
def Zi1 : List D := [(D.agg [(D.v (.int .u8 (0 : Int))), (D.v (.bool false)), (D.v (.int .u32 (22 : Int))), (D.list 8 (some 8) [(D.v (.int .u8 (104 : Int))), (D.v (.int .u8 (116 : Int))), (D.v (.int .u8 (116 : Int))), (D.v (.int .u8 (112 : Int))), (D.v (.int .u8 (58 : Int))), (D.v (.int .u8 (47 : Int))), (D.v (.int .u8 (47 : Int))), (D.v (.int .u8 (97 : Int)))]), (D.list 0 (some 0) [])])]
def Zi2 : D := (D.v (.int .i64 (8 : Int)))
def Zi3 : List D := [(D.agg [(D.v (.int .u8 (0 : Int))), (D.v (.bool true)), (D.v (.int .u32 (16 : Int))), (D.list 0 (some 0) []), (D.list 2 (some 2) [(D.v (.int .u8 (0 : Int))), (D.v (.bool false)), (D.v (.int .u32 (6 : Int))), (D.list 8 (some 8) [(D.v (.int .u8 (43 : Int))), (D.v (.int .u8 (6 : Int))), (D.v (.int .u8 (1 : Int))), (D.v (.int .u8 (5 : Int))), (D.v (.int .u8 (5 : Int))), (D.v (.int .u8 (7 : Int))), (D.v (.int .u8 (2 : Int))), (D.v (.int .u8 (2 : Int)))]), (D.list 0 (some 0) []), (D.v (.int .u8 (0 : Int))), (D.v (.bool true)), (D.v (.int .u32 (16 : Int))), (D.list 0 (some 0) []), (D.list 1 (some 1) [(D.v (.int .u8 (0 : Int))), (D.v (.bool false)), (D.v (.int .u32 (12 : Int))), (D.list 1 (some 1) [(D.v (.int .u8 (98 : Int)))]), (D.list 0 (some 0) [])])])])]
def Zi4 : D := (D.v (.int .i64 (15 : Int)))
def Zi5 : List D := [(D.agg [(D.v (.int .u8 (0 : Int))), (D.v (.bool false)), (D.v (.int .u32 (6 : Int))), (D.list 8 (some 8) [(D.v (.int .u8 (43 : Int))), (D.v (.int .u8 (6 : Int))), (D.v (.int .u8 (1 : Int))), (D.v (.int .u8 (5 : Int))), (D.v (.int .u8 (5 : Int))), (D.v (.int .u8 (7 : Int))), (D.v (.int .u8 (2 : Int))), (D.v (.int .u8 (2 : Int)))]), (D.list 0 (some 0) [])])]
def Zi6 : D := (D.v (.int .i64 (8 : Int)))
def Zi7 : List D := [(D.agg [(D.v (.int .u8 (0 : Int))), (D.v (.bool true)), (D.v (.int .u32 (16 : Int))), (D.list 0 (some 0) []), (D.list 1 (some 1) [(D.v (.int .u8 (0 : Int))), (D.v (.bool false)), (D.v (.int .u32 (12 : Int))), (D.list 1 (some 1) [(D.v (.int .u8 (98 : Int)))]), (D.list 0 (some 0) [])])])]
def Zi8 : D := (D.v (.int .i64 (3 : Int)))
def Zi9 : List D := [(D.agg [(D.v (.int .u8 (0 : Int))), (D.v (.bool false)), (D.v (.int .u32 (12 : Int))), (D.list 1 (some 1) [(D.v (.int .u8 (98 : Int)))]), (D.list 0 (some 0) [])])]
def Zia : D := (D.v (.int .i64 (1 : Int)))
theorem Zp7 : funD Tryz.prog Z28 100000 60 Zg Tryz.f199 Zhx = some Zhy := by kernel_rfl
theorem Zp8 : funD Tryz.prog Z28 100000 60 Zg Tryz.f199 Zhz = some Zi0 := by kernel_rfl
theorem Zp9 : funD Tryz.prog Z28 100000 60 Zg Tryz.f199 Zi1 = some Zi2 := by kernel_rfl
theorem Zpa : funD Tryz.prog Z28 100000 60 Zg Tryz.f199 Zi3 = some Zi4 := by kernel_rfl
theorem Zpb : funD Tryz.prog Z28 100000 60 Zg Tryz.f199 Zi5 = some Zi6 := by kernel_rfl
theorem Zpc : funD Tryz.prog Z28 100000 60 Zg Tryz.f199 Zi7 = some Zi8 := by kernel_rfl
theorem Zpd : funD Tryz.prog Z28 100000 60 Zg Tryz.f199 Zi9 = some Zia := by kernel_rfl
def Ze1 (ds : List D) : Option D := if isT Zhx ds then some Zhy else (if isT Zhz ds then some Zi0 else (if isT Zi1 ds then some Zi2 else (if isT Zi3 ds then some Zi4 else (if isT Zi5 ds then some Zi6 else (if isT Zi7 ds then some Zi8 else (if isT Zi9 ds then some Zia else (none)))))))
theorem Zre : ∀ ds d, Ze1 ds = some d → DataSem Tryz.prog 199 ds d := by
  intro ds d h
  unfold Ze1 at h
  split at h
  · rename_i ha; obtain rfl := isT_eq ha; cases h; exact Z29 Zp7
  split at h
  · rename_i ha; obtain rfl := isT_eq ha; cases h; exact Z29 Zp8
  split at h
  · rename_i ha; obtain rfl := isT_eq ha; cases h; exact Z29 Zp9
  split at h
  · rename_i ha; obtain rfl := isT_eq ha; cases h; exact Z29 Zpa
  split at h
  · rename_i ha; obtain rfl := isT_eq ha; cases h; exact Z29 Zpb
  split at h
  · rename_i ha; obtain rfl := isT_eq ha; cases h; exact Z29 Zpc
  split at h
  · rename_i ha; obtain rfl := isT_eq ha; cases h; exact Z29 Zpd
  cases h

def Z23 : FnH := ⟨[], []⟩
def Zcz : FnH := ⟨[], []⟩
def Zah : FnH := ⟨[], []⟩
def Zai : FnH := ⟨[(4, ⟨(bm 14336 24), [(11, 1)], none⟩)], []⟩
def Zaj : FnH := ⟨[], []⟩
def Z80 : FnH := ⟨[], []⟩
def Zak : FnH := ⟨[], []⟩
def Zb8 : FnH := ⟨[], []⟩
def Z8h : FnH := ⟨[], []⟩
def Z5i : FnH := ⟨[], []⟩
def Z67 : FnH := ⟨[(2, ⟨(bm 387 19), [], none⟩)], []⟩
def Z7l : FnH := ⟨[(8, ⟨(bm 3758096566 83), [(29, 1)], none⟩)], []⟩
def Zd0 : FnH := ⟨[(3, ⟨(bm 73 25), [], none⟩), (8, ⟨(bm 32 25), [(5, 1)], none⟩)], []⟩
def Z95 : FnH := ⟨[], []⟩
def Z4s : FnH := ⟨[], []⟩
def Zal : FnH := ⟨[], []⟩
def Zam : FnH := ⟨[], []⟩
def Zgf : FnH := ⟨[(6, ⟨(bm 1924145348608 47), [(38, 1)], none⟩)], []⟩
def Zen : FnH := ⟨[], []⟩
def Ze2 : FnH := ⟨[], []⟩
def Zcm : FnH := ⟨[], []⟩
def Z73 : FnH := ⟨[(25, ⟨(bm 16655 151), [], none⟩)], []⟩
def Zib : FnH := ⟨[], []⟩
def Zf5 : FnH := ⟨[(3, ⟨(bm 13 43), [], none⟩)], []⟩
def Zf6 : FnH := ⟨[], []⟩
def Zf7 : FnH := ⟨[], []⟩
def Zan : FnH := ⟨[], []⟩
def Zcn : FnH := ⟨[], []⟩
def Zeo : FnH := ⟨[], []⟩
def Zd1 : FnH := ⟨[], []⟩
def Ze3 : FnH := ⟨[], []⟩
def Zep : FnH := ⟨[(6, ⟨(bm 60129542145 44), [(0, 1), (33, 5)], none⟩)], []⟩
theorem Z54 : Enters Tryz.prog 110 := ⟨Tryz.f110, Tryz.func110, by kernel_rfl, by kernel_rfl⟩
theorem Zd2 : Enters Tryz.prog 134 := ⟨Tryz.f134, Tryz.func134, by kernel_rfl, by kernel_rfl⟩
theorem Zao : Enters Tryz.prog 168 := ⟨Tryz.f168, Tryz.func168, by kernel_rfl, by kernel_rfl⟩
theorem Zap : Enters Tryz.prog 169 := ⟨Tryz.f169, Tryz.func169, by kernel_rfl, by kernel_rfl⟩
theorem Zaq : Enters Tryz.prog 170 := ⟨Tryz.f170, Tryz.func170, by kernel_rfl, by kernel_rfl⟩
theorem Z81 : Enters Tryz.prog 171 := ⟨Tryz.f171, Tryz.func171, by kernel_rfl, by kernel_rfl⟩
theorem Zar : Enters Tryz.prog 172 := ⟨Tryz.f172, Tryz.func172, by kernel_rfl, by kernel_rfl⟩
theorem Zb9 : Enters Tryz.prog 173 := ⟨Tryz.f173, Tryz.func173, by kernel_rfl, by kernel_rfl⟩
theorem Z8i : Enters Tryz.prog 192 := ⟨Tryz.f192, Tryz.func192, by kernel_rfl, by kernel_rfl⟩
theorem Z5j : Enters Tryz.prog 206 := ⟨Tryz.f206, Tryz.func206, by kernel_rfl, by kernel_rfl⟩
theorem Z68 : Enters Tryz.prog 218 := ⟨Tryz.f218, Tryz.func218, by kernel_rfl, by kernel_rfl⟩
theorem Z7m : Enters Tryz.prog 174 := ⟨Tryz.f174, Tryz.func174, by kernel_rfl, by kernel_rfl⟩
theorem Zd3 : Enters Tryz.prog 194 := ⟨Tryz.f194, Tryz.func194, by kernel_rfl, by kernel_rfl⟩
theorem Z96 : Enters Tryz.prog 210 := ⟨Tryz.f210, Tryz.func210, by kernel_rfl, by kernel_rfl⟩
theorem Z4t : Enters Tryz.prog 195 := ⟨Tryz.f195, Tryz.func195, by kernel_rfl, by kernel_rfl⟩
theorem Zas : Enters Tryz.prog 175 := ⟨Tryz.f175, Tryz.func175, by kernel_rfl, by kernel_rfl⟩
theorem Zat : Enters Tryz.prog 176 := ⟨Tryz.f176, Tryz.func176, by kernel_rfl, by kernel_rfl⟩
theorem Zgg : Enters Tryz.prog 109 := ⟨Tryz.f109, Tryz.func109, by kernel_rfl, by kernel_rfl⟩
theorem Zeq : Enters Tryz.prog 177 := ⟨Tryz.f177, Tryz.func177, by kernel_rfl, by kernel_rfl⟩
theorem Ze4 : Enters Tryz.prog 196 := ⟨Tryz.f196, Tryz.func196, by kernel_rfl, by kernel_rfl⟩
theorem Zco : Enters Tryz.prog 211 := ⟨Tryz.f211, Tryz.func211, by kernel_rfl, by kernel_rfl⟩
theorem Z74 : Enters Tryz.prog 212 := ⟨Tryz.f212, Tryz.func212, by kernel_rfl, by kernel_rfl⟩
theorem Zic : Enters Tryz.prog 221 := ⟨Tryz.f221, Tryz.func221, by kernel_rfl, by kernel_rfl⟩
theorem Zf8 : Enters Tryz.prog 228 := ⟨Tryz.f228, Tryz.func228, by kernel_rfl, by kernel_rfl⟩
theorem Zf9 : Enters Tryz.prog 222 := ⟨Tryz.f222, Tryz.func222, by kernel_rfl, by kernel_rfl⟩
theorem Zfa : Enters Tryz.prog 223 := ⟨Tryz.f223, Tryz.func223, by kernel_rfl, by kernel_rfl⟩
theorem Zau : Enters Tryz.prog 178 := ⟨Tryz.f178, Tryz.func178, by kernel_rfl, by kernel_rfl⟩
theorem Zcp : Enters Tryz.prog 153 := ⟨Tryz.f153, Tryz.func153, by kernel_rfl, by kernel_rfl⟩
theorem Zer : Enters Tryz.prog 156 := ⟨Tryz.f156, Tryz.func156, by kernel_rfl, by kernel_rfl⟩
theorem Zd4 : Enters Tryz.prog 181 := ⟨Tryz.f181, Tryz.func181, by kernel_rfl, by kernel_rfl⟩
theorem Ze5 : Enters Tryz.prog 182 := ⟨Tryz.f182, Tryz.func182, by kernel_rfl, by kernel_rfl⟩
theorem Zes : Enters Tryz.prog 183 := ⟨Tryz.f183, Tryz.func183, by kernel_rfl, by kernel_rfl⟩
noncomputable def Z6v : Hints := ⟨[(152, Zdr), (154, Zdf), (155, Zrc), (193, Z5t), (198, Zdw), (199, Ze1), (200, Zdg), (201, Zlm), (202, Znj), (203, Zh4), (207, Z58), (208, Z64), (215, Zbw)], [(110, Tryz.f110, Z23), (134, Tryz.f134, Zcz), (168, Tryz.f168, Zah), (169, Tryz.f169, Zai), (170, Tryz.f170, Zaj), (171, Tryz.f171, Z80), (172, Tryz.f172, Zak), (173, Tryz.f173, Zb8), (192, Tryz.f192, Z8h), (206, Tryz.f206, Z5i), (218, Tryz.f218, Z67), (174, Tryz.f174, Z7l), (194, Tryz.f194, Zd0), (210, Tryz.f210, Z95), (195, Tryz.f195, Z4s), (175, Tryz.f175, Zal), (176, Tryz.f176, Zam), (109, Tryz.f109, Zgf), (177, Tryz.f177, Zen), (196, Tryz.f196, Ze2), (211, Tryz.f211, Zcm), (212, Tryz.f212, Z73), (221, Tryz.f221, Zib), (228, Tryz.f228, Zf5), (222, Tryz.f222, Zf6), (223, Tryz.f223, Zf7), (178, Tryz.f178, Zan), (153, Tryz.f153, Zcn), (156, Tryz.f156, Zeo), (181, Tryz.f181, Zd1), (182, Tryz.f182, Ze3), (183, Tryz.f183, Zep)], [233, 235, 236, 238, 183]⟩
theorem Zeh {m n : Nat} {ds : List D} {d : D} (h : funD Tryz.prog Z6v m n Z23 Tryz.f110 ds = some d) : DataSem Tryz.prog 110 ds d := data_sound (H := Z6v) (SpOk.cons Zrb (SpOk.cons Znv (SpOk.cons Z103 (SpOk.cons Zgl (SpOk.cons Zrd (SpOk.cons Zre (SpOk.cons Zo7 (SpOk.cons Zuf (SpOk.cons Zvz (SpOk.cons Zqp (SpOk.cons Zcg (SpOk.cons Zho (SpOk.cons Zj9 SpOk.nil))))))))))))) mixed (InlOk.cons Tryz.func110 Z54 (InlOk.cons Tryz.func134 Zd2 (InlOk.cons Tryz.func168 Zao (InlOk.cons Tryz.func169 Zap (InlOk.cons Tryz.func170 Zaq (InlOk.cons Tryz.func171 Z81 (InlOk.cons Tryz.func172 Zar (InlOk.cons Tryz.func173 Zb9 (InlOk.cons Tryz.func192 Z8i (InlOk.cons Tryz.func206 Z5j (InlOk.cons Tryz.func218 Z68 (InlOk.cons Tryz.func174 Z7m (InlOk.cons Tryz.func194 Zd3 (InlOk.cons Tryz.func210 Z96 (InlOk.cons Tryz.func195 Z4t (InlOk.cons Tryz.func175 Zas (InlOk.cons Tryz.func176 Zat (InlOk.cons Tryz.func109 Zgg (InlOk.cons Tryz.func177 Zeq (InlOk.cons Tryz.func196 Ze4 (InlOk.cons Tryz.func211 Zco (InlOk.cons Tryz.func212 Z74 (InlOk.cons Tryz.func221 Zic (InlOk.cons Tryz.func228 Zf8 (InlOk.cons Tryz.func222 Zf9 (InlOk.cons Tryz.func223 Zfa (InlOk.cons Tryz.func178 Zau (InlOk.cons Tryz.func153 Zcp (InlOk.cons Tryz.func156 Zer (InlOk.cons Tryz.func181 Zd4 (InlOk.cons Tryz.func182 Ze5 (InlOk.cons Tryz.func183 Zes InlOk.nil)))))))))))))))))))))))))))))))) Tryz.func110 Z54 h
def Zid : List D := [(D.agg [(D.v (.int .u8 (1 : Int))), (D.v (.string (ByteArray.mk #[104, 116, 116, 112, 58, 47, 47, 97]))), (D.v (.bool false)), zU, (D.v (.string (ByteArray.mk #[]))), (D.list 0 (some 0) []), (D.v (.bool false)), zU, (D.v (.string (ByteArray.mk #[]))), (D.v (.int .u8 (0 : Int))), zU, zU, zU, zU, zU, zU, zU, zU, zU, zU, zU, zU, zU, zU, zU, zU, (D.list 0 (some 0) [])])]
def Zie : D := zI
def Zif : List D := [(D.agg [(D.v (.int .u8 (2 : Int))), (D.v (.string (ByteArray.mk #[]))), (D.v (.bool false)), zU, (D.v (.string (ByteArray.mk #[]))), (D.list 0 (some 0) []), (D.v (.bool true)), (D.v (.int .u32 (12 : Int))), (D.v (.string (ByteArray.mk #[98]))), (D.v (.int .u8 (0 : Int))), zU, zU, zU, zU, zU, zU, zU, zU, zU, zU, zU, zU, zU, zU, zU, zU, (D.list 0 (some 0) [])])]
def Zig : D := zI
theorem Zpe : funD Tryz.prog Z6v 100000 60 Z23 Tryz.f110 Zid = some Zie := by kernel_rfl
theorem Zpf : funD Tryz.prog Z6v 100000 60 Z23 Tryz.f110 Zif = some Zig := by kernel_rfl
def Z5k (ds : List D) : Option D := if isT Zid ds then some Zie else (if isT Zif ds then some Zig else (none))
theorem Zrf : ∀ ds d, Z5k ds = some d → DataSem Tryz.prog 110 ds d := by
  intro ds d h
  unfold Z5k at h
  split at h
  · rename_i ha; obtain rfl := isT_eq ha; cases h; exact Zeh Zpe
  split at h
  · rename_i ha; obtain rfl := isT_eq ha; cases h; exact Zeh Zpf
  cases h

end Go.Ev
