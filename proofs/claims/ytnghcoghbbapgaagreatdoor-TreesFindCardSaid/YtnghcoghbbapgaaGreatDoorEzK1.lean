/- Closed calls of the program at the two qualifiers of the examples. No conditions. -/
import Derived.Test.YtnghcoghbbapgaaGreatDoorEzI
set_option linter.unusedVariables false
set_option maxRecDepth 1000000
namespace Go.Ev
open Go Go.Proofs
def Z1u : FnH := ⟨[],[]⟩
def Zr8 : FnH := ⟨[],[]⟩
def Zno : FnH := ⟨[(6,⟨(bm 1924145348608 47),[(38,1)],none⟩)],[]⟩
theorem Z5j : Enters Tg 114 := ⟨Tryz.f114,Tryz.func114,by kernel_rfl,by kernel_rfl⟩
theorem Zr9 : Enters Tg 98 := ⟨Tryz.f98,Tryz.func98,by kernel_rfl,by kernel_rfl⟩
theorem Znp : Enters Tg 77 := ⟨Tryz.f77,Tryz.func77,by kernel_rfl,by kernel_rfl⟩
noncomputable def Zc3 : Hints := ⟨[],[(114,Tryz.f114,Z1u),(98,Tryz.f98,Zr8),(77,Tryz.f77,Zno)],[203,205,206,208,148]⟩
theorem Zm3 {m n : Nat} {ds : List D} {d : D} (h : funD Tg Zc3 m n Z1u Tryz.f114 ds = some d) : DataSem Tg 114 ds d := Z0 (H := Zc3) SpOk.nil mixed (InlOk.cons Tryz.func114 Z5j (InlOk.cons Tryz.func98 Zr9 (InlOk.cons Tryz.func77 Znp InlOk.nil))) Tryz.func114 Z5j h
def Zrt : List D := [(D.v (.int .u8 (1 : Int)))]
def Zru : D := (D.agg [(D.v (.int .u8 (9 : Int))),(D.v (.int .u32 (1 : Int))),(D.v (.int .u32 (3 : Int))),(D.v (.int .u32 (6 : Int))),(D.v (.int .u32 (1 : Int))),(D.v (.int .u32 (5 : Int))),(D.v (.int .u32 (5 : Int))),(D.v (.int .u32 (7 : Int))),(D.v (.int .u32 (2 : Int))),(D.v (.int .u32 (1 : Int))),zU,zU,zU,zU,zU,zU,zU])
def Zrv : List D := [(D.v (.int .u8 (2 : Int)))]
def Zrw : D := (D.agg [(D.v (.int .u8 (9 : Int))),(D.v (.int .u32 (1 : Int))),(D.v (.int .u32 (3 : Int))),(D.v (.int .u32 (6 : Int))),(D.v (.int .u32 (1 : Int))),(D.v (.int .u32 (5 : Int))),(D.v (.int .u32 (5 : Int))),(D.v (.int .u32 (7 : Int))),(D.v (.int .u32 (2 : Int))),(D.v (.int .u32 (2 : Int))),zU,zU,zU,zU,zU,zU,zU])
theorem Z13w : funD Tg Zc3 100000 60 Z1u Tryz.f114 Zrt = some Zru := by kernel_rfl
theorem Z13x : funD Tg Zc3 100000 60 Z1u Tryz.f114 Zrv = some Zrw := by kernel_rfl
def Zf1 (ds : List D) : Option D := if isT Zrt ds then some Zru else (if isT Zrv ds then some Zrw else (none))
theorem Zwr : ∀ ds d,Zf1 ds = some d → DataSem Tg 114 ds d := by
 intro ds d h
 unfold Zf1 at h
 split at h
 ·rename_i ha; obtain rfl := isT_eq ha; cases h; exact Zm3 Z13w
 split at h
 ·rename_i ha; obtain rfl := isT_eq ha; cases h; exact Zm3 Z13x
 cases h
def Z1c : FnH := ⟨[],[]⟩
def Z9k : FnH := ⟨[(6,⟨(bm 524368 30),[(6,1)],none⟩)],[]⟩
def Z7y : FnH := ⟨[],[]⟩
def Z8o : FnH := ⟨[],[]⟩
def Z7z : FnH := ⟨[],[]⟩
def Z6m : FnH := ⟨[],[]⟩
def Z5r : FnH := ⟨[],[]⟩
def Z9l : FnH := ⟨[],[]⟩
def Z57 : FnH := ⟨[],[]⟩
def Z5s : FnH := ⟨[],[]⟩
def Z6b : FnH := ⟨[],[]⟩
def Z80 : FnH := ⟨[(38,⟨(bm 47890485652059026823698344598447161988085597568237568 187),[],none⟩),(5,⟨(bm 1923 187),[],none⟩),(12,⟨(bm 6019 187),[],none⟩),(25,⟨(bm 50049 187),[],none⟩),(29,⟨(bm 115585 187),[],none⟩)],[]⟩
def Z81 : FnH := ⟨[],[]⟩
def Z5t : FnH := ⟨[],[]⟩
def Zb4 : FnH := ⟨[],[]⟩
def Z9m : FnH := ⟨[],[]⟩
def Z9n : FnH := ⟨[],[]⟩
def Z9o : FnH := ⟨[],[]⟩
def Z78 : FnH := ⟨[],[]⟩
def Z1x : FnH := ⟨[(2,⟨(bm 387 19),[],none⟩)],[]⟩
def Z6c : FnH := ⟨[(4,⟨(bm 2052 20),[],none⟩)],[]⟩
def Z8p : FnH := ⟨[(1,⟨(bm 1 169),[],none⟩),(9,⟨(bm 1 169),[],none⟩)],[]⟩
def Z8q : FnH := ⟨[],[]⟩
def Z5u : FnH := ⟨[],[]⟩
theorem Z2l : Enters Tg 160 := ⟨Tryz.f160,Tryz.func160,by kernel_rfl,by kernel_rfl⟩
theorem Z9p : Enters Tg 179 := ⟨Tryz.f179,Tryz.func179,by kernel_rfl,by kernel_rfl⟩
theorem Z82 : Enters Tg 189 := ⟨Tryz.f189,Tryz.func189,by kernel_rfl,by kernel_rfl⟩
theorem Z8r : Enters Tg 196 := ⟨Tryz.f196,Tryz.func196,by kernel_rfl,by kernel_rfl⟩
theorem Z83 : Enters Tg 199 := ⟨Tryz.f199,Tryz.func199,by kernel_rfl,by kernel_rfl⟩
theorem Z6n : Enters Tg 202 := ⟨Tryz.f202,Tryz.func202,by kernel_rfl,by kernel_rfl⟩
theorem Z5v : Enters Tg 207 := ⟨Tryz.f207,Tryz.func207,by kernel_rfl,by kernel_rfl⟩
theorem Z9q : Enters Tg 203 := ⟨Tryz.f203,Tryz.func203,by kernel_rfl,by kernel_rfl⟩
theorem Z58 : Enters Tg 208 := ⟨Tryz.f208,Tryz.func208,by kernel_rfl,by kernel_rfl⟩
theorem Z5w : Enters Tg 204 := ⟨Tryz.f204,Tryz.func204,by kernel_rfl,by kernel_rfl⟩
theorem Z6d : Enters Tg 209 := ⟨Tryz.f209,Tryz.func209,by kernel_rfl,by kernel_rfl⟩
theorem Z84 : Enters Tg 210 := ⟨Tryz.f210,Tryz.func210,by kernel_rfl,by kernel_rfl⟩
theorem Z85 : Enters Tg 211 := ⟨Tryz.f211,Tryz.func211,by kernel_rfl,by kernel_rfl⟩
theorem Z5x : Enters Tg 215 := ⟨Tryz.f215,Tryz.func215,by kernel_rfl,by kernel_rfl⟩
theorem Zb5 : Enters Tg 212 := ⟨Tryz.f212,Tryz.func212,by kernel_rfl,by kernel_rfl⟩
theorem Z9r : Enters Tg 213 := ⟨Tryz.f213,Tryz.func213,by kernel_rfl,by kernel_rfl⟩
theorem Z9s : Enters Tg 205 := ⟨Tryz.f205,Tryz.func205,by kernel_rfl,by kernel_rfl⟩
theorem Z9t : Enters Tg 206 := ⟨Tryz.f206,Tryz.func206,by kernel_rfl,by kernel_rfl⟩
theorem Z79 : Enters Tg 201 := ⟨Tryz.f201,Tryz.func201,by kernel_rfl,by kernel_rfl⟩
theorem Z1y : Enters Tg 200 := ⟨Tryz.f200,Tryz.func200,by kernel_rfl,by kernel_rfl⟩
theorem Z6e : Enters Tg 197 := ⟨Tryz.f197,Tryz.func197,by kernel_rfl,by kernel_rfl⟩
theorem Z8s : Enters Tg 149 := ⟨Tryz.f149,Tryz.func149,by kernel_rfl,by kernel_rfl⟩
theorem Z8t : Enters Tg 171 := ⟨Tryz.f171,Tryz.func171,by kernel_rfl,by kernel_rfl⟩
theorem Z5y : Enters Tg 136 := ⟨Tryz.f136,Tryz.func136,by kernel_rfl,by kernel_rfl⟩
noncomputable def Z7a : Hints := ⟨[],[(160,Tryz.f160,Z1c),(179,Tryz.f179,Z9k),(189,Tryz.f189,Z7y),(196,Tryz.f196,Z8o),(199,Tryz.f199,Z7z),(202,Tryz.f202,Z6m),(207,Tryz.f207,Z5r),(203,Tryz.f203,Z9l),(208,Tryz.f208,Z57),(204,Tryz.f204,Z5s),(209,Tryz.f209,Z6b),(210,Tryz.f210,Z80),(211,Tryz.f211,Z81),(215,Tryz.f215,Z5t),(212,Tryz.f212,Zb4),(213,Tryz.f213,Z9m),(205,Tryz.f205,Z9n),(206,Tryz.f206,Z9o),(201,Tryz.f201,Z78),(200,Tryz.f200,Z1x),(197,Tryz.f197,Z6c),(149,Tryz.f149,Z8p),(171,Tryz.f171,Z8q),(136,Tryz.f136,Z5u)],[203,205,206,208,148]⟩
theorem Zq6 {m n : Nat} {ds : List D} {d : D} (h : funD Tg Z7a m n Z1c Tryz.f160 ds = some d) : DataSem Tg 160 ds d := Z0 (H := Z7a) SpOk.nil mixed (InlOk.cons Tryz.func160 Z2l (InlOk.cons Tryz.func179 Z9p (InlOk.cons Tryz.func189 Z82 (InlOk.cons Tryz.func196 Z8r (InlOk.cons Tryz.func199 Z83 (InlOk.cons Tryz.func202 Z6n (InlOk.cons Tryz.func207 Z5v (InlOk.cons Tryz.func203 Z9q (InlOk.cons Tryz.func208 Z58 (InlOk.cons Tryz.func204 Z5w (InlOk.cons Tryz.func209 Z6d (InlOk.cons Tryz.func210 Z84 (InlOk.cons Tryz.func211 Z85 (InlOk.cons Tryz.func215 Z5x (InlOk.cons Tryz.func212 Zb5 (InlOk.cons Tryz.func213 Z9r (InlOk.cons Tryz.func205 Z9s (InlOk.cons Tryz.func206 Z9t (InlOk.cons Tryz.func201 Z79 (InlOk.cons Tryz.func200 Z1y (InlOk.cons Tryz.func197 Z6e (InlOk.cons Tryz.func149 Z8s (InlOk.cons Tryz.func171 Z8t (InlOk.cons Tryz.func136 Z5y InlOk.nil)))))))))))))))))))))))) Tryz.func160 Z2l h
def Zgf : List D := [(D.agg [(D.v (.int .u32 (12 : Int))),(D.v (.string (ByteArray.mk #[98])))])]
def Zgg : D := (D.tup [(D.agg [(D.v (.int .u8 (0 : Int))),(D.v (.bool false)),(D.v (.int .u32 (12 : Int))),(D.list 1 (some 1) [(D.v (.int .u8 (98 : Int)))]),(D.list 0 (some 0) [])]),zI])
theorem Zud : funD Tg Z7a 100000 60 Z1c Tryz.f160 Zgf = some Zgg := by kernel_rfl
def Z4w (ds : List D) : Option D := if isT Zgf ds then some Zgg else (none)
theorem Zkl : ∀ ds d,Z4w ds = some d → DataSem Tg 160 ds d := by
 intro ds d h
 unfold Z4w at h
 split at h
 ·rename_i ha; obtain rfl := isT_eq ha; cases h; exact Zq6 Zud
 cases h
def Z1s : FnH := ⟨[],[]⟩
def Z9u : FnH := ⟨[],[]⟩
def Zb6 : FnH := ⟨[],[]⟩
def Z9v : FnH := ⟨[],[]⟩
def Z86 : FnH := ⟨[],[]⟩
def Z6o : FnH := ⟨[],[]⟩
def Zc4 : FnH := ⟨[],[]⟩
def Z5z : FnH := ⟨[],[]⟩
def Z6p : FnH := ⟨[],[]⟩
def Z7b : FnH := ⟨[],[]⟩
def Z9w : FnH := ⟨[(38,⟨(bm 47890485652059026823698344598447161988085597568237568 187),[],none⟩),(5,⟨(bm 1923 187),[],none⟩),(12,⟨(bm 6019 187),[],none⟩),(25,⟨(bm 50049 187),[],none⟩),(29,⟨(bm 115585 187),[],none⟩)],[]⟩
def Z9x : FnH := ⟨[],[]⟩
def Z6q : FnH := ⟨[],[]⟩
def Zdb : FnH := ⟨[],[]⟩
def Zc5 : FnH := ⟨[],[]⟩
def Zc6 : FnH := ⟨[],[]⟩
def Zc7 : FnH := ⟨[],[]⟩
def Z8u : FnH := ⟨[],[]⟩
def Z21 : FnH := ⟨[(2,⟨(bm 387 19),[],none⟩)],[]⟩
def Z7c : FnH := ⟨[(4,⟨(bm 2052 20),[],none⟩)],[]⟩
def Zb7 : FnH := ⟨[(1,⟨(bm 1 169),[],none⟩),(9,⟨(bm 1 169),[],none⟩)],[]⟩
def Zb8 : FnH := ⟨[],[]⟩
theorem Z3d : Enters Tg 177 := ⟨Tryz.f177,Tryz.func177,by kernel_rfl,by kernel_rfl⟩
theorem Z9y : Enters Tg 189 := ⟨Tryz.f189,Tryz.func189,by kernel_rfl,by kernel_rfl⟩
theorem Zb9 : Enters Tg 196 := ⟨Tryz.f196,Tryz.func196,by kernel_rfl,by kernel_rfl⟩
theorem Z9z : Enters Tg 199 := ⟨Tryz.f199,Tryz.func199,by kernel_rfl,by kernel_rfl⟩
theorem Z87 : Enters Tg 202 := ⟨Tryz.f202,Tryz.func202,by kernel_rfl,by kernel_rfl⟩
theorem Z6r : Enters Tg 207 := ⟨Tryz.f207,Tryz.func207,by kernel_rfl,by kernel_rfl⟩
theorem Zc8 : Enters Tg 203 := ⟨Tryz.f203,Tryz.func203,by kernel_rfl,by kernel_rfl⟩
theorem Z60 : Enters Tg 208 := ⟨Tryz.f208,Tryz.func208,by kernel_rfl,by kernel_rfl⟩
theorem Z6s : Enters Tg 204 := ⟨Tryz.f204,Tryz.func204,by kernel_rfl,by kernel_rfl⟩
theorem Z7d : Enters Tg 209 := ⟨Tryz.f209,Tryz.func209,by kernel_rfl,by kernel_rfl⟩
theorem Za0 : Enters Tg 210 := ⟨Tryz.f210,Tryz.func210,by kernel_rfl,by kernel_rfl⟩
theorem Za1 : Enters Tg 211 := ⟨Tryz.f211,Tryz.func211,by kernel_rfl,by kernel_rfl⟩
theorem Z6t : Enters Tg 215 := ⟨Tryz.f215,Tryz.func215,by kernel_rfl,by kernel_rfl⟩
theorem Zdc : Enters Tg 212 := ⟨Tryz.f212,Tryz.func212,by kernel_rfl,by kernel_rfl⟩
theorem Zc9 : Enters Tg 213 := ⟨Tryz.f213,Tryz.func213,by kernel_rfl,by kernel_rfl⟩
theorem Zca : Enters Tg 205 := ⟨Tryz.f205,Tryz.func205,by kernel_rfl,by kernel_rfl⟩
theorem Zcb : Enters Tg 206 := ⟨Tryz.f206,Tryz.func206,by kernel_rfl,by kernel_rfl⟩
theorem Z8v : Enters Tg 201 := ⟨Tryz.f201,Tryz.func201,by kernel_rfl,by kernel_rfl⟩
theorem Z22 : Enters Tg 200 := ⟨Tryz.f200,Tryz.func200,by kernel_rfl,by kernel_rfl⟩
theorem Z7e : Enters Tg 197 := ⟨Tryz.f197,Tryz.func197,by kernel_rfl,by kernel_rfl⟩
theorem Zba : Enters Tg 149 := ⟨Tryz.f149,Tryz.func149,by kernel_rfl,by kernel_rfl⟩
theorem Zbb : Enters Tg 171 := ⟨Tryz.f171,Tryz.func171,by kernel_rfl,by kernel_rfl⟩
noncomputable def Zbc : Hints := ⟨[],[(177,Tryz.f177,Z1s),(189,Tryz.f189,Z9u),(196,Tryz.f196,Zb6),(199,Tryz.f199,Z9v),(202,Tryz.f202,Z86),(207,Tryz.f207,Z6o),(203,Tryz.f203,Zc4),(208,Tryz.f208,Z5z),(204,Tryz.f204,Z6p),(209,Tryz.f209,Z7b),(210,Tryz.f210,Z9w),(211,Tryz.f211,Z9x),(215,Tryz.f215,Z6q),(212,Tryz.f212,Zdb),(213,Tryz.f213,Zc5),(205,Tryz.f205,Zc6),(206,Tryz.f206,Zc7),(201,Tryz.f201,Z8u),(200,Tryz.f200,Z21),(197,Tryz.f197,Z7c),(149,Tryz.f149,Zb7),(171,Tryz.f171,Zb8)],[203,205,206,208,148]⟩
theorem Ztd {m n : Nat} {ds : List D} {d : D} (h : funD Tg Zbc m n Z1s Tryz.f177 ds = some d) : DataSem Tg 177 ds d := Z0 (H := Zbc) SpOk.nil mixed (InlOk.cons Tryz.func177 Z3d (InlOk.cons Tryz.func189 Z9y (InlOk.cons Tryz.func196 Zb9 (InlOk.cons Tryz.func199 Z9z (InlOk.cons Tryz.func202 Z87 (InlOk.cons Tryz.func207 Z6r (InlOk.cons Tryz.func203 Zc8 (InlOk.cons Tryz.func208 Z60 (InlOk.cons Tryz.func204 Z6s (InlOk.cons Tryz.func209 Z7d (InlOk.cons Tryz.func210 Za0 (InlOk.cons Tryz.func211 Za1 (InlOk.cons Tryz.func215 Z6t (InlOk.cons Tryz.func212 Zdc (InlOk.cons Tryz.func213 Zc9 (InlOk.cons Tryz.func205 Zca (InlOk.cons Tryz.func206 Zcb (InlOk.cons Tryz.func201 Z8v (InlOk.cons Tryz.func200 Z22 (InlOk.cons Tryz.func197 Z7e (InlOk.cons Tryz.func149 Zba (InlOk.cons Tryz.func171 Zbb InlOk.nil)))))))))))))))))))))) Tryz.func177 Z3d h
def Zkm : List D := [(D.agg [(D.v (.int .u32 (12 : Int))),(D.v (.string (ByteArray.mk #[98])))])]
def Zkn : D := zI
theorem Zyf : funD Tg Zbc 100000 60 Z1s Tryz.f177 Zkm = some Zkn := by kernel_rfl
def Z42 (ds : List D) : Option D := if isT Zkm ds then some Zkn else (none)
theorem Zdd : ∀ ds d,Z42 ds = some d → DataSem Tg 177 ds d := by
 intro ds d h
 unfold Z42 at h
 split at h
 ·rename_i ha; obtain rfl := isT_eq ha; cases h; exact Ztd Zyf
 cases h
def Z1n : FnH := ⟨[],[]⟩
def Z61 : FnH := ⟨[(2,⟨(bm 20 10),[],none⟩)],[]⟩
theorem Z2z : Enters Tg 178 := ⟨Tryz.f178,Tryz.func178,by kernel_rfl,by kernel_rfl⟩
theorem Z62 : Enters Tg 190 := ⟨Tryz.f190,Tryz.func190,by kernel_rfl,by kernel_rfl⟩
noncomputable def Z8w : Hints := ⟨[(177,Z42)],[(178,Tryz.f178,Z1n),(190,Tryz.f190,Z61)],[203,205,206,208,148]⟩
theorem Zra {m n : Nat} {ds : List D} {d : D} (h : funD Tg Z8w m n Z1n Tryz.f178 ds = some d) : DataSem Tg 178 ds d := Z0 (H := Z8w) (SpOk.cons Zdd SpOk.nil) mixed (InlOk.cons Tryz.func178 Z2z (InlOk.cons Tryz.func190 Z62 InlOk.nil)) Tryz.func178 Z2z h
def Zhw : List D := [(D.agg [(D.v (.int .u32 (12 : Int))),(D.v (.string (ByteArray.mk #[98])))])]
def Zhx : D := (D.v (.int .i64 (1 : Int)))
theorem Zw3 : funD Tg Z8w 100000 60 Z1n Tryz.f178 Zhw = some Zhx := by kernel_rfl
def Z59 (ds : List D) : Option D := if isT Zhw ds then some Zhx else (none)
theorem Zm4 : ∀ ds d,Z59 ds = some d → DataSem Tg 178 ds d := by
 intro ds d h
 unfold Z59 at h
 split at h
 ·rename_i ha; obtain rfl := isT_eq ha; cases h; exact Zra Zw3
 cases h
def Z1e : FnH := ⟨[],[]⟩
theorem Zcy : Enters Tg 185 := ⟨Tryz.f185,Tryz.func185,by kernel_rfl,by kernel_rfl⟩
noncomputable def Z8i : Hints := ⟨[],[(185,Tryz.f185,Z1e)],[203,205,206,208,148]⟩
theorem Z96 {m n : Nat} {ds : List D} {d : D} (h : funD Tg Z8i m n Z1e Tryz.f185 ds = some d) : DataSem Tg 185 ds d := Z0 (H := Z8i) SpOk.nil mixed (InlOk.cons Tryz.func185 Zcy InlOk.nil) Tryz.func185 Zcy h
def Zyr : List D := [(D.agg [(D.v (.int .u8 (0 : Int))),(D.v (.bool true)),(D.v (.int .u32 (16 : Int)))])]
def Zys : D := zI
def Zyt : List D := [(D.agg [(D.v (.int .u8 (0 : Int))),(D.v (.bool false)),(D.v (.int .u32 (6 : Int)))])]
def Zyu : D := zI
def Zyv : List D := [(D.agg [(D.v (.int .u8 (0 : Int))),(D.v (.bool false)),(D.v (.int .u32 (22 : Int)))])]
def Zyw : D := zI
def Zyx : List D := [(D.agg [(D.v (.int .u8 (0 : Int))),(D.v (.bool false)),(D.v (.int .u32 (12 : Int)))])]
def Zyy : D := zI
theorem Z1ad : funD Tg Z8i 100000 60 Z1e Tryz.f185 Zyr = some Zys := by kernel_rfl
theorem Z1ae : funD Tg Z8i 100000 60 Z1e Tryz.f185 Zyt = some Zyu := by kernel_rfl
theorem Z1af : funD Tg Z8i 100000 60 Z1e Tryz.f185 Zyv = some Zyw := by kernel_rfl
theorem Z1ag : funD Tg Z8i 100000 60 Z1e Tryz.f185 Zyx = some Zyy := by kernel_rfl
def Zcc (ds : List D) : Option D := if isT Zyr ds then some Zys else (if isT Zyt ds then some Zyu else (if isT Zyv ds then some Zyw else (if isT Zyx ds then some Zyy else (none))))
theorem Zop : ∀ ds d,Zcc ds = some d → DataSem Tg 185 ds d := by
 intro ds d h
 unfold Zcc at h
 split at h
 ·rename_i ha; obtain rfl := isT_eq ha; cases h; exact Z96 Z1ad
 split at h
 ·rename_i ha; obtain rfl := isT_eq ha; cases h; exact Z96 Z1ae
 split at h
 ·rename_i ha; obtain rfl := isT_eq ha; cases h; exact Z96 Z1af
 split at h
 ·rename_i ha; obtain rfl := isT_eq ha; cases h; exact Z96 Z1ag
 cases h
def Z23 : FnH := ⟨[],[]⟩
def Za2 : FnH := ⟨[],[]⟩
def Za3 : FnH := ⟨[(4,⟨(bm 14336 24),[(11,1)],none⟩)],[]⟩
def Za4 : FnH := ⟨[],[]⟩
def Z7f : FnH := ⟨[],[]⟩
def Za5 : FnH := ⟨[],[]⟩
def Zbd : FnH := ⟨[],[]⟩
def Z88 : FnH := ⟨[],[]⟩
def Z4f : FnH := ⟨[],[]⟩
def Z5a : FnH := ⟨[(2,⟨(bm 387 19),[],none⟩)],[]⟩
def Z6u : FnH := ⟨[(8,⟨(bm 3758096566 83),[(29,1)],none⟩)],[]⟩
def Ze0 : FnH := ⟨[(3,⟨(bm 73 25),[],none⟩),(8,⟨(bm 32 25),[(5,1)],none⟩)],[]⟩
def Z8x : FnH := ⟨[],[]⟩
def Z3j : FnH := ⟨[],[]⟩
def Za6 : FnH := ⟨[],[]⟩
def Za7 : FnH := ⟨[],[]⟩
def Zjz : FnH := ⟨[(6,⟨(bm 1924145348608 47),[(38,1)],none⟩)],[]⟩
def Zgx : FnH := ⟨[],[]⟩
def Zf9 : FnH := ⟨[],[]⟩
def Zde : FnH := ⟨[],[]⟩
def Z6f : FnH := ⟨[(25,⟨(bm 16655 151),[],none⟩)],[]⟩
def Zm5 : FnH := ⟨[],[]⟩
def Zhy : FnH := ⟨[(3,⟨(bm 13 43),[],none⟩)],[]⟩
def Zhz : FnH := ⟨[],[]⟩
def Zi0 : FnH := ⟨[],[]⟩
def Za8 : FnH := ⟨[],[]⟩
theorem Z3v : Enters Tg 112 := ⟨Tryz.f112,Tryz.func112,by kernel_rfl,by kernel_rfl⟩
theorem Za9 : Enters Tg 133 := ⟨Tryz.f133,Tryz.func133,by kernel_rfl,by kernel_rfl⟩
theorem Zaa : Enters Tg 134 := ⟨Tryz.f134,Tryz.func134,by kernel_rfl,by kernel_rfl⟩
theorem Zab : Enters Tg 135 := ⟨Tryz.f135,Tryz.func135,by kernel_rfl,by kernel_rfl⟩
theorem Z7g : Enters Tg 136 := ⟨Tryz.f136,Tryz.func136,by kernel_rfl,by kernel_rfl⟩
theorem Zac : Enters Tg 137 := ⟨Tryz.f137,Tryz.func137,by kernel_rfl,by kernel_rfl⟩
theorem Zbe : Enters Tg 138 := ⟨Tryz.f138,Tryz.func138,by kernel_rfl,by kernel_rfl⟩
theorem Z89 : Enters Tg 159 := ⟨Tryz.f159,Tryz.func159,by kernel_rfl,by kernel_rfl⟩
theorem Z4g : Enters Tg 176 := ⟨Tryz.f176,Tryz.func176,by kernel_rfl,by kernel_rfl⟩
theorem Z5b : Enters Tg 188 := ⟨Tryz.f188,Tryz.func188,by kernel_rfl,by kernel_rfl⟩
theorem Z6v : Enters Tg 139 := ⟨Tryz.f139,Tryz.func139,by kernel_rfl,by kernel_rfl⟩
theorem Ze1 : Enters Tg 161 := ⟨Tryz.f161,Tryz.func161,by kernel_rfl,by kernel_rfl⟩
theorem Z8y : Enters Tg 180 := ⟨Tryz.f180,Tryz.func180,by kernel_rfl,by kernel_rfl⟩
theorem Z3k : Enters Tg 162 := ⟨Tryz.f162,Tryz.func162,by kernel_rfl,by kernel_rfl⟩
theorem Zad : Enters Tg 140 := ⟨Tryz.f140,Tryz.func140,by kernel_rfl,by kernel_rfl⟩
theorem Zae : Enters Tg 141 := ⟨Tryz.f141,Tryz.func141,by kernel_rfl,by kernel_rfl⟩
theorem Zk0 : Enters Tg 77 := ⟨Tryz.f77,Tryz.func77,by kernel_rfl,by kernel_rfl⟩
theorem Zgy : Enters Tg 142 := ⟨Tryz.f142,Tryz.func142,by kernel_rfl,by kernel_rfl⟩
theorem Zfa : Enters Tg 163 := ⟨Tryz.f163,Tryz.func163,by kernel_rfl,by kernel_rfl⟩
theorem Zdf : Enters Tg 181 := ⟨Tryz.f181,Tryz.func181,by kernel_rfl,by kernel_rfl⟩
theorem Z6g : Enters Tg 182 := ⟨Tryz.f182,Tryz.func182,by kernel_rfl,by kernel_rfl⟩
theorem Zm6 : Enters Tg 191 := ⟨Tryz.f191,Tryz.func191,by kernel_rfl,by kernel_rfl⟩
theorem Zi1 : Enters Tg 198 := ⟨Tryz.f198,Tryz.func198,by kernel_rfl,by kernel_rfl⟩
theorem Zi2 : Enters Tg 192 := ⟨Tryz.f192,Tryz.func192,by kernel_rfl,by kernel_rfl⟩
theorem Zi3 : Enters Tg 193 := ⟨Tryz.f193,Tryz.func193,by kernel_rfl,by kernel_rfl⟩
theorem Zaf : Enters Tg 143 := ⟨Tryz.f143,Tryz.func143,by kernel_rfl,by kernel_rfl⟩
noncomputable def Zdg : Hints := ⟨[(114,Zf1),(160,Z4w),(177,Z42),(178,Z59),(185,Zcc)],[(112,Tryz.f112,Z23),(133,Tryz.f133,Za2),(134,Tryz.f134,Za3),(135,Tryz.f135,Za4),(136,Tryz.f136,Z7f),(137,Tryz.f137,Za5),(138,Tryz.f138,Zbd),(159,Tryz.f159,Z88),(176,Tryz.f176,Z4f),(188,Tryz.f188,Z5a),(139,Tryz.f139,Z6u),(161,Tryz.f161,Ze0),(180,Tryz.f180,Z8x),(162,Tryz.f162,Z3j),(140,Tryz.f140,Za6),(141,Tryz.f141,Za7),(77,Tryz.f77,Zjz),(142,Tryz.f142,Zgx),(163,Tryz.f163,Zf9),(181,Tryz.f181,Zde),(182,Tryz.f182,Z6f),(191,Tryz.f191,Zm5),(198,Tryz.f198,Zhy),(192,Tryz.f192,Zhz),(193,Tryz.f193,Zi0),(143,Tryz.f143,Za8)],[203,205,206,208,148]⟩
theorem Zue {m n : Nat} {ds : List D} {d : D} (h : funD Tg Zdg m n Z23 Tryz.f112 ds = some d) : DataSem Tg 112 ds d := Z0 (H := Zdg) (SpOk.cons Zwr (SpOk.cons Zkl (SpOk.cons Zdd (SpOk.cons Zm4 (SpOk.cons Zop SpOk.nil))))) mixed (InlOk.cons Tryz.func112 Z3v (InlOk.cons Tryz.func133 Za9 (InlOk.cons Tryz.func134 Zaa (InlOk.cons Tryz.func135 Zab (InlOk.cons Tryz.func136 Z7g (InlOk.cons Tryz.func137 Zac (InlOk.cons Tryz.func138 Zbe (InlOk.cons Tryz.func159 Z89 (InlOk.cons Tryz.func176 Z4g (InlOk.cons Tryz.func188 Z5b (InlOk.cons Tryz.func139 Z6v (InlOk.cons Tryz.func161 Ze1 (InlOk.cons Tryz.func180 Z8y (InlOk.cons Tryz.func162 Z3k (InlOk.cons Tryz.func140 Zad (InlOk.cons Tryz.func141 Zae (InlOk.cons Tryz.func77 Zk0 (InlOk.cons Tryz.func142 Zgy (InlOk.cons Tryz.func163 Zfa (InlOk.cons Tryz.func181 Zdf (InlOk.cons Tryz.func182 Z6g (InlOk.cons Tryz.func191 Zm6 (InlOk.cons Tryz.func198 Zi1 (InlOk.cons Tryz.func192 Zi2 (InlOk.cons Tryz.func193 Zi3 (InlOk.cons Tryz.func143 Zaf InlOk.nil)))))))))))))))))))))))))) Tryz.func112 Z3v h
def Zm7 : List D := []
def Zm8 : D := (D.agg [(D.v .nilFunc),(D.v .nilFunc),(D.v .nilFunc),(D.fn 133 []),(D.fn 134 []),(D.fn 135 []),(D.fn 137 []),(D.fn 138 []),(D.fn 139 []),(D.fn 140 []),(D.fn 141 []),(D.fn 143 [])])
theorem Zyz : funD Tg Zdg 100000 60 Z23 Tryz.f112 Zm7 = some Zm8 := by kernel_rfl
def Zfb (ds : List D) : Option D := if isT Zm7 ds then some Zm8 else (none)
theorem Z12p : ∀ ds d,Zfb ds = some d → DataSem Tg 112 ds d := by
 intro ds d h
 unfold Zfb at h
 split at h
 ·rename_i ha; obtain rfl := isT_eq ha; cases h; exact Zue Zyz
 cases h
def Z4x : FnH := ⟨[(8,⟨(bm 939524140 43),[(2,1),(27,1),(1002000,1)],none⟩),(11,⟨(bm 939524140 43),[],none⟩)],[]⟩
def Zuf : FnH := ⟨[(6,⟨(bm 1924145348608 47),[(38,1)],none⟩)],[]⟩
def Zw4 : FnH := ⟨[],[]⟩
def Zag : FnH := ⟨[],[]⟩
def Zte : FnH := ⟨[],[]⟩
def Zq7 : FnH := ⟨[(1,⟨(bm 11 31),[],none⟩),(3,⟨(bm 11 31),[],none⟩)],[]⟩
def Zfc : FnH := ⟨[],[]⟩
theorem Zko : Enters Tg 115 := ⟨Tryz.f115,Tryz.func115,by kernel_rfl,by kernel_rfl⟩
theorem Zug : Enters Tg 77 := ⟨Tryz.f77,Tryz.func77,by kernel_rfl,by kernel_rfl⟩
theorem Zw5 : Enters Tg 80 := ⟨Tryz.f80,Tryz.func80,by kernel_rfl,by kernel_rfl⟩
theorem Zah : Enters Tg 144 := ⟨Tryz.f144,Tryz.func144,by kernel_rfl,by kernel_rfl⟩
theorem Ztf : Enters Tg 145 := ⟨Tryz.f145,Tryz.func145,by kernel_rfl,by kernel_rfl⟩
theorem Zq8 : Enters Tg 164 := ⟨Tryz.f164,Tryz.func164,by kernel_rfl,by kernel_rfl⟩
theorem Zfd : Enters Tg 136 := ⟨Tryz.f136,Tryz.func136,by kernel_rfl,by kernel_rfl⟩
noncomputable def Zrx : Hints := ⟨[],[(115,Tryz.f115,Z4x),(77,Tryz.f77,Zuf),(80,Tryz.f80,Zw4),(144,Tryz.f144,Zag),(145,Tryz.f145,Zte),(164,Tryz.f164,Zq7),(136,Tryz.f136,Zfc)],[203,205,206,208,148]⟩
theorem Zws {m n : Nat} {ds : List D} {d : D} (h : funD Tg Zrx m n Z4x Tryz.f115 ds = some d) : DataSem Tg 115 ds d := Z0 (H := Zrx) SpOk.nil mixed (InlOk.cons Tryz.func115 Zko (InlOk.cons Tryz.func77 Zug (InlOk.cons Tryz.func80 Zw5 (InlOk.cons Tryz.func144 Zah (InlOk.cons Tryz.func145 Ztf (InlOk.cons Tryz.func164 Zq8 (InlOk.cons Tryz.func136 Zfd InlOk.nil))))))) Tryz.func115 Zko h
def Z13y : List D := [(D.agg [(D.v (.int .u8 (9 : Int))),(D.v (.int .u32 (1 : Int))),(D.v (.int .u32 (3 : Int))),(D.v (.int .u32 (6 : Int))),(D.v (.int .u32 (1 : Int))),(D.v (.int .u32 (5 : Int))),(D.v (.int .u32 (5 : Int))),(D.v (.int .u32 (7 : Int))),(D.v (.int .u32 (2 : Int))),(D.v (.int .u32 (1 : Int))),zU,zU,zU,zU,zU,zU,zU])]
def Z13z : D := (D.tup [(D.list 8 (some 8) [(D.v (.int .u8 (43 : Int))),(D.v (.int .u8 (6 : Int))),(D.v (.int .u8 (1 : Int))),(D.v (.int .u8 (5 : Int))),(D.v (.int .u8 (5 : Int))),(D.v (.int .u8 (7 : Int))),(D.v (.int .u8 (2 : Int))),(D.v (.int .u8 (1 : Int)))]),zI])
def Z140 : List D := [(D.agg [(D.v (.int .u8 (9 : Int))),(D.v (.int .u32 (1 : Int))),(D.v (.int .u32 (3 : Int))),(D.v (.int .u32 (6 : Int))),(D.v (.int .u32 (1 : Int))),(D.v (.int .u32 (5 : Int))),(D.v (.int .u32 (5 : Int))),(D.v (.int .u32 (7 : Int))),(D.v (.int .u32 (2 : Int))),(D.v (.int .u32 (2 : Int))),zU,zU,zU,zU,zU,zU,zU])]
def Z141 : D := (D.tup [(D.list 8 (some 8) [(D.v (.int .u8 (43 : Int))),(D.v (.int .u8 (6 : Int))),(D.v (.int .u8 (1 : Int))),(D.v (.int .u8 (5 : Int))),(D.v (.int .u8 (5 : Int))),(D.v (.int .u8 (7 : Int))),(D.v (.int .u8 (2 : Int))),(D.v (.int .u8 (2 : Int)))]),zI])
theorem Z1f0 : funD Tg Zrx 100000 60 Z4x Tryz.f115 Z13y = some Z13z := by kernel_rfl
theorem Z1f1 : funD Tg Zrx 100000 60 Z4x Tryz.f115 Z140 = some Z141 := by kernel_rfl
def Z12q (ds : List D) : Option D := if isT Z13y ds then some Z13z else (if isT Z140 ds then some Z141 else (none))
theorem Z1il : ∀ ds d,Z12q ds = some d → DataSem Tg 115 ds d := by
 intro ds d h
 unfold Z12q at h
 split at h
 ·rename_i ha; obtain rfl := isT_eq ha; cases h; exact Zws Z1f0
 split at h
 ·rename_i ha; obtain rfl := isT_eq ha; cases h; exact Zws Z1f1
 cases h
def Z11 : FnH := ⟨[],[]⟩
def Zai : FnH := ⟨[],[]⟩
def Zfe : FnH := ⟨[],[]⟩
def Zdh : FnH := ⟨[(5,⟨(bm 3670026 34),[(19,5)],none⟩)],[]⟩
theorem Z3w : Enters Tg 165 := ⟨Tryz.f165,Tryz.func165,by kernel_rfl,by kernel_rfl⟩
theorem Zaj : Enters Tg 184 := ⟨Tryz.f184,Tryz.func184,by kernel_rfl,by kernel_rfl⟩
theorem Zff : Enters Tg 183 := ⟨Tryz.f183,Tryz.func183,by kernel_rfl,by kernel_rfl⟩
theorem Zdi : Enters Tg 194 := ⟨Tryz.f194,Tryz.func194,by kernel_rfl,by kernel_rfl⟩
noncomputable def Z67 : Hints := ⟨[(185,Zcc)],[(165,Tryz.f165,Z11),(184,Tryz.f184,Zai),(183,Tryz.f183,Zfe),(194,Tryz.f194,Zdh)],[203,205,206,208,148]⟩
theorem Zgh {m n : Nat} {ds : List D} {d : D} (h : funD Tg Z67 m n Z11 Tryz.f165 ds = some d) : DataSem Tg 165 ds d := Z0 (H := Z67) (SpOk.cons Zop SpOk.nil) mixed (InlOk.cons Tryz.func165 Z3w (InlOk.cons Tryz.func184 Zaj (InlOk.cons Tryz.func183 Zff (InlOk.cons Tryz.func194 Zdi InlOk.nil)))) Tryz.func165 Z3w h
def Zm9 : List D := [(D.agg [(D.v (.int .u8 (0 : Int))),(D.v (.bool true)),(D.v (.int .u32 (16 : Int))),(D.list 0 (some 0) []),(D.list 2 (some 2) [(D.v (.int .u8 (0 : Int))),(D.v (.bool false)),(D.v (.int .u32 (6 : Int))),(D.list 8 (some 8) [(D.v (.int .u8 (43 : Int))),(D.v (.int .u8 (6 : Int))),(D.v (.int .u8 (1 : Int))),(D.v (.int .u8 (5 : Int))),(D.v (.int .u8 (5 : Int))),(D.v (.int .u8 (7 : Int))),(D.v (.int .u8 (2 : Int))),(D.v (.int .u8 (1 : Int)))]),(D.list 0 (some 0) []),(D.v (.int .u8 (0 : Int))),(D.v (.bool false)),(D.v (.int .u32 (22 : Int))),(D.list 8 (some 8) [(D.v (.int .u8 (104 : Int))),(D.v (.int .u8 (116 : Int))),(D.v (.int .u8 (116 : Int))),(D.v (.int .u8 (112 : Int))),(D.v (.int .u8 (58 : Int))),(D.v (.int .u8 (47 : Int))),(D.v (.int .u8 (47 : Int))),(D.v (.int .u8 (97 : Int)))]),(D.list 0 (some 0) [])])])]
def Zma : D := (D.tup [zI,(D.v (.int .i64 (3 : Int))),(D.v (.int .i64 (2 : Int)))])
def Zmb : List D := [(D.agg [(D.v (.int .u8 (0 : Int))),(D.v (.bool true)),(D.v (.int .u32 (16 : Int))),(D.list 0 (some 0) []),(D.list 2 (some 2) [(D.v (.int .u8 (0 : Int))),(D.v (.bool false)),(D.v (.int .u32 (6 : Int))),(D.list 8 (some 8) [(D.v (.int .u8 (43 : Int))),(D.v (.int .u8 (6 : Int))),(D.v (.int .u8 (1 : Int))),(D.v (.int .u8 (5 : Int))),(D.v (.int .u8 (5 : Int))),(D.v (.int .u8 (7 : Int))),(D.v (.int .u8 (2 : Int))),(D.v (.int .u8 (2 : Int)))]),(D.list 0 (some 0) []),(D.v (.int .u8 (0 : Int))),(D.v (.bool true)),(D.v (.int .u32 (16 : Int))),(D.list 0 (some 0) []),(D.list 1 (some 1) [(D.v (.int .u8 (0 : Int))),(D.v (.bool false)),(D.v (.int .u32 (12 : Int))),(D.list 1 (some 1) [(D.v (.int .u8 (98 : Int)))]),(D.list 0 (some 0) [])])])])]
def Zmc : D := (D.tup [zI,(D.v (.int .i64 (4 : Int))),(D.v (.int .i64 (3 : Int)))])
theorem Zz0 : funD Tg Z67 100000 60 Z11 Tryz.f165 Zm9 = some Zma := by kernel_rfl
theorem Zz1 : funD Tg Z67 100000 60 Z11 Tryz.f165 Zmb = some Zmc := by kernel_rfl
def Zfg (ds : List D) : Option D := if isT Zm9 ds then some Zma else (if isT Zmb ds then some Zmc else (none))
theorem Z12r : ∀ ds d,Zfg ds = some d → DataSem Tg 165 ds d := by
 intro ds d h
 unfold Zfg at h
 split at h
 ·rename_i ha; obtain rfl := isT_eq ha; cases h; exact Zgh Zz0
 split at h
 ·rename_i ha; obtain rfl := isT_eq ha; cases h; exact Zgh Zz1
 cases h
def Zm : FnH := ⟨[],[]⟩
def Zcd : FnH := ⟨[],[]⟩
theorem Z97 : Enters Tg 170 := ⟨Tryz.f170,Tryz.func170,by kernel_rfl,by kernel_rfl⟩
theorem Zce : Enters Tg 136 := ⟨Tryz.f136,Tryz.func136,by kernel_rfl,by kernel_rfl⟩
noncomputable def Z4h : Hints := ⟨[],[(170,Tryz.f170,Zm),(136,Tryz.f136,Zcd)],[203,205,206,208,148]⟩
theorem Z4i {m n : Nat} {ds : List D} {d : D} (h : funD Tg Z4h m n Zm Tryz.f170 ds = some d) : DataSem Tg 170 ds d := Z0 (H := Z4h) SpOk.nil mixed (InlOk.cons Tryz.func170 Z97 (InlOk.cons Tryz.func136 Zce InlOk.nil)) Tryz.func170 Z97 h
def Zwt : List D := [(D.v (.int .i64 (8 : Int)))]
def Zwu : D := (D.tup [(D.list 1 (some 1) [(D.v (.int .u8 (8 : Int)))]),zI])
def Zwv : List D := [(D.v (.int .i64 (20 : Int)))]
def Zww : D := (D.tup [(D.list 1 (some 1) [(D.v (.int .u8 (20 : Int)))]),zI])
def Zwx : List D := [(D.v (.int .i64 (1 : Int)))]
def Zwy : D := (D.tup [(D.list 1 (some 1) [(D.v (.int .u8 (1 : Int)))]),zI])
def Zwz : List D := [(D.v (.int .i64 (3 : Int)))]
def Zx0 : D := (D.tup [(D.list 1 (some 1) [(D.v (.int .u8 (3 : Int)))]),zI])
def Zx1 : List D := [(D.v (.int .i64 (15 : Int)))]
def Zx2 : D := (D.tup [(D.list 1 (some 1) [(D.v (.int .u8 (15 : Int)))]),zI])
theorem Z17r : funD Tg Z4h 100000 60 Zm Tryz.f170 Zwt = some Zwu := by kernel_rfl
theorem Z17s : funD Tg Z4h 100000 60 Zm Tryz.f170 Zwv = some Zww := by kernel_rfl
theorem Z17t : funD Tg Z4h 100000 60 Zm Tryz.f170 Zwx = some Zwy := by kernel_rfl
theorem Z17u : funD Tg Z4h 100000 60 Zm Tryz.f170 Zwz = some Zx0 := by kernel_rfl
theorem Z17v : funD Tg Z4h 100000 60 Zm Tryz.f170 Zx1 = some Zx2 := by kernel_rfl
def Zll (ds : List D) : Option D := if isT Zwt ds then some Zwu else (if isT Zwv ds then some Zww else (if isT Zwx ds then some Zwy else (if isT Zwz ds then some Zx0 else (if isT Zx1 ds then some Zx2 else (none)))))
theorem Z11k : ∀ ds d,Zll ds = some d → DataSem Tg 170 ds d := by
 intro ds d h
 unfold Zll at h
 split at h
 ·rename_i ha; obtain rfl := isT_eq ha; cases h; exact Z4i Z17r
 split at h
 ·rename_i ha; obtain rfl := isT_eq ha; cases h; exact Z4i Z17s
 split at h
 ·rename_i ha; obtain rfl := isT_eq ha; cases h; exact Z4i Z17t
 split at h
 ·rename_i ha; obtain rfl := isT_eq ha; cases h; exact Z4i Z17u
 split at h
 ·rename_i ha; obtain rfl := isT_eq ha; cases h; exact Z4i Z17v
 cases h
def Ze : FnH := ⟨[],[]⟩
def Zkx : FnH := ⟨[],[]⟩
theorem Z5k : Enters Tg 167 := ⟨Tryz.f167,Tryz.func167,by kernel_rfl,by kernel_rfl⟩
theorem Zky : Enters Tg 186 := ⟨Tryz.f186,Tryz.func186,by kernel_rfl,by kernel_rfl⟩
noncomputable def Z39 : Hints := ⟨[(170,Zll)],[(167,Tryz.f167,Ze),(186,Tryz.f186,Zkx)],[203,205,206,208,148]⟩
theorem Z3l {m n : Nat} {ds : List D} {d : D} (h : funD Tg Z39 m n Ze Tryz.f167 ds = some d) : DataSem Tg 167 ds d := Z0 (H := Z39) (SpOk.cons Z11k SpOk.nil) mixed (InlOk.cons Tryz.func167 Z5k (InlOk.cons Tryz.func186 Zky InlOk.nil)) Tryz.func167 Z5k h
def Zry : List D := [(D.v (.int .i64 (1 : Int))),(D.v (.int .i64 (8 : Int)))]
def Zrz : D := (D.v (.int .i64 (10 : Int)))
def Zs0 : List D := [(D.v (.int .i64 (1 : Int))),(D.v (.int .i64 (20 : Int)))]
def Zs1 : D := (D.v (.int .i64 (22 : Int)))
def Zs2 : List D := [(D.v (.int .i64 (1 : Int))),(D.v (.int .i64 (1 : Int)))]
def Zs3 : D := (D.v (.int .i64 (3 : Int)))
def Zs4 : List D := [(D.v (.int .i64 (1 : Int))),(D.v (.int .i64 (3 : Int)))]
def Zs5 : D := (D.v (.int .i64 (5 : Int)))
def Zs6 : List D := [(D.v (.int .i64 (1 : Int))),(D.v (.int .i64 (15 : Int)))]
def Zs7 : D := (D.v (.int .i64 (17 : Int)))
theorem Z142 : funD Tg Z39 100000 60 Ze Tryz.f167 Zry = some Zrz := by kernel_rfl
theorem Z143 : funD Tg Z39 100000 60 Ze Tryz.f167 Zs0 = some Zs1 := by kernel_rfl
theorem Z144 : funD Tg Z39 100000 60 Ze Tryz.f167 Zs2 = some Zs3 := by kernel_rfl
theorem Z145 : funD Tg Z39 100000 60 Ze Tryz.f167 Zs4 = some Zs5 := by kernel_rfl
theorem Z146 : funD Tg Z39 100000 60 Ze Tryz.f167 Zs6 = some Zs7 := by kernel_rfl
def Zf2 (ds : List D) : Option D := if isT Zry ds then some Zrz else (if isT Zs0 ds then some Zs1 else (if isT Zs2 ds then some Zs3 else (if isT Zs4 ds then some Zs5 else (if isT Zs6 ds then some Zs7 else (none)))))
theorem Zx3 : ∀ ds d,Zf2 ds = some d → DataSem Tg 167 ds d := by
 intro ds d h
 unfold Zf2 at h
 split at h
 ·rename_i ha; obtain rfl := isT_eq ha; cases h; exact Z3l Z142
 split at h
 ·rename_i ha; obtain rfl := isT_eq ha; cases h; exact Z3l Z143
 split at h
 ·rename_i ha; obtain rfl := isT_eq ha; cases h; exact Z3l Z144
 split at h
 ·rename_i ha; obtain rfl := isT_eq ha; cases h; exact Z3l Z145
 split at h
 ·rename_i ha; obtain rfl := isT_eq ha; cases h; exact Z3l Z146
 cases h
def Z2e : FnH := ⟨[(11,⟨(bm 76 42),[],none⟩)],[]⟩
def Ztg : FnH := ⟨[],[]⟩
def Zq9 : FnH := ⟨[(1,⟨(bm 11 29),[],none⟩),(3,⟨(bm 11 29),[],none⟩)],[]⟩
def Zfh : FnH := ⟨[],[]⟩
theorem Zkp : Enters Tg 169 := ⟨Tryz.f169,Tryz.func169,by kernel_rfl,by kernel_rfl⟩
theorem Zth : Enters Tg 187 := ⟨Tryz.f187,Tryz.func187,by kernel_rfl,by kernel_rfl⟩
theorem Zqa : Enters Tg 195 := ⟨Tryz.f195,Tryz.func195,by kernel_rfl,by kernel_rfl⟩
theorem Zfi : Enters Tg 136 := ⟨Tryz.f136,Tryz.func136,by kernel_rfl,by kernel_rfl⟩
noncomputable def Zgi : Hints := ⟨[(185,Zcc)],[(169,Tryz.f169,Z2e),(187,Tryz.f187,Ztg),(195,Tryz.f195,Zq9),(136,Tryz.f136,Zfh)],[203,205,206,208,148]⟩
theorem Zf3 {m n : Nat} {ds : List D} {d : D} (h : funD Tg Zgi m n Z2e Tryz.f169 ds = some d) : DataSem Tg 169 ds d := Z0 (H := Zgi) (SpOk.cons Zop SpOk.nil) mixed (InlOk.cons Tryz.func169 Zkp (InlOk.cons Tryz.func187 Zth (InlOk.cons Tryz.func195 Zqa (InlOk.cons Tryz.func136 Zfi InlOk.nil)))) Tryz.func169 Zkp h
def Z147 : List D := [(D.agg [(D.v (.int .u8 (0 : Int))),(D.v (.bool false)),(D.v (.int .u32 (6 : Int)))])]
def Z148 : D := (D.tup [(D.list 1 (some 1) [(D.v (.int .u8 (6 : Int)))]),zI])
def Z149 : List D := [(D.agg [(D.v (.int .u8 (0 : Int))),(D.v (.bool false)),(D.v (.int .u32 (22 : Int)))])]
def Z14a : D := (D.tup [(D.list 1 (some 1) [(D.v (.int .u8 (22 : Int)))]),zI])
def Z14b : List D := [(D.agg [(D.v (.int .u8 (0 : Int))),(D.v (.bool true)),(D.v (.int .u32 (16 : Int)))])]
def Z14c : D := (D.tup [(D.list 1 (some 1) [(D.v (.int .u8 (48 : Int)))]),zI])
def Z14d : List D := [(D.agg [(D.v (.int .u8 (0 : Int))),(D.v (.bool false)),(D.v (.int .u32 (12 : Int)))])]
def Z14e : D := (D.tup [(D.list 1 (some 1) [(D.v (.int .u8 (12 : Int)))]),zI])
theorem Z1f2 : funD Tg Zgi 100000 60 Z2e Tryz.f169 Z147 = some Z148 := by kernel_rfl
theorem Z1f3 : funD Tg Zgi 100000 60 Z2e Tryz.f169 Z149 = some Z14a := by kernel_rfl
theorem Z1f4 : funD Tg Zgi 100000 60 Z2e Tryz.f169 Z14b = some Z14c := by kernel_rfl
theorem Z1f5 : funD Tg Zgi 100000 60 Z2e Tryz.f169 Z14d = some Z14e := by kernel_rfl
def Zw6 (ds : List D) : Option D := if isT Z147 ds then some Z148 else (if isT Z149 ds then some Z14a else (if isT Z14b ds then some Z14c else (if isT Z14d ds then some Z14e else (none))))
theorem Z1ah : ∀ ds d,Zw6 ds = some d → DataSem Tg 169 ds d := by
 intro ds d h
 unfold Zw6 at h
 split at h
 ·rename_i ha; obtain rfl := isT_eq ha; cases h; exact Zf3 Z1f2
 split at h
 ·rename_i ha; obtain rfl := isT_eq ha; cases h; exact Zf3 Z1f3
 split at h
 ·rename_i ha; obtain rfl := isT_eq ha; cases h; exact Zf3 Z1f4
 split at h
 ·rename_i ha; obtain rfl := isT_eq ha; cases h; exact Zf3 Z1f5
 cases h
def Z1t : FnH := ⟨[],[]⟩
theorem Zgj : Enters Tg 168 := ⟨Tryz.f168,Tryz.func168,by kernel_rfl,by kernel_rfl⟩
noncomputable def Zcf : Hints := ⟨[(169,Zw6)],[(168,Tryz.f168,Z1t)],[203,205,206,208,148]⟩
theorem Zcg {m n : Nat} {ds : List D} {d : D} (h : funD Tg Zcf m n Z1t Tryz.f168 ds = some d) : DataSem Tg 168 ds d := Z0 (H := Zcf) (SpOk.cons Z1ah SpOk.nil) mixed (InlOk.cons Tryz.func168 Zgj InlOk.nil) Tryz.func168 Zgj h
def Z11l : List D := [(D.agg [(D.v (.int .u8 (0 : Int))),(D.v (.bool false)),(D.v (.int .u32 (6 : Int)))])]
def Z11m : D := (D.v (.int .i64 (1 : Int)))
def Z11n : List D := [(D.agg [(D.v (.int .u8 (0 : Int))),(D.v (.bool false)),(D.v (.int .u32 (22 : Int)))])]
def Z11o : D := (D.v (.int .i64 (1 : Int)))
def Z11p : List D := [(D.agg [(D.v (.int .u8 (0 : Int))),(D.v (.bool true)),(D.v (.int .u32 (16 : Int)))])]
def Z11q : D := (D.v (.int .i64 (1 : Int)))
def Z11r : List D := [(D.agg [(D.v (.int .u8 (0 : Int))),(D.v (.bool false)),(D.v (.int .u32 (12 : Int)))])]
def Z11s : D := (D.v (.int .i64 (1 : Int)))
theorem Z1c4 : funD Tg Zcf 100000 60 Z1t Tryz.f168 Z11l = some Z11m := by kernel_rfl
theorem Z1c5 : funD Tg Zcf 100000 60 Z1t Tryz.f168 Z11n = some Z11o := by kernel_rfl
theorem Z1c6 : funD Tg Zcf 100000 60 Z1t Tryz.f168 Z11p = some Z11q := by kernel_rfl
theorem Z1c7 : funD Tg Zcf 100000 60 Z1t Tryz.f168 Z11r = some Z11s := by kernel_rfl
def Zs8 (ds : List D) : Option D := if isT Z11l ds then some Z11m else (if isT Z11n ds then some Z11o else (if isT Z11p ds then some Z11q else (if isT Z11r ds then some Z11s else (none))))
theorem Z17c : ∀ ds d,Zs8 ds = some d → DataSem Tg 168 ds d := by
 intro ds d h
 unfold Zs8 at h
 split at h
 ·rename_i ha; obtain rfl := isT_eq ha; cases h; exact Zcg Z1c4
 split at h
 ·rename_i ha; obtain rfl := isT_eq ha; cases h; exact Zcg Z1c5
 split at h
 ·rename_i ha; obtain rfl := isT_eq ha; cases h; exact Zcg Z1c6
 split at h
 ·rename_i ha; obtain rfl := isT_eq ha; cases h; exact Zcg Z1c7
 cases h
def Z3 : FnH := ⟨[(5,⟨(bm 114696 27),[(14,5)],none⟩)],[]⟩
def Zfj : FnH := ⟨[],[]⟩
theorem Z3x : Enters Tg 166 := ⟨Tryz.f166,Tryz.func166,by kernel_rfl,by kernel_rfl⟩
theorem Zfk : Enters Tg 147 := ⟨Tryz.f147,Tryz.func147,by kernel_rfl,by kernel_rfl⟩
noncomputable def Z13 : Hints := ⟨[(167,Zf2),(168,Zs8)],[(166,Tryz.f166,Z3),(147,Tryz.f147,Zfj)],[203,205,206,208,148]⟩
theorem Z14 {m n : Nat} {ds : List D} {d : D} (h : funD Tg Z13 m n Z3 Tryz.f166 ds = some d) : DataSem Tg 166 ds d := Z0 (H := Z13) (SpOk.cons Zx3 (SpOk.cons Z17c SpOk.nil)) mixed (InlOk.cons Tryz.func166 Z3x (InlOk.cons Tryz.func147 Zfk InlOk.nil)) Tryz.func166 Z3x h
def Zmd : List D := [(D.agg [(D.v (.int .u8 (0 : Int))),(D.v (.bool true)),(D.v (.int .u32 (16 : Int))),(D.list 0 (some 0) []),(D.list 2 (some 2) [(D.v (.int .u8 (0 : Int))),(D.v (.bool false)),(D.v (.int .u32 (6 : Int))),(D.list 8 (some 8) [(D.v (.int .u8 (43 : Int))),(D.v (.int .u8 (6 : Int))),(D.v (.int .u8 (1 : Int))),(D.v (.int .u8 (5 : Int))),(D.v (.int .u8 (5 : Int))),(D.v (.int .u8 (7 : Int))),(D.v (.int .u8 (2 : Int))),(D.v (.int .u8 (1 : Int)))]),(D.list 0 (some 0) []),(D.v (.int .u8 (0 : Int))),(D.v (.bool false)),(D.v (.int .u32 (22 : Int))),(D.list 8 (some 8) [(D.v (.int .u8 (104 : Int))),(D.v (.int .u8 (116 : Int))),(D.v (.int .u8 (116 : Int))),(D.v (.int .u8 (112 : Int))),(D.v (.int .u8 (58 : Int))),(D.v (.int .u8 (47 : Int))),(D.v (.int .u8 (47 : Int))),(D.v (.int .u8 (97 : Int)))]),(D.list 0 (some 0) [])])])]
def Zme : D := (D.v (.int .i64 (20 : Int)))
def Zmf : List D := [(D.agg [(D.v (.int .u8 (0 : Int))),(D.v (.bool false)),(D.v (.int .u32 (6 : Int))),(D.list 8 (some 8) [(D.v (.int .u8 (43 : Int))),(D.v (.int .u8 (6 : Int))),(D.v (.int .u8 (1 : Int))),(D.v (.int .u8 (5 : Int))),(D.v (.int .u8 (5 : Int))),(D.v (.int .u8 (7 : Int))),(D.v (.int .u8 (2 : Int))),(D.v (.int .u8 (1 : Int)))]),(D.list 0 (some 0) [])])]
def Zmg : D := (D.v (.int .i64 (8 : Int)))
def Zmh : List D := [(D.agg [(D.v (.int .u8 (0 : Int))),(D.v (.bool false)),(D.v (.int .u32 (22 : Int))),(D.list 8 (some 8) [(D.v (.int .u8 (104 : Int))),(D.v (.int .u8 (116 : Int))),(D.v (.int .u8 (116 : Int))),(D.v (.int .u8 (112 : Int))),(D.v (.int .u8 (58 : Int))),(D.v (.int .u8 (47 : Int))),(D.v (.int .u8 (47 : Int))),(D.v (.int .u8 (97 : Int)))]),(D.list 0 (some 0) [])])]
def Zmi : D := (D.v (.int .i64 (8 : Int)))
def Zmj : List D := [(D.agg [(D.v (.int .u8 (0 : Int))),(D.v (.bool true)),(D.v (.int .u32 (16 : Int))),(D.list 0 (some 0) []),(D.list 2 (some 2) [(D.v (.int .u8 (0 : Int))),(D.v (.bool false)),(D.v (.int .u32 (6 : Int))),(D.list 8 (some 8) [(D.v (.int .u8 (43 : Int))),(D.v (.int .u8 (6 : Int))),(D.v (.int .u8 (1 : Int))),(D.v (.int .u8 (5 : Int))),(D.v (.int .u8 (5 : Int))),(D.v (.int .u8 (7 : Int))),(D.v (.int .u8 (2 : Int))),(D.v (.int .u8 (2 : Int)))]),(D.list 0 (some 0) []),(D.v (.int .u8 (0 : Int))),(D.v (.bool true)),(D.v (.int .u32 (16 : Int))),(D.list 0 (some 0) []),(D.list 1 (some 1) [(D.v (.int .u8 (0 : Int))),(D.v (.bool false)),(D.v (.int .u32 (12 : Int))),(D.list 1 (some 1) [(D.v (.int .u8 (98 : Int)))]),(D.list 0 (some 0) [])])])])]
def Zmk : D := (D.v (.int .i64 (15 : Int)))
def Zml : List D := [(D.agg [(D.v (.int .u8 (0 : Int))),(D.v (.bool false)),(D.v (.int .u32 (6 : Int))),(D.list 8 (some 8) [(D.v (.int .u8 (43 : Int))),(D.v (.int .u8 (6 : Int))),(D.v (.int .u8 (1 : Int))),(D.v (.int .u8 (5 : Int))),(D.v (.int .u8 (5 : Int))),(D.v (.int .u8 (7 : Int))),(D.v (.int .u8 (2 : Int))),(D.v (.int .u8 (2 : Int)))]),(D.list 0 (some 0) [])])]
def Zmm : D := (D.v (.int .i64 (8 : Int)))
def Zmn : List D := [(D.agg [(D.v (.int .u8 (0 : Int))),(D.v (.bool true)),(D.v (.int .u32 (16 : Int))),(D.list 0 (some 0) []),(D.list 1 (some 1) [(D.v (.int .u8 (0 : Int))),(D.v (.bool false)),(D.v (.int .u32 (12 : Int))),(D.list 1 (some 1) [(D.v (.int .u8 (98 : Int)))]),(D.list 0 (some 0) [])])])]
def Zmo : D := (D.v (.int .i64 (3 : Int)))
def Zmp : List D := [(D.agg [(D.v (.int .u8 (0 : Int))),(D.v (.bool false)),(D.v (.int .u32 (12 : Int))),(D.list 1 (some 1) [(D.v (.int .u8 (98 : Int)))]),(D.list 0 (some 0) [])])]
def Zmq : D := (D.v (.int .i64 (1 : Int)))
theorem Zz2 : funD Tg Z13 100000 60 Z3 Tryz.f166 Zmd = some Zme := by kernel_rfl
theorem Zz3 : funD Tg Z13 100000 60 Z3 Tryz.f166 Zmf = some Zmg := by kernel_rfl
theorem Zz4 : funD Tg Z13 100000 60 Z3 Tryz.f166 Zmh = some Zmi := by kernel_rfl
theorem Zz5 : funD Tg Z13 100000 60 Z3 Tryz.f166 Zmj = some Zmk := by kernel_rfl
theorem Zz6 : funD Tg Z13 100000 60 Z3 Tryz.f166 Zml = some Zmm := by kernel_rfl
theorem Zz7 : funD Tg Z13 100000 60 Z3 Tryz.f166 Zmn = some Zmo := by kernel_rfl
theorem Zz8 : funD Tg Z13 100000 60 Z3 Tryz.f166 Zmp = some Zmq := by kernel_rfl
def Zfl (ds : List D) : Option D := if isT Zmd ds then some Zme else (if isT Zmf ds then some Zmg else (if isT Zmh ds then some Zmi else (if isT Zmj ds then some Zmk else (if isT Zml ds then some Zmm else (if isT Zmn ds then some Zmo else (if isT Zmp ds then some Zmq else (none)))))))
theorem Z12s : ∀ ds d,Zfl ds = some d → DataSem Tg 166 ds d := by
 intro ds d h
 unfold Zfl at h
 split at h
 ·rename_i ha; obtain rfl := isT_eq ha; cases h; exact Z14 Zz2
 split at h
 ·rename_i ha; obtain rfl := isT_eq ha; cases h; exact Z14 Zz3
 split at h
 ·rename_i ha; obtain rfl := isT_eq ha; cases h; exact Z14 Zz4
 split at h
 ·rename_i ha; obtain rfl := isT_eq ha; cases h; exact Z14 Zz5
 split at h
 ·rename_i ha; obtain rfl := isT_eq ha; cases h; exact Z14 Zz6
 split at h
 ·rename_i ha; obtain rfl := isT_eq ha; cases h; exact Z14 Zz7
 split at h
 ·rename_i ha; obtain rfl := isT_eq ha; cases h; exact Z14 Zz8
 cases h
def Z12 : FnH := ⟨[],[]⟩
def Ze2 : FnH := ⟨[],[]⟩
def Zak : FnH := ⟨[],[]⟩
def Zal : FnH := ⟨[(4,⟨(bm 14336 24),[(11,1)],none⟩)],[]⟩
def Zam : FnH := ⟨[],[]⟩
def Z7h : FnH := ⟨[],[]⟩
def Zan : FnH := ⟨[],[]⟩
def Zbf : FnH := ⟨[],[]⟩
def Z8a : FnH := ⟨[],[]⟩
def Z4j : FnH := ⟨[],[]⟩
def Z5c : FnH := ⟨[(2,⟨(bm 387 19),[],none⟩)],[]⟩
def Z6w : FnH := ⟨[(8,⟨(bm 3758096566 83),[(29,1)],none⟩)],[]⟩
def Ze3 : FnH := ⟨[(3,⟨(bm 73 25),[],none⟩),(8,⟨(bm 32 25),[(5,1)],none⟩)],[]⟩
def Z8z : FnH := ⟨[],[]⟩
def Z3m : FnH := ⟨[],[]⟩
def Zao : FnH := ⟨[],[]⟩
def Zap : FnH := ⟨[],[]⟩
def Zk1 : FnH := ⟨[(6,⟨(bm 1924145348608 47),[(38,1)],none⟩)],[]⟩
def Zgz : FnH := ⟨[],[]⟩
def Zfm : FnH := ⟨[],[]⟩
def Zdj : FnH := ⟨[],[]⟩
def Z6h : FnH := ⟨[(25,⟨(bm 16655 151),[],none⟩)],[]⟩
def Zmr : FnH := ⟨[],[]⟩
def Zi4 : FnH := ⟨[(3,⟨(bm 13 43),[],none⟩)],[]⟩
def Zi5 : FnH := ⟨[],[]⟩
def Zi6 : FnH := ⟨[],[]⟩
def Zaq : FnH := ⟨[],[]⟩
def Zdk : FnH := ⟨[],[]⟩
def Zh0 : FnH := ⟨[],[]⟩
def Ze4 : FnH := ⟨[],[]⟩
def Zfn : FnH := ⟨[],[]⟩
def Zh1 : FnH := ⟨[(6,⟨(bm 60129542145 44),[(0,1),(33,5)],none⟩)],[]⟩
theorem Z3y : Enters Tg 78 := ⟨Tryz.f78,Tryz.func78,by kernel_rfl,by kernel_rfl⟩
theorem Ze5 : Enters Tg 99 := ⟨Tryz.f99,Tryz.func99,by kernel_rfl,by kernel_rfl⟩
theorem Zar : Enters Tg 133 := ⟨Tryz.f133,Tryz.func133,by kernel_rfl,by kernel_rfl⟩
theorem Zas : Enters Tg 134 := ⟨Tryz.f134,Tryz.func134,by kernel_rfl,by kernel_rfl⟩
theorem Zat : Enters Tg 135 := ⟨Tryz.f135,Tryz.func135,by kernel_rfl,by kernel_rfl⟩
theorem Z7i : Enters Tg 136 := ⟨Tryz.f136,Tryz.func136,by kernel_rfl,by kernel_rfl⟩
theorem Zau : Enters Tg 137 := ⟨Tryz.f137,Tryz.func137,by kernel_rfl,by kernel_rfl⟩
theorem Zbg : Enters Tg 138 := ⟨Tryz.f138,Tryz.func138,by kernel_rfl,by kernel_rfl⟩
theorem Z8b : Enters Tg 159 := ⟨Tryz.f159,Tryz.func159,by kernel_rfl,by kernel_rfl⟩
theorem Z4k : Enters Tg 176 := ⟨Tryz.f176,Tryz.func176,by kernel_rfl,by kernel_rfl⟩
theorem Z5d : Enters Tg 188 := ⟨Tryz.f188,Tryz.func188,by kernel_rfl,by kernel_rfl⟩
theorem Z6x : Enters Tg 139 := ⟨Tryz.f139,Tryz.func139,by kernel_rfl,by kernel_rfl⟩
theorem Ze6 : Enters Tg 161 := ⟨Tryz.f161,Tryz.func161,by kernel_rfl,by kernel_rfl⟩
theorem Z90 : Enters Tg 180 := ⟨Tryz.f180,Tryz.func180,by kernel_rfl,by kernel_rfl⟩
theorem Z3n : Enters Tg 162 := ⟨Tryz.f162,Tryz.func162,by kernel_rfl,by kernel_rfl⟩
theorem Zav : Enters Tg 140 := ⟨Tryz.f140,Tryz.func140,by kernel_rfl,by kernel_rfl⟩
theorem Zaw : Enters Tg 141 := ⟨Tryz.f141,Tryz.func141,by kernel_rfl,by kernel_rfl⟩
theorem Zk2 : Enters Tg 77 := ⟨Tryz.f77,Tryz.func77,by kernel_rfl,by kernel_rfl⟩
theorem Zh2 : Enters Tg 142 := ⟨Tryz.f142,Tryz.func142,by kernel_rfl,by kernel_rfl⟩
theorem Zfo : Enters Tg 163 := ⟨Tryz.f163,Tryz.func163,by kernel_rfl,by kernel_rfl⟩
theorem Zdl : Enters Tg 181 := ⟨Tryz.f181,Tryz.func181,by kernel_rfl,by kernel_rfl⟩
theorem Z6i : Enters Tg 182 := ⟨Tryz.f182,Tryz.func182,by kernel_rfl,by kernel_rfl⟩
theorem Zms : Enters Tg 191 := ⟨Tryz.f191,Tryz.func191,by kernel_rfl,by kernel_rfl⟩
theorem Zi7 : Enters Tg 198 := ⟨Tryz.f198,Tryz.func198,by kernel_rfl,by kernel_rfl⟩
theorem Zi8 : Enters Tg 192 := ⟨Tryz.f192,Tryz.func192,by kernel_rfl,by kernel_rfl⟩
theorem Zi9 : Enters Tg 193 := ⟨Tryz.f193,Tryz.func193,by kernel_rfl,by kernel_rfl⟩
theorem Zax : Enters Tg 143 := ⟨Tryz.f143,Tryz.func143,by kernel_rfl,by kernel_rfl⟩
theorem Zdm : Enters Tg 113 := ⟨Tryz.f113,Tryz.func113,by kernel_rfl,by kernel_rfl⟩
theorem Zh3 : Enters Tg 116 := ⟨Tryz.f116,Tryz.func116,by kernel_rfl,by kernel_rfl⟩
theorem Ze7 : Enters Tg 146 := ⟨Tryz.f146,Tryz.func146,by kernel_rfl,by kernel_rfl⟩
theorem Zfp : Enters Tg 147 := ⟨Tryz.f147,Tryz.func147,by kernel_rfl,by kernel_rfl⟩
theorem Zh4 : Enters Tg 148 := ⟨Tryz.f148,Tryz.func148,by kernel_rfl,by kernel_rfl⟩
noncomputable def Z68 : Hints := ⟨[(112,Zfb),(114,Zf1),(115,Z12q),(160,Z4w),(165,Zfg),(166,Zfl),(167,Zf2),(168,Zs8),(169,Zw6),(170,Zll),(177,Z42),(178,Z59),(185,Zcc)],[(78,Tryz.f78,Z12),(99,Tryz.f99,Ze2),(133,Tryz.f133,Zak),(134,Tryz.f134,Zal),(135,Tryz.f135,Zam),(136,Tryz.f136,Z7h),(137,Tryz.f137,Zan),(138,Tryz.f138,Zbf),(159,Tryz.f159,Z8a),(176,Tryz.f176,Z4j),(188,Tryz.f188,Z5c),(139,Tryz.f139,Z6w),(161,Tryz.f161,Ze3),(180,Tryz.f180,Z8z),(162,Tryz.f162,Z3m),(140,Tryz.f140,Zao),(141,Tryz.f141,Zap),(77,Tryz.f77,Zk1),(142,Tryz.f142,Zgz),(163,Tryz.f163,Zfm),(181,Tryz.f181,Zdj),(182,Tryz.f182,Z6h),(191,Tryz.f191,Zmr),(198,Tryz.f198,Zi4),(192,Tryz.f192,Zi5),(193,Tryz.f193,Zi6),(143,Tryz.f143,Zaq),(113,Tryz.f113,Zdk),(116,Tryz.f116,Zh0),(146,Tryz.f146,Ze4),(147,Tryz.f147,Zfn),(148,Tryz.f148,Zh1)],[203,205,206,208,148]⟩
theorem Zgk {m n : Nat} {ds : List D} {d : D} (h : funD Tg Z68 m n Z12 Tryz.f78 ds = some d) : DataSem Tg 78 ds d := Z0 (H := Z68) (SpOk.cons Z12p (SpOk.cons Zwr (SpOk.cons Z1il (SpOk.cons Zkl (SpOk.cons Z12r (SpOk.cons Z12s (SpOk.cons Zx3 (SpOk.cons Z17c (SpOk.cons Z1ah (SpOk.cons Z11k (SpOk.cons Zdd (SpOk.cons Zm4 (SpOk.cons Zop SpOk.nil))))))))))))) mixed (InlOk.cons Tryz.func78 Z3y (InlOk.cons Tryz.func99 Ze5 (InlOk.cons Tryz.func133 Zar (InlOk.cons Tryz.func134 Zas (InlOk.cons Tryz.func135 Zat (InlOk.cons Tryz.func136 Z7i (InlOk.cons Tryz.func137 Zau (InlOk.cons Tryz.func138 Zbg (InlOk.cons Tryz.func159 Z8b (InlOk.cons Tryz.func176 Z4k (InlOk.cons Tryz.func188 Z5d (InlOk.cons Tryz.func139 Z6x (InlOk.cons Tryz.func161 Ze6 (InlOk.cons Tryz.func180 Z90 (InlOk.cons Tryz.func162 Z3n (InlOk.cons Tryz.func140 Zav (InlOk.cons Tryz.func141 Zaw (InlOk.cons Tryz.func77 Zk2 (InlOk.cons Tryz.func142 Zh2 (InlOk.cons Tryz.func163 Zfo (InlOk.cons Tryz.func181 Zdl (InlOk.cons Tryz.func182 Z6i (InlOk.cons Tryz.func191 Zms (InlOk.cons Tryz.func198 Zi7 (InlOk.cons Tryz.func192 Zi8 (InlOk.cons Tryz.func193 Zi9 (InlOk.cons Tryz.func143 Zax (InlOk.cons Tryz.func113 Zdm (InlOk.cons Tryz.func116 Zh3 (InlOk.cons Tryz.func146 Ze7 (InlOk.cons Tryz.func147 Zfp (InlOk.cons Tryz.func148 Zh4 InlOk.nil)))))))))))))))))))))))))))))))) Tryz.func78 Z3y h
def Zmt : List D := [(D.agg [(D.v (.int .u8 (1 : Int))),(D.v (.string (ByteArray.mk #[104,116,116,112,58,47,47,97]))),(D.v (.bool false)),zU,(D.v (.string (ByteArray.mk #[]))),(D.list 0 (some 0) []),(D.v (.bool false)),zU,(D.v (.string (ByteArray.mk #[]))),(D.v (.int .u8 (0 : Int))),zU,zU,zU,zU,zU,zU,zU,zU,zU,zU,zU,zU,zU,zU,zU,zU,(D.list 0 (some 0) [])])]
def Zmu : D := zI
def Zmv : List D := [(D.agg [(D.v (.int .u8 (2 : Int))),(D.v (.string (ByteArray.mk #[]))),(D.v (.bool false)),zU,(D.v (.string (ByteArray.mk #[]))),(D.list 0 (some 0) []),(D.v (.bool true)),(D.v (.int .u32 (12 : Int))),(D.v (.string (ByteArray.mk #[98]))),(D.v (.int .u8 (0 : Int))),zU,zU,zU,zU,zU,zU,zU,zU,zU,zU,zU,zU,zU,zU,zU,zU,(D.list 0 (some 0) [])])]
def Zmw : D := zI
theorem Zz9 : funD Tg Z68 100000 60 Z12 Tryz.f78 Zmt = some Zmu := by kernel_rfl
theorem Zza : funD Tg Z68 100000 60 Z12 Tryz.f78 Zmv = some Zmw := by kernel_rfl
def Z4l (ds : List D) : Option D := if isT Zmt ds then some Zmu else (if isT Zmv ds then some Zmw else (none))
theorem Z12t : ∀ ds d,Z4l ds = some d → DataSem Tg 78 ds d := by
 intro ds d h
 unfold Z4l at h
 split at h
 ·rename_i ha; obtain rfl := isT_eq ha; cases h; exact Zgk Zz9
 split at h
 ·rename_i ha; obtain rfl := isT_eq ha; cases h; exact Zgk Zza
 cases h
end Go.Ev